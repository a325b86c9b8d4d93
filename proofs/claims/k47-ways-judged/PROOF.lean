import PyProof.Rows.All
import Wide.All
import OpenK.AllK
import Wide.FinOn
import HandS.ForMost
import HandS.IsInst
import HandS.Flow
import HandS.SortInts
import HandS.More
import HandS.Text
import HandS.Walk
import HandS.Conv
import PyProof.ReprRoads
import HandS.TupAny
import HandS.TryOnly
import HandS.Deep
import HandS.Style
import PyProof.NeKinds
import HandS.TupLe
import PyProof.Rows.IntBool
import PyProof.Draws
import PyProof.EnumMake
import HandS.Zip0
import HandS.RaiseMore
import HandS.Replace
import KE.KRevSl
import HandS.Zip
import PyProof.ReprBulk
import PyProof.Rows.CountFlat
import PySem.Challenge.RW_wrapnets_k47_ways_judged
set_option Elab.async false
set_option maxRecDepth 100000
set_option linter.all false
namespace Wn
open PySem L2

/-- what a caller knows of a def: that it keeps a promise, and where it stands -/
def Cd (P : Program) (w : World) (K : PySem.W.Frag) (mg : Str → Option Value) (base : Heap) (k : Nat) (name : Str) (ps : List Str) (sp : Sp) : Prop :=
  ∃ (f : Addr) (fd : FuncData), FnOk P w K mg base CX0 k f fd ps sp ∧ mg name = some (.ref f) ∧ PySem.W.keepIn K (.ref f) = true ∧ Binds K fd ps []
/-- what a caller knows of a method -/
def Md (P : Program) (w : World) (K : PySem.W.Frag) (mg : Str → Option Value) (base : Heap) (k : Nat) (C : Addr) (name : Str) (ps : List Str) (sp : Sp) : Prop :=
  ∃ (f : Addr) (fd : FuncData), FnOk P w K mg base CX0 k f fd ps sp ∧ Meth K C name f ∧ Binds K fd ps []

/-- all but some addresses stay -/
def Kp (M : List Addr) (H H' : Hp) : Prop := ∀ b o, b ∉ M → H b = some o → H' b = some o
theorem Kp.refl (M : List Addr) (H : Hp) : Kp M H H := fun _ _ _ h => h
theorem Kp.trans {M : List Addr} {H H1 H2 : Hp} (a : Kp M H H1) (b : Kp M H1 H2) : Kp M H H2 := fun c o hc h => b c o hc (a c o hc h)
theorem Kp.mono {M M' : List Addr} {H H1 : Hp} (a : Kp M H H1) (h : ∀ x ∈ M, x ∈ M') : Kp M' H H1 := fun c o hc q => a c o (fun z => hc (h c z)) q
theorem Kp.of {M : List Addr} {H H1 : Hp} (a : Same H H1) : Kp M H H1 := fun c o _ q => a c o q
theorem Kp.new {M : List Addr} {H H1 : Hp} {p : Addr} {o : HO} (a : Kp M H H1) (hp : H1 p = none) : Kp M H (upd H1 p o) := fun c u hc q => by
  rw [upd_ne (ne_of_none (a c u hc q) hp)]
  exact a c u hc q
theorem Kp.wr {M : List Addr} {H H1 : Hp} {p : Addr} {o : HO} (a : Kp M H H1) (hp : p ∈ M) : Kp M H (upd H1 p o) := fun c u hc q => by
  rw [upd_ne (show c ≠ p from fun z => hc (by rw [z]; exact hp))]
  exact a c u hc q
/-- a write to what wasn't there at first -/
theorem Kp.wrn {M : List Addr} {H H1 : Hp} {p : Addr} {o : HO} (a : Kp M H H1) (hp : H p = none) : Kp M H (upd H1 p o) := fun c u hc q => by
  rw [upd_ne (ne_of_none q hp)]
  exact a c u hc q
theorem _root_.L2.Same.new {H H1 : Hp} {p : Addr} {o : HO} (a : Same H H1) (hp : H1 p = none) : Same H (upd H1 p o) := fun c u q => by
  rw [upd_ne (ne_of_none (a c u q) hp)]
  exact a c u q
theorem _root_.L2.Same.wrn {H H1 : Hp} {p : Addr} {o : HO} (a : Same H H1) (hp : H p = none) : Same H (upd H1 p o) := fun c u q => by
  rw [upd_ne (ne_of_none q hp)]
  exact a c u q

/-- a while by a word and a measure -/
theorem while_m {c : TT} {tb : TS} {D : Ends} {σ : L2.St} {H : Hp} (Pv : L2.St → Hp → Prop) (μ : L2.St → Hp → Nat) (h0 : Pv σ H)
    (hs : ∀ m σ H, m = μ σ H → Pv σ H → c σ H fun b H1 => if b = true then ∃ N : L2.St → Hp → Prop, (∀ σ' H', N σ' H' → ∃ m', m' < m ∧ (m' = μ σ' H' ∧ Pv σ' H')) ∧ tb { D with nx := N, ct := N, bk := D.nx } σ H1 else D.nx σ H1) : tWhile c tb D σ H :=
  ⟨fun m σ H => m = μ σ H ∧ Pv σ H, ⟨_, rfl, h0⟩, fun m σ H ⟨e, p⟩ => hs m σ H e p⟩

/-! ### the deck -/
def spMixed : Sp := fun vs H Q _ => ∃ (c a : Int), vs = [.int c, .int a] ∧ -1 ≤ a ∧ a < 2 ^ 60 ∧ ∀ r : Int, Q (.int r) H
/-- a deck at d, of which n draws were taken at most -/
def Deck (H : Hp) (d f : Addr) (n : Int) : Prop :=
  ∃ (a wh : Int) (xs : List Int), H d = some (.lst [.int a, .int wh, .ref f]) ∧ H f = some (.lst (xs.map V.int)) ∧ 0 ≤ a ∧ a ≤ n ∧ xs.length ≤ 100000
def spNext : Sp := fun vs H Q _ => ∃ (d f : Addr) (m n : Int), vs = [.ref d, .int m] ∧ 0 < m ∧ n < 2 ^ 60 ∧ Deck H d f n ∧
  ∀ (r : Int) (H' : Hp), 0 ≤ r → r < m → Kp [d] H H' → Deck H' d f (n + 1) → Q (.int r) H'
def spDeck (K : PySem.W.Frag) : Sp := fun vs H Q _ => ∃ (a : Addr) (ns : List Int), vs = [.ref a] ∧ SqL K H a (ns.map V.int) ∧ ns.length ≤ 63 ∧
  ∀ (H' : Hp) (d f : Addr), H d = none → H f = none → Same H H' → Deck H' d f 0 → Q (.ref d) H'
end Wn

namespace Wn
open PySem L2
/-! ### tuples stay, whatever is called -/
def TK (H H' : Hp) : Prop := (∀ b xs, H b = some (.tup xs) → H' b = some (.tup xs)) ∧ (∀ b o u, H b = some (.frz o u) → H' b = some (.frz o u))
theorem TK.refl (H : Hp) : TK H H := ⟨fun _ _ h => h, fun _ _ _ h => h⟩
theorem TK.trans {H H1 H2 : Hp} (a : TK H H1) (b : TK H1 H2) : TK H H2 := ⟨fun c o h => b.1 c o (a.1 c o h), fun c o u h => b.2 c o u (a.2 c o u h)⟩
theorem TK.of {H H1 : Hp} (a : Same H H1) : TK H H1 := ⟨fun c o h => a _ _ h, fun c o u h => a _ _ h⟩
theorem TK.new {H H1 : Hp} {p : Addr} {o : HO} (a : TK H H1) (hp : H1 p = none) : TK H (upd H1 p o) :=
  ⟨fun c u q => by rw [upd_ne (ne_of_none (a.1 c u q) hp)]; exact a.1 c u q, fun c u z q => by rw [upd_ne (ne_of_none (a.2 c u z q) hp)]; exact a.2 c u z q⟩
/-- what is neither a tuple nor locked may be written -/
def Wrt : HO → Bool
  | .tup _ => false
  | .frz _ _ => false
  | _ => true
theorem TK.wr {H H1 : Hp} {p : Addr} {o u : HO} (a : TK H H1) (hp : H1 p = some u) (hu : Wrt u = true) : TK H (upd H1 p o) :=
  ⟨fun c v q => by
    have h1 := a.1 c v q
    rw [upd_ne (ne_of h1 hp (fun z => by rw [← z] at hu; cases hu))]
    exact h1, fun c v z q => by
    have h1 := a.2 c v z q
    rw [upd_ne (ne_of h1 hp (fun z => by rw [← z] at hu; cases hu))]
    exact h1⟩
theorem _root_.L2.FnOk.tk {P : Program} {w : World} {K : PySem.W.Frag} {mg : Str → Option Value} {base : Heap} {k : Nat} {f : Addr} {fd : FuncData} {ps : List Str} {sp : Sp} (F : FnOk P w K mg base CX0 k f fd ps sp) :
    FnOk P w K mg base CX0 k f fd ps (fun vs H Q E => sp vs H (fun v H' => TK H H' → Q v H') E) := by
  refine ⟨fun vs H Q E q => F.len vs H _ E q, fun A outer s H args us vs Q E hr he hb hv hs => ?_⟩
  refine codeAny_mono (F.run A outer s H args us vs _ E hr he hb hv hs) fun r s' h => ?_
  cases r with
  | ok fl =>
    cases fl with
    | ret u =>
      obtain ⟨v, H', e1, e2, e3, e4, e5, q⟩ := h
      exact ⟨v, H', e1, e2, e3, e4, e5, q ⟨e3.tups, e3.frzs⟩⟩
    | _ => exact h
  | error e => exact h
/-- a promise, tuples kept besides -/
def Tk (sp : Sp) : Sp := fun vs H Q E => sp vs H (fun v H' => TK H H' → Q v H') E
theorem Cd.tk {P : Program} {w : World} {K : PySem.W.Frag} {mg : Str → Option Value} {base : Heap} {k : Nat} {name : Str} {ps : List Str} {sp : Sp} (h : Cd P w K mg base k name ps sp) : Cd P w K mg base k name ps (Tk sp) := by
  obtain ⟨f, fd, G, a, b, c⟩ := h
  exact ⟨f, fd, G.tk, a, b, c⟩
theorem Md.tk {P : Program} {w : World} {K : PySem.W.Frag} {mg : Str → Option Value} {base : Heap} {k : Nat} {C : Addr} {name : Str} {ps : List Str} {sp : Sp} (h : Md P w K mg base k C name ps sp) : Md P w K mg base k C name ps (Tk sp) := by
  obtain ⟨f, fd, G, a, b⟩ := h
  exact ⟨f, fd, G.tk, a, b⟩

/-! ### data: None, truths, ints, texts, tuples of these -/
mutual
def Rp (K : PySem.W.Frag) (H : Hp) : PyData → V → Prop
  | .none, v => v = .non
  | .bool b, v => v = .bl b
  | .int i, v => v = .int i
  | .str s, v => v = .str s
  | .tuple ds, v => ∃ a xs, v = .ref a ∧ SqT K H a xs ∧ RpL K H ds xs
  | .list _, _ => False
  | .dict _, _ => False
def RpL (K : PySem.W.Frag) (H : Hp) : List PyData → List V → Prop
  | [], xs => xs = []
  | d :: ds, xs => ∃ v r, xs = v :: r ∧ Rp K H d v ∧ RpL K H ds r
end
mutual
def dep : PyData → Nat
  | .tuple xs => deps xs + 1
  | _ => 0
def deps : List PyData → Nat
  | [] => 0
  | x :: xs => max (dep x) (deps xs)
end
mutual
def sz : PyData → Nat
  | .tuple xs => szs xs + 1
  | _ => 1
def szs : List PyData → Nat
  | [] => 0
  | x :: xs => sz x + szs xs
end
theorem SqT.tk {K : PySem.W.Frag} {H H' : Hp} {a : Addr} {xs : List V} (h : SqT K H a xs) (e : TK H H') : SqT K H' a xs := by
  rcases h with (h | ⟨o, h⟩) | h
  · exact .inl (.inl (e.1 _ _ h))
  · exact .inl (.inr ⟨o, e.2 _ _ _ h⟩)
  · exact .inr h
mutual
theorem Rp.tk {K : PySem.W.Frag} {H H' : Hp} (e : TK H H') : ∀ (d : PyData) (v : V), Rp K H d v → Rp K H' d v
  | .none, _, h => h
  | .bool _, _, h => h
  | .int _, _, h => h
  | .str _, _, h => h
  | .tuple ds, v, h => by
    unfold Rp at h ⊢
    obtain ⟨a, xs, rfl, hs, hl⟩ := h
    exact ⟨a, xs, rfl, SqT.tk hs e, RpL.tk e ds xs hl⟩
  | .list _, _, h => h
  | .dict _, _, h => h
theorem RpL.tk {K : PySem.W.Frag} {H H' : Hp} (e : TK H H') : ∀ (ds : List PyData) (xs : List V), RpL K H ds xs → RpL K H' ds xs
  | [], _, h => h
  | d :: ds, xs, h => by
    unfold RpL at h ⊢
    obtain ⟨v, r, rfl, h1, h2⟩ := h
    exact ⟨v, r, rfl, Rp.tk e d v h1, RpL.tk e ds r h2⟩
end
theorem RpL.len {K : PySem.W.Frag} {H : Hp} : ∀ (ds : List PyData) (xs : List V), RpL K H ds xs → xs.length = ds.length
  | [], xs, h => by
    unfold RpL at h
    rw [h]
    rfl
  | d :: ds, xs, h => by
    unfold RpL at h
    obtain ⟨v, r, rfl, h1, h2⟩ := h
    rw [List.length_cons, List.length_cons, RpL.len ds r h2]
theorem RpL.get {K : PySem.W.Frag} {H : Hp} : ∀ (ds : List PyData) (xs : List V), RpL K H ds xs → ∀ (i : Nat) (d : PyData), ds[i]? = some d → ∃ v, xs[i]? = some v ∧ Rp K H d v
  | [], xs, h, i, d, e => by cases e
  | d :: ds, xs, h, i, d', e => by
    unfold RpL at h
    obtain ⟨v, r, rfl, h1, h2⟩ := h
    cases i with
    | zero =>
      simp only [List.getElem?_cons_zero, Option.some.injEq] at e
      exact ⟨v, rfl, e ▸ h1⟩
    | succ i =>
      simp only [List.getElem?_cons_succ] at e ⊢
      exact RpL.get ds r h2 i d' e
theorem RpL.of {K : PySem.W.Frag} {H : Hp} : ∀ (ds : List PyData) (xs : List V), xs.length = ds.length → (∀ (i : Nat) (d : PyData) (v : V), ds[i]? = some d → xs[i]? = some v → Rp K H d v) → RpL K H ds xs
  | [], xs, h, _ => by
    unfold RpL
    exact List.length_eq_zero_iff.mp h
  | d :: ds, [], h, _ => by cases h
  | d :: ds, v :: r, h, k => by
    unfold RpL
    refine ⟨v, r, rfl, k 0 d v rfl rfl, RpL.of ds r (by simpa using h) fun i d' v' h1 h2 => k (i + 1) d' v' ?_ ?_⟩
    · simpa using h1
    · simpa using h2
theorem RpL.snoc {K : PySem.W.Frag} {H : Hp} {d : PyData} {v : V} (h : Rp K H d v) : ∀ (ds : List PyData) (xs : List V), RpL K H ds xs → RpL K H (ds ++ [d]) (xs ++ [v])
  | [], xs, q => by
    unfold RpL at q
    subst q
    show RpL K H [d] [v]
    unfold RpL
    exact ⟨v, [], rfl, h, by unfold RpL; rfl⟩
  | d' :: ds, xs, q => by
    unfold RpL at q
    obtain ⟨v', r, rfl, h1, h2⟩ := q
    show RpL K H (d' :: (ds ++ [d])) (v' :: (r ++ [v]))
    unfold RpL
    exact ⟨_, _, rfl, h1, RpL.snoc h ds r h2⟩
theorem dep_get : ∀ (ds : List PyData) (i : Nat) (d : PyData), ds[i]? = some d → dep d ≤ deps ds
  | [], i, d, e => by cases e
  | x :: xs, 0, d, e => by
    simp only [List.getElem?_cons_zero, Option.some.injEq] at e
    unfold deps
    rw [e]
    exact Nat.le_max_left _ _
  | x :: xs, i + 1, d, e => by
    simp only [List.getElem?_cons_succ] at e
    unfold deps
    exact Nat.le_trans (dep_get xs i d e) (Nat.le_max_right _ _)
theorem sz_get : ∀ (ds : List PyData) (i : Nat) (d : PyData), ds[i]? = some d → sz d ≤ szs ds
  | [], i, d, e => by cases e
  | x :: xs, 0, d, e => by
    simp only [List.getElem?_cons_zero, Option.some.injEq] at e
    unfold szs
    rw [e]
    exact Nat.le_add_right _ _
  | x :: xs, i + 1, d, e => by
    simp only [List.getElem?_cons_succ] at e
    unfold szs
    exact Nat.le_trans (sz_get xs i d e) (Nat.le_add_left _ _)
theorem sz_pos : ∀ d : PyData, 1 ≤ sz d
  | .tuple xs => by unfold sz; omega
  | .none | .bool _ | .int _ | .str _ | .list _ | .dict _ => by unfold sz; exact Nat.le_refl _
theorem szs_len : ∀ ds : List PyData, ds.length ≤ szs ds
  | [] => Nat.zero_le _
  | x :: xs => by
    have := szs_len xs
    have := sz_pos x
    unfold szs
    rw [List.length_cons]
    omega
/-- the type of such a thing -/
theorem ty_tup {K : PySem.W.Frag} {H : Hp} {a : Addr} {xs : List V} (h : SqT K H a xs) : TyX K H (.ref a) (.type "tuple") := by
  rcases h with (h | ⟨o, h⟩) | ⟨o, its, n, h, c, _⟩
  · exact .base (.tup h)
  · exact .fTuple h
  · exact .kTuple h c
/-- the same data handed in twice, of depth below n: True -/
def spSame (K : PySem.W.Frag) (n : Nat) : Sp := fun vs H Q _ => ∃ (x y : V) (d : PyData), vs = [x, y] ∧ Rp K H d x ∧ Rp K H d y ∧ dep d < n ∧ sz d ≤ 1000000 ∧ ∀ H', Same H H' → Q (.bl true) H'
end Wn

namespace Wn
open PySem L2
theorem fld1 {f : Str} {v : V} : ([(f, v)] : List (Str × V)).lookup f = some v := by
  show (match f == f with | true => some v | false => _) = some v
  rw [beq_self_eq_true]
theorem fld1_ne {f g : Str} {v : V} (h : (g == f) = false) : ([(f, v)] : List (Str × V)).lookup g = none := by
  show (match g == f with | true => some v | false => _) = none
  rw [h]
  rfl
theorem putF1 {f : Str} {v u : V} : putF f u [(f, v)] = [(f, u)] := by
  show (if f = f then (f, u) :: [] else _) = _
  rw [if_pos rfl]
/-! ### dicts by whole numbers, their values data -/
section
variable {α : Type}
def lookA (m : List (Int × α)) (k : Int) : Option α := (m.find? fun p => decide (p.1 = k)).map (·.2)
def putA (m : List (Int × α)) (k : Int) (v : α) : List (Int × α) :=
  if (m.any fun kv => decide (kv.1 = k)) = true then m.map (fun kv => if kv.1 = k then (kv.1, v) else kv) else m ++ [(k, v)]
def dropA (m : List (Int × α)) (k : Int) : List (Int × α) := m.filter fun kv => decide (kv.1 ≠ k)
theorem putA_len (m : List (Int × α)) (k : Int) (v : α) : (putA m k v).length ≤ m.length + 1 := by
  unfold putA
  split
  · rw [List.length_map]
    omega
  · rw [List.length_append, List.length_singleton]
    exact Nat.le_refl _
theorem dropA_len (m : List (Int × α)) (k : Int) : (dropA m k).length ≤ m.length := List.length_filter_le _ _
def RpD (enc : α → PyData) (K : PySem.W.Frag) (H : Hp) : List (Int × α) → List (Key × V) → Prop
  | [], kvs => kvs = []
  | p :: m, kvs => ∃ v r, kvs = (Sum.inl p.1, v) :: r ∧ Rp K H (enc p.2) v ∧ RpD enc K H m r
variable {enc : α → PyData} {K : PySem.W.Frag} {H H' : Hp}
theorem RpD.tk (e : TK H H') : ∀ {m : List (Int × α)} {kvs : List (Key × V)}, RpD enc K H m kvs → RpD enc K H' m kvs
  | [], _, h => h
  | p :: m, kvs, h => by
    obtain ⟨v, r, rfl, h1, h2⟩ := h
    exact ⟨v, r, rfl, Rp.tk e _ _ h1, RpD.tk e h2⟩
theorem RpD.len : ∀ {m : List (Int × α)} {kvs : List (Key × V)}, RpD enc K H m kvs → kvs.length = m.length
  | [], kvs, h => by rw [show kvs = [] from h]; rfl
  | p :: m, kvs, h => by
    obtain ⟨v, r, rfl, h1, h2⟩ := h
    rw [List.length_cons, List.length_cons, RpD.len h2]
theorem RpD.keys : ∀ {m : List (Int × α)} {kvs : List (Key × V)}, RpD enc K H m kvs → (kvs.map fun kv => kV kv.1) = (m.map (·.1)).map V.int
  | [], kvs, h => by rw [show kvs = [] from h]; rfl
  | p :: m, kvs, h => by
    obtain ⟨v, r, rfl, h1, h2⟩ := h
    rw [List.map_cons, List.map_cons, List.map_cons, RpD.keys h2]
    rfl
theorem inl_iff {a b : Int} : ((Sum.inl a : Key) = Sum.inl b) ↔ a = b := ⟨fun h => by cases h; rfl, fun h => by rw [h]⟩
theorem RpD.val {k : Int} : ∀ {m : List (Int × α)} {kvs : List (Key × V)}, RpD enc K H m kvs → (lookA m k = none ∧ valV kvs (Sum.inl k) = none) ∨ ∃ x v, lookA m k = some x ∧ valV kvs (Sum.inl k) = some v ∧ Rp K H (enc x) v
  | [], kvs, h => by
    rw [show kvs = [] from h]
    exact .inl ⟨rfl, rfl⟩
  | p :: m, kvs, h => by
    obtain ⟨v, r, rfl, h1, h2⟩ := h
    by_cases e : p.1 = k
    · refine .inr ⟨p.2, v, ?_, valV_pos (by rw [e]), h1⟩
      simp [lookA, List.find?_cons, e]
    · have e1 : lookA (p :: m) k = lookA m k := by simp [lookA, List.find?_cons, e]
      rw [e1, valV_neg (p := (Sum.inl p.1, v)) (fun z => e (inl_iff.mp z))]
      exact RpD.val h2
theorem RpD.any {k : Int} : ∀ {m : List (Int × α)} {kvs : List (Key × V)}, RpD enc K H m kvs → (kvs.any fun kv => decide (kv.1 = Sum.inl k)) = (m.any fun kv => decide (kv.1 = k))
  | [], kvs, h => by rw [show kvs = [] from h]; rfl
  | p :: m, kvs, h => by
    obtain ⟨v, r, rfl, h1, h2⟩ := h
    rw [List.any_cons, List.any_cons, RpD.any h2]
    congr 1
    exact decide_eq_decide.mpr inl_iff
theorem RpD.snoc {k : Int} {x : α} {v : V} (hv : Rp K H (enc x) v) : ∀ {m : List (Int × α)} {kvs : List (Key × V)}, RpD enc K H m kvs → RpD enc K H (m ++ [(k, x)]) (kvs ++ [(Sum.inl k, v)])
  | [], kvs, h => by
    rw [show kvs = [] from h]
    exact ⟨v, [], rfl, hv, rfl⟩
  | p :: m, kvs, h => by
    obtain ⟨u, r, rfl, h1, h2⟩ := h
    exact ⟨u, _, rfl, h1, RpD.snoc hv h2⟩
theorem RpD.map {k : Int} {x : α} {v : V} (hv : Rp K H (enc x) v) : ∀ {m : List (Int × α)} {kvs : List (Key × V)}, RpD enc K H m kvs → RpD enc K H (m.map fun kv => if kv.1 = k then (kv.1, x) else kv) (kvs.map fun kv => if kv.1 = Sum.inl k then (kv.1, v) else kv)
  | [], kvs, h => by rw [show kvs = [] from h]; rfl
  | p :: m, kvs, h => by
    obtain ⟨u, r, rfl, h1, h2⟩ := h
    have h3 := RpD.map (k := k) hv h2
    rw [List.map_cons, List.map_cons]
    by_cases e : p.1 = k
    · rw [if_pos e, if_pos (inl_iff.mpr e)]
      exact ⟨v, _, rfl, hv, h3⟩
    · rw [if_neg e, if_neg (fun z => e (inl_iff.mp z))]
      exact ⟨u, _, rfl, h1, h3⟩
theorem RpD.put {k : Int} {x : α} {v : V} {m : List (Int × α)} {kvs : List (Key × V)} (h : RpD enc K H m kvs) (hv : Rp K H (enc x) v) : RpD enc K H (putA m k x) (putK kvs (Sum.inl k) v) := by
  unfold putA putK
  rw [h.any]
  split
  · exact h.map hv
  · exact h.snoc hv
theorem RpD.drop {k : Int} : ∀ {m : List (Int × α)} {kvs : List (Key × V)}, RpD enc K H m kvs → RpD enc K H (dropA m k) (dropK kvs (Sum.inl k))
  | [], kvs, h => by rw [show kvs = [] from h]; rfl
  | p :: m, kvs, h => by
    obtain ⟨u, r, rfl, h1, h2⟩ := h
    have h3 := RpD.drop (k := k) h2
    unfold dropA dropK at *
    by_cases e : p.1 = k
    · rw [List.filter_cons_of_neg (by simp [e]), List.filter_cons_of_neg (by simp [e])]
      exact h3
    · rw [List.filter_cons_of_pos (by simp [e]), List.filter_cons_of_pos (by simp [inl_iff, e])]
      exact ⟨u, _, rfl, h1, h3⟩
/-- a dict at q that stands for m -/
def DictAt (enc : α → PyData) (K : PySem.W.Frag) (H : Hp) (q : Addr) (m : List (Int × α)) : Prop := ∃ kvs, H q = some (.dK kvs) ∧ RpD enc K H m kvs
theorem DictAt.kp {M : List Addr} {q : Addr} {m : List (Int × α)} (h : DictAt enc K H q m) (k : Kp M H H') (t : TK H H') (n : q ∉ M) : DictAt enc K H' q m := by
  obtain ⟨kvs, a, b⟩ := h
  exact ⟨kvs, k _ _ n a, b.tk t⟩
def sortI (ns : List Int) : List Int := ns.mergeSort (fun a b => decide (a ≤ b))
theorem sortI_perm (ns : List Int) : (sortI ns).Perm ns := List.mergeSort_perm _ _
theorem sortI_sorted (ns : List Int) : (sortI ns).Pairwise (· ≤ ·) := by
  have h := List.pairwise_mergeSort (le := fun a b : Int => decide (a ≤ b)) (fun a b c h1 h2 => by simp only [decide_eq_true_eq] at *; omega) (fun a b => by simp only [Bool.or_eq_true, decide_eq_true_eq]; omega) ns
  exact h.imp fun h => of_decide_eq_true h
theorem sortI_eq {ns ms : List Int} (p : ms.Perm ns) (s : ms.Pairwise (· ≤ ·)) : ms = sortI ns :=
  PySem.W.ksm_same (p.trans (sortI_perm ns).symm) s (sortI_sorted ns)
/-- rows by hands: (hand,) and what stands there -/
def rowsD (encL : α → List PyData) (m : List (Int × α)) : PyData := .tuple ((sortI (m.map (·.1))).map fun k => .tuple (.int k :: ((lookA m k).map encL).getD []))
theorem lookA_mem {m : List (Int × α)} {k : Int} (h : k ∈ m.map (·.1)) : ∃ x, lookA m k = some x ∧ (k, x) ∈ m := by
  obtain ⟨p, hp, rfl⟩ := List.mem_map.mp h
  unfold lookA
  cases e : m.find? fun q => decide (q.1 = p.1) with
  | none =>
    have := List.find?_eq_none.mp e p hp
    simp at this
  | some q =>
    have h1 := List.find?_some e
    have h2 := List.mem_of_find?_eq_some e
    simp only [decide_eq_true_eq] at h1
    exact ⟨q.2, rfl, by rw [← h1]; exact h2⟩
theorem szs_map_le {β : Type} {f : β → PyData} {c : Nat} : ∀ (l : List β), (∀ x ∈ l, sz (f x) ≤ c) → szs (l.map f) ≤ c * l.length
  | [], _ => Nat.zero_le _
  | x :: l, h => by
    have h1 := szs_map_le l fun y hy => h y (List.mem_cons_of_mem _ hy)
    have h2 := h x List.mem_cons_self
    rw [List.map_cons, List.length_cons]
    unfold szs
    rw [Nat.mul_succ]
    omega
theorem deps_map_le {β : Type} {f : β → PyData} {c : Nat} : ∀ (l : List β), (∀ x ∈ l, dep (f x) ≤ c) → deps (l.map f) ≤ c
  | [], _ => Nat.zero_le _
  | x :: l, h => by
    have h1 := deps_map_le l fun y hy => h y (List.mem_cons_of_mem _ hy)
    have h2 := h x List.mem_cons_self
    rw [List.map_cons]
    unfold deps
    omega
theorem Rp.tup {ds : List PyData} {a : Addr} {xs : List V} (h : H a = some (.tup xs)) (r : RpL K H ds xs) : Rp K H (.tuple ds) (.ref a) := by
  unfold Rp
  exact ⟨a, xs, rfl, SqT.of h, r⟩
theorem Rp.tupS {ds : List PyData} {a : Addr} {xs : List V} (h : SqT K H a xs) (r : RpL K H ds xs) : Rp K H (.tuple ds) (.ref a) := by
  unfold Rp
  exact ⟨a, xs, rfl, h, r⟩
theorem RpL.cons {d : PyData} {ds : List PyData} {v : V} {xs : List V} (h : Rp K H d v) (r : RpL K H ds xs) : RpL K H (d :: ds) (v :: xs) := by
  unfold RpL
  exact ⟨v, xs, rfl, h, r⟩
theorem RpL.nil : RpL K H [] [] := by
  unfold RpL
  rfl
theorem Rp.int {i : Int} : Rp K H (.int i) (.int i) := by
  unfold Rp
  rfl
theorem Rp.none : Rp K H .none .non := by
  unfold Rp
  rfl
theorem Rp.str {z : Str} : Rp K H (.str z) (.str z) := by
  unfold Rp
  rfl
end
end Wn

namespace Wn
open PySem L2
theorem tYes_t {σ : L2.St} {H : Hp} {F : Bool → Hp → Prop} (h : F true H) : tYes σ H F := h
theorem rows_lc {α : Type} {encL : α → List PyData} {K : PySem.W.Frag} {td : TE} {i : Nat} {σ : L2.St} {H2 : Hp} {S D q : Addr} {ns : List Int} {m : List (Int × α)} {kvs : List (Key × V)} {Qd : Hp → Prop}
    (hS : H2 S = some (.lst (ns.map V.int))) (hq : H2 q = some (.dK kvs)) (hm : RpD (fun x => .tuple (encL x)) K H2 m kvs) (hns : ∀ k ∈ ns, k ∈ m.map (·.1)) (hz : ∀ x, (encL x).length ≤ 100) (hln : ns.length ≤ 1000000)
    (htd : ∀ (σ' : L2.St) (H' : Hp) (Q : VK), wipe σ' [i] = wipe σ [i] → Same H2 H' → Q (.ref q) H' → td σ' H' Q) (hD : H2 D = none) (hσ : i < σ.length)
    (hd : ∀ (H' : Hp) (xs : List V), Same H2 H' → H' D = some (.lst xs) → RpL K H' (ns.map fun k => .tuple (.int k :: ((lookA m k).map encL).getD [])) xs → Qd H') :
    ∃ W : Nat → Nat → Hp → Prop, (∃ m, W 0 m (upd H2 D (.lst []))) ∧ ∀ j m H, W j m H →
      ((Itl K S).stop j H ∧ Qd H) ∨ ((Itl K S).go j H ∧ ∃ Nx : Hp → Prop, (∀ H', Nx H' → ∃ m', m' < m ∧ W (j + 1) m' H') ∧ ∀ x H', (Itl K S).yld j H x H' → gName i x (wipe σ [i]) H' fun σ2 H2 => wipe σ2 [i] = wipe σ [i] ∧ tYes σ2 H2 fun b H3 =>
        if b = true then tOp (rCatT K) (tTup (tCons (tVar i) tNil)) (tDGet td (tVar i)) σ2 H3 fun y H4 => ∃ acc, H4 D = some (.lst acc) ∧ acc.length < sizeLine ∧ Nx (upd H4 D (.lst (acc ++ [y]))) else Nx H3) := by
  have nSD : S ≠ D := ne_of_none hS hD
  refine lc_list (K := K) (a := S) (xs := ns.map V.int) (fun j H => ∃ xs, Same H2 H ∧ H D = some (.lst xs) ∧ RpL K H ((ns.take j).map fun k => .tuple (.int k :: ((lookA m k).map encL).getD [])) xs)
    ⟨[], (L2.Same.refl H2).new hD, upd_same, RpL.nil⟩ (fun j H _ ⟨xs, s, _, _⟩ => SqL.of (s _ _ hS)) ?_ ?_
  · rintro j x H3 hx ⟨xs, s3, hD3, hr⟩
    have hj : j < ns.length := by
      have q := (List.getElem?_eq_some_iff.mp hx).1
      rw [List.length_map] at q
      exact q
    obtain rfl : x = V.int ns[j] := by
      rw [List.getElem?_map, List.getElem?_eq_getElem hj] at hx
      exact (Option.some.inj hx).symm
    have hmem : ns[j] ∈ m.map (·.1) := hns _ (List.getElem_mem hj)
    have eσ : (((wipe σ [i]).set i (some (V.int ns[j]))))[i]? = some (some (V.int ns[j])) := by
      rw [List.getElem?_set_self]
      rw [wipe_length]
      exact hσ
    have ew : wipe ((wipe σ [i]).set i (some (V.int ns[j]))) [i] = wipe σ [i] := by
      show ((σ.set i none).set i (some (V.int ns[j]))).set i none = σ.set i none
      rw [List.set_set, List.set_set]
    refine ⟨ew, ?_⟩
    refine tYes_t (iteT ?_)
    have hlx : xs.length < sizeLine := by
      have := RpL.len _ _ hr
      rw [List.length_map, List.length_take] at this
      exact Nat.lt_of_le_of_lt (show xs.length ≤ 1000000 by omega) (by decide)
    refine ⟨_, eσ, (by show 1 ≤ sizeLine; decide), fun t ht => ?_⟩
    have s4 := s3.new (o := .tup [V.int ns[j]]) ht
    have t4 := TK.of s4
    refine htd _ _ _ ew s4 ⟨_, eσ, ?_⟩
    rcases hm.val (k := ns[j]) with ⟨e1, e2⟩ | ⟨y, v, e1, e2, r⟩
    · obtain ⟨z, e3, _⟩ := lookA_mem hmem
      rw [e1] at e3
      cases e3
    · have r4 := Rp.tk t4 _ _ r
      unfold Rp at r4
      obtain ⟨b, ys, rfl, hb, hl⟩ := r4
      have hly := RpL.len _ _ hl
      refine ⟨q, .ref b, rfl, by rw [← e2]; exact DGet.k (k := Sum.inl ns[j]) (s4 _ _ hq), ?_⟩
      have hD4 : (upd H3 t (.tup [V.int ns[j]])) D = some (.lst xs) := by
        rw [upd_ne (ne_of_none hD3 ht)]
        exact hD3
      have etk : (ns.take (j + 1)).map (fun k => PyData.tuple (.int k :: ((lookA m k).map encL).getD [])) = (ns.take j).map (fun k => PyData.tuple (.int k :: ((lookA m k).map encL).getD [])) ++ [PyData.tuple (.int ns[j] :: encL y)] := by
        rw [List.take_succ_eq_append_getElem hj, List.map_append, List.map_singleton, e1]
        rfl
      have s34 : TK H3 (upd H3 t (.tup [V.int ns[j]])) := (TK.refl _).new ht
      refine ⟨t, b, _, ys, rfl, rfl, SqT.of upd_same, hb, List.cons_ne_nil _ _, ?_, fun ey => ?_, fun _ p hp => ?_⟩
      · have := hz y
        rw [hly, List.length_singleton]
        exact Nat.le_trans (show 1 + (encL y).length ≤ 1000 by omega) (by decide)
      · refine ⟨xs, hD4, hlx, _, s4.wrn hD, upd_same, ?_⟩
        rw [etk]
        have tE : TK (upd H3 t (.tup [V.int ns[j]])) (upd (upd H3 t (.tup [V.int ns[j]])) D (.lst (xs ++ [V.ref t]))) := (TK.refl _).wr hD4 rfl
        refine RpL.snoc (Rp.tk tE _ _ (Rp.tup upd_same ?_)) _ _ (RpL.tk (s34.trans tE) _ _ hr)
        have e0 : encL y = [] := List.length_eq_zero_iff.mp (by rw [← hly, ey]; rfl)
        rw [e0]
        exact RpL.cons Rp.int RpL.nil
      · have s5 := s4.new (o := .tup ([V.int ns[j]] ++ ys)) hp
        have hD5 : upd (upd H3 t (.tup [V.int ns[j]])) p (.tup ([V.int ns[j]] ++ ys)) D = some (.lst xs) := by
          rw [upd_ne (ne_of_none hD4 hp)]
          exact hD4
        have tE : TK (upd (upd H3 t (.tup [V.int ns[j]])) p (.tup ([V.int ns[j]] ++ ys))) (upd (upd (upd H3 t (.tup [V.int ns[j]])) p (.tup ([V.int ns[j]] ++ ys))) D (.lst (xs ++ [V.ref p]))) := (TK.refl _).wr hD5 rfl
        have s45 : TK (upd H3 t (.tup [V.int ns[j]])) (upd (upd H3 t (.tup [V.int ns[j]])) p (.tup ([V.int ns[j]] ++ ys))) := (TK.refl _).new hp
        refine ⟨xs, hD5, hlx, _, s5.wrn hD, upd_same, ?_⟩
        rw [etk]
        refine RpL.snoc (Rp.tk tE _ _ (Rp.tup upd_same ?_)) _ _ (RpL.tk ((s34.trans s45).trans tE) _ _ hr)
        exact RpL.cons Rp.int (RpL.tk s45 _ _ hl)
  · rintro H3 ⟨xs, s3, hD3, hr⟩
    rw [List.length_map, List.take_length] at hr
    exact hd H3 xs s3 hD3 hr
end Wn

namespace Wn
open PySem L2
section
variable {X : Cx} {K : PySem.W.Frag}
theorem ixL (hK : X.K = K) : IxR X (rIxL K) := hK ▸ ix_list
theorem ixT (hK : X.K = K) : IxR X (rIxT K) := hK ▸ ix_tup
theorem opCatT (hK : X.K = K) : OpR X (binaryOp .Add) (rCatT K) := hK ▸ op_catT
theorem slL (hK : X.K = K) : SlR X (rSlL K) := hK ▸ sl_list
theorem slT (hK : X.K = K) : SlR X (rSlT K) := hK ▸ sl_tup
theorem fldK {e : Expr} {ta : TE} {f : Str} {pos : Pos} (hK : X.K = K) (he : PE X e ta) (hb : attributeBase e f X.env (eval e X.env) = eval e X.env) : PE X (.Attribute e f pos) (tFld K ta f) := hK ▸ pe_fld he hb
theorem lenK (hK : X.K = K) : CallR X (.builtin "len") (fun xs H Q => ∃ x n, xs = [x] ∧ LenV K x H n ∧ Q (.int n) H) := hK ▸ call_len
theorem crMaxK (hK : X.K = K) (hc : X.calm = true) : CallR X (.builtin "max") (rMax K) := hK ▸ cr_max hc
theorem crMinK (hK : X.K = K) (hc : X.calm = true) : CallR X (.builtin "min") (rMin K) := hK ▸ cr_min hc
theorem crAllK (hK : X.K = K) (hc : X.calm = true) : CallR X (.builtin "all") (rAll K) := hK ▸ cr_all hc
theorem crAnyK (hK : X.K = K) (hc : X.calm = true) : CallR X (.builtin "any") (rAny K) := hK ▸ cr_any hc
theorem isiK (hK : X.K = K) : CallR X (.builtin "isinstance") (rIsi K) := hK ▸ call_isi
theorem tupOfK (hK : X.K = K) : CallR X (.type "tuple") (fun xs H Q => ∃ p ys, xs = [.ref p] ∧ ((SqL K H p ys ∧ ∀ l, H l = none → Q (.ref l) (upd H l (.tup ys))) ∨ (SqT K H p ys ∧ Q (.ref p) H))) := hK ▸ call_tuple_of
theorem lstOfK (hK : X.K = K) : CallR X (.type "list") (fun xs H Q => ∃ p ys, xs = [.ref p] ∧ (SqL K H p ys ∨ SqT K H p ys) ∧ ∀ l, H l = none → Q (.ref l) (upd H l (.lst ys))) := hK ▸ call_list_of
theorem sortIK (hK : X.K = K) : CallR X (.builtin "sorted") (rSortedI K) := hK ▸ cr_sortedI
theorem inSeqK (hK : X.K = K) : OpR X (compareOp .In) (rIn K false) := hK ▸ op_in_seq
theorem notInSeqK (hK : X.K = K) : OpR X (compareOp .NotIn) (rIn K true) := hK ▸ op_notIn_seq
theorem eqDK (hK : X.K = K) (hu : X.A.units + 64 < cLine) : OpR X (compareOp .Eq) (rEqD K) := hK ▸ op_eqD hu
theorem neDK (hK : X.K = K) (hu : X.A.units + 64 < cLine) : OpR X (compareOp .NotEq) (rNeD K) := hK ▸ op_neD hu
end
end Wn

namespace Wn
open PySem L2
theorem Deck.kp {M : List Addr} {H H' : Hp} {d f : Addr} {n : Int} (h : Deck H d f n) (k : Kp M H H') (n1 : d ∉ M) (n2 : f ∉ M) : Deck H' d f n := by
  obtain ⟨a, wh, xs, h1, h2, h3⟩ := h
  exact ⟨a, wh, xs, k _ _ n1 h1, k _ _ n2 h2, h3⟩
theorem Deck.mono {H : Hp} {d f : Addr} {n m : Int} (h : Deck H d f n) (hm : n ≤ m) : Deck H d f m := by
  obtain ⟨a, wh, xs, h1, h2, h3, h4, h5⟩ := h
  exact ⟨a, wh, xs, h1, h2, h3, by omega, h5⟩
theorem Deck.lst {H : Hp} {d f : Addr} {n : Int} (h : Deck H d f n) : ∃ zs, H d = some (.lst zs) := by
  obtain ⟨a, wh, xs, h1, h2, h3⟩ := h
  exact ⟨_, h1⟩
theorem Deck.lst2 {H : Hp} {d f : Addr} {n : Int} (h : Deck H d f n) : ∃ zs, H f = some (.lst zs) := by
  obtain ⟨a, wh, xs, h1, h2, h3⟩ := h
  exact ⟨_, h2⟩
theorem seq_have {t u : TS} {D : Ends} {σ : L2.St} {H : Hp} (Mid : L2.St → Hp → Prop) (h2 : ∀ σ' H', Mid σ' H' → u D σ' H') (h1 : (∀ σ' H', Mid σ' H' → u D σ' H') → t { D with nx := u D } σ H) : tSeq t u D σ H := h1 h2
theorem seq_if {c : TT} {t1 t2 u : TS} {D : Ends} {σ : L2.St} {H : Hp} (Mid : L2.St → Hp → Prop) (h2 : ∀ σ' H', Mid σ' H' → u D σ' H') (h1 : (∀ σ' H', Mid σ' H' → u D σ' H') → tIfS c t1 t2 { D with nx := u D } σ H) : tSeq (tIfS c t1 t2) u D σ H := h1 h2
theorem nin1 {a b : Addr} (h : a ≠ b) : a ∉ [b] := fun z => h (List.mem_singleton.mp z)
theorem nin2 {a b c : Addr} (h : a ≠ b) (h' : a ≠ c) : a ∉ [b, c] := fun z => by
  rcases List.mem_cons.mp z with z | z
  · exact h z
  · exact h' (List.mem_singleton.mp z)
section
variable {α : Type}
/-- an object at p whose dict by_hand stands at q -/
def HoldAt (enc : α → PyData) (K : PySem.W.Frag) (C : Addr) (H : Hp) (p q : Addr) (m : List (Int × α)) : Prop :=
  (∃ dx, H p = some (.ins C dx [("by_hand", .ref q)])) ∧ DictAt enc K H q m
variable {enc : α → PyData} {K : PySem.W.Frag} {C : Addr} {H H' : Hp}
theorem HoldAt.kp {M : List Addr} {p q : Addr} {m : List (Int × α)} (h : HoldAt enc K C H p q m) (k : Kp M H H') (t : TK H H') (n1 : p ∉ M) (n2 : q ∉ M) : HoldAt enc K C H' p q m := by
  obtain ⟨⟨dx, a⟩, b⟩ := h
  exact ⟨⟨dx, k _ _ n1 a⟩, b.kp k t n2⟩
/-- n objects and n dicts, in two lists -/
structure Rack (enc : α → PyData) (K : PySem.W.Frag) (C : Addr) (H : Hp) (L1 L2 : Addr) (n : Nat) (p q md : Nat → Addr) (m m' : Nat → List (Int × α)) : Prop where
  l1 : H L1 = some (.lst ((List.range n).map fun j => V.ref (p j)))
  l2 : H L2 = some (.lst ((List.range n).map fun j => V.ref (md j)))
  ok : ∀ j, j < n → HoldAt enc K C H (p j) (q j) (m j)
  mo : ∀ j, j < n → DictAt enc K H (md j) (m' j)
  dq : ∀ i j, i < n → j < n → i ≠ j → q i ≠ q j
  dm : ∀ i j, i < n → j < n → i ≠ j → md i ≠ md j
  dx : ∀ i j, i < n → j < n → q i ≠ md j
variable {L1 L2 : Addr} {n : Nat} {p q md : Nat → Addr} {m m' : Nat → List (Int × α)}
theorem Rack.kp {M : List Addr} (R : Rack enc K C H L1 L2 n p q md m m') (k : Kp M H H') (t : TK H H') (h : ∀ x ∈ M, x ≠ L1 ∧ x ≠ L2 ∧ ∀ j, j < n → x ≠ p j ∧ x ≠ q j ∧ x ≠ md j) : Rack enc K C H' L1 L2 n p q md m m' where
  l1 := k _ _ (fun z => (h _ z).1 rfl) R.l1
  l2 := k _ _ (fun z => (h _ z).2.1 rfl) R.l2
  ok := fun j hj => (R.ok j hj).kp k t (fun z => ((h _ z).2.2 j hj).1 rfl) (fun z => ((h _ z).2.2 j hj).2.1 rfl)
  mo := fun j hj => (R.mo j hj).kp k t (fun z => ((h _ z).2.2 j hj).2.2 rfl)
  dq := R.dq
  dm := R.dm
  dx := R.dx
/-- a list beside was written -/
theorem Rack.lst {d : Addr} {zs : List V} (R : Rack enc K C H L1 L2 n p q md m m') (k : Kp [d] H H') (t : TK H H') (hd : H d = some (.lst zs)) (n1 : d ≠ L1) (n2 : d ≠ L2) : Rack enc K C H' L1 L2 n p q md m m' :=
  R.kp k t fun x hx => by
    rw [List.mem_singleton] at hx
    subst hx
    refine ⟨n1, n2, fun j hj => ?_⟩
    obtain ⟨⟨dx, a⟩, kvs, b, _⟩ := R.ok j hj
    obtain ⟨kvs', c, _⟩ := R.mo j hj
    exact ⟨ne_of hd a (by intro z; cases z), ne_of hd b (by intro z; cases z), ne_of hd c (by intro z; cases z)⟩
theorem Rack.same (R : Rack enc K C H L1 L2 n p q md m m') (s : Same H H') : Rack enc K C H' L1 L2 n p q md m m' :=
  R.kp (M := []) (Kp.of s) (TK.of s) fun x hx => by cases hx
/-- the k-th object's dict is another one -/
theorem Rack.setq {i : Nat} {mn : List (Int × α)} (R : Rack enc K C H L1 L2 n p q md m m') (hi : i < n) (k : Kp [q i] H H') (t : TK H H') (h : HoldAt enc K C H' (p i) (q i) mn) :
    Rack enc K C H' L1 L2 n p q md (fun j => if j = i then mn else m j) m' := by
  obtain ⟨_, kvq, hq, _⟩ := R.ok i hi
  refine ⟨k _ _ (nin1 (ne_of R.l1 hq (by intro z; cases z))) R.l1, k _ _ (nin1 (ne_of R.l2 hq (by intro z; cases z))) R.l2, fun j hj => ?_, fun j hj => ?_, R.dq, R.dm, R.dx⟩
  · by_cases e : j = i
    · subst e
      simp only [if_true]
      exact h
    · simp only [if_neg e]
      obtain ⟨⟨dx, a⟩, _⟩ := R.ok j hj
      exact (R.ok j hj).kp k t (nin1 (ne_of a hq (by intro z; cases z))) (nin1 (R.dq j i hj hi e))
  · exact (R.mo j hj).kp k t (nin1 (fun z => R.dx i j hi hj z.symm))
theorem Rack.setm {i : Nat} {mn : List (Int × α)} (R : Rack enc K C H L1 L2 n p q md m m') (hi : i < n) (k : Kp [md i] H H') (t : TK H H') (h : DictAt enc K H' (md i) mn) :
    Rack enc K C H' L1 L2 n p q md m (fun j => if j = i then mn else m' j) := by
  obtain ⟨kvq, hq, _⟩ := R.mo i hi
  refine ⟨k _ _ (nin1 (ne_of R.l1 hq (by intro z; cases z))) R.l1, k _ _ (nin1 (ne_of R.l2 hq (by intro z; cases z))) R.l2, fun j hj => ?_, fun j hj => ?_, R.dq, R.dm, R.dx⟩
  · obtain ⟨⟨dx, a⟩, _⟩ := R.ok j hj
    exact (R.ok j hj).kp k t (nin1 (ne_of a hq (by intro z; cases z))) (nin1 (R.dx j i hj hi))
  · by_cases e : j = i
    · subst e
      simp only [if_true]
      exact h
    · simp only [if_neg e]
      exact (R.mo j hj).kp k t (nin1 (R.dm j i hj hi e))
/-- one more -/
theorem Rack.push {pn qn mdn : Addr} {mn : List (Int × α)} (R : Rack enc K C H L1 L2 n p q md m m') (k : Kp [L1, L2] H H') (t : TK H H') (h1 : H' L1 = some (.lst (((List.range n).map fun j => V.ref (p j)) ++ [V.ref pn]))) (h2 : H' L2 = some (.lst (((List.range n).map fun j => V.ref (md j)) ++ [V.ref mdn])))
    (hp : HoldAt enc K C H' pn qn mn) (hm : DictAt enc K H' mdn mn) (nq : H qn = none) (nm : H mdn = none) (nqm : qn ≠ mdn) :
    Rack enc K C H' L1 L2 (n + 1) (fun j => if j = n then pn else p j) (fun j => if j = n then qn else q j) (fun j => if j = n then mdn else md j) (fun j => if j = n then mn else m j) (fun j => if j = n then mn else m' j) := by
  have e1 : ∀ (f : Nat → Addr) (x : Addr), (List.range (n + 1)).map (fun j => V.ref (if j = n then x else f j)) = ((List.range n).map fun j => V.ref (f j)) ++ [V.ref x] := fun f x => by
    rw [List.range_succ, List.map_append, List.map_singleton, if_pos rfl]
    congr 1
    refine List.map_congr_left fun j hj => ?_
    rw [List.mem_range] at hj
    rw [if_neg (by omega)]
  have hq : ∀ j, j < n → q j ≠ qn ∧ q j ≠ mdn := fun j hj => by
    obtain ⟨_, kv, a, _⟩ := R.ok j hj
    exact ⟨ne_of_none a nq, ne_of_none a nm⟩
  have hmd : ∀ j, j < n → md j ≠ qn ∧ md j ≠ mdn := fun j hj => by
    obtain ⟨kv, a, _⟩ := R.mo j hj
    exact ⟨ne_of_none a nq, ne_of_none a nm⟩
  refine ⟨by rw [e1]; exact h1, by rw [e1]; exact h2, fun j hj => ?_, fun j hj => ?_, fun i j hi hj e => ?_, fun i j hi hj e => ?_, fun i j hi hj => ?_⟩
  · by_cases e : j = n
    · simp only [if_pos e]
      exact hp
    · simp only [if_neg e]
      obtain ⟨⟨dx, a⟩, kv, b, _⟩ := R.ok j (by omega)
      exact (R.ok j (by omega)).kp k t (nin2 (ne_of a R.l1 (by intro z; cases z)) (ne_of a R.l2 (by intro z; cases z))) (nin2 (ne_of b R.l1 (by intro z; cases z)) (ne_of b R.l2 (by intro z; cases z)))
  · by_cases e : j = n
    · simp only [if_pos e]
      exact hm
    · simp only [if_neg e]
      obtain ⟨kv, b, _⟩ := R.mo j (by omega)
      exact (R.mo j (by omega)).kp k t (nin2 (ne_of b R.l1 (by intro z; cases z)) (ne_of b R.l2 (by intro z; cases z)))
  · by_cases ei : i = n
    · have ej : ¬ j = n := by omega
      simp only [if_pos ei, if_neg ej]
      exact (hq j (by omega)).1.symm
    · by_cases ej : j = n
      · simp only [if_neg ei, if_pos ej]
        exact (hq i (by omega)).1
      · simp only [if_neg ei, if_neg ej]
        exact R.dq i j (by omega) (by omega) e
  · by_cases ei : i = n
    · have ej : ¬ j = n := by omega
      simp only [if_pos ei, if_neg ej]
      exact (hmd j (by omega)).2.symm
    · by_cases ej : j = n
      · simp only [if_neg ei, if_pos ej]
        exact (hmd i (by omega)).2
      · simp only [if_neg ei, if_neg ej]
        exact R.dm i j (by omega) (by omega) e
  · by_cases ei : i = n
    · by_cases ej : j = n
      · simp only [if_pos ei, if_pos ej]
        exact nqm
      · simp only [if_pos ei, if_neg ej]
        exact (hmd j (by omega)).1.symm
    · by_cases ej : j = n
      · simp only [if_neg ei, if_pos ej]
        exact (hq i (by omega)).2
      · simp only [if_neg ei, if_neg ej]
        exact R.dx i j (by omega) (by omega)
end
section
variable {α : Type} {enc : α → PyData} {K : PySem.W.Frag} {C : Addr} {H H' : Hp}
theorem HoldAt.lst {d p q : Addr} {zs : List V} {m : List (Int × α)} (h : HoldAt enc K C H p q m) (k : Kp [d] H H') (t : TK H H') (hd : H d = some (.lst zs)) : HoldAt enc K C H' p q m := by
  obtain ⟨⟨dx, a⟩, kv, b, _⟩ := id h
  exact h.kp k t (nin1 (ne_of a hd (by intro z; cases z))) (nin1 (ne_of b hd (by intro z; cases z)))
theorem HoldAt.same {p q : Addr} {m : List (Int × α)} (h : HoldAt enc K C H p q m) (s : Same H H') : HoldAt enc K C H' p q m :=
  h.kp (M := []) (Kp.of s) (TK.of s) (by simp) (by simp)
theorem DictAt.lst {d q : Addr} {zs : List V} {m : List (Int × α)} (h : DictAt enc K H q m) (k : Kp [d] H H') (t : TK H H') (hd : H d = some (.lst zs)) : DictAt enc K H' q m := by
  obtain ⟨kv, b, _⟩ := id h
  exact h.kp k t (nin1 (ne_of b hd (by intro z; cases z)))
theorem DictAt.same {q : Addr} {m : List (Int × α)} (h : DictAt enc K H q m) (s : Same H H') : DictAt enc K H' q m :=
  h.kp (M := []) (Kp.of s) (TK.of s) (by simp)
theorem Deck.same {d f : Addr} {n : Int} (h : Deck H d f n) (s : Same H H') : Deck H' d f n := h.kp (M := []) (Kp.of s) (by simp) (by simp)
/-- a dict beside was written -/
theorem Deck.dict {d f q : Addr} {n : Int} {m : List (Int × α)} (h : Deck H d f n) (k : Kp [q] H H') (hq : DictAt enc K H q m) : Deck H' d f n := by
  obtain ⟨kv, b, _⟩ := hq
  obtain ⟨zs, h1⟩ := h.lst
  obtain ⟨zf, h2⟩ := h.lst2
  exact h.kp k (nin1 (ne_of h1 b (by intro z; cases z))) (nin1 (ne_of h2 b (by intro z; cases z)))
variable {La Lb : Addr} {n : Nat} {p q md : Nat → Addr} {m m' : Nat → List (Int × α)}
/-- the k-th object's dict, the k-th dict and a list beside are others -/
theorem Rack.set2 {d : Addr} {zs : List V} {i : Nat} {mn mn' : List (Int × α)} (R : Rack enc K C H La Lb n p q md m m') (hi : i < n) (k : Kp [d, q i, md i] H H') (t : TK H H') (hd : H d = some (.lst zs)) (n1 : d ≠ La) (n2 : d ≠ Lb)
    (h : HoldAt enc K C H' (p i) (q i) mn) (h' : DictAt enc K H' (md i) mn') :
    Rack enc K C H' La Lb n p q md (fun j => if j = i then mn else m j) (fun j => if j = i then mn' else m' j) := by
  obtain ⟨_, kvq, hq, _⟩ := R.ok i hi
  obtain ⟨kvm, hm, _⟩ := R.mo i hi
  have nin : ∀ {x : Addr}, x ≠ d → x ≠ q i → x ≠ md i → x ∉ [d, q i, md i] := fun a b c z => by
    rcases List.mem_cons.mp z with z | z
    · exact a z
    · exact nin2 b c z
  refine ⟨k _ _ (nin n1.symm (ne_of R.l1 hq (by intro z; cases z)) (ne_of R.l1 hm (by intro z; cases z))) R.l1, k _ _ (nin n2.symm (ne_of R.l2 hq (by intro z; cases z)) (ne_of R.l2 hm (by intro z; cases z))) R.l2, fun j hj => ?_, fun j hj => ?_, R.dq, R.dm, R.dx⟩
  · by_cases e : j = i
    · subst e
      simp only [if_true]
      exact h
    · simp only [if_neg e]
      obtain ⟨⟨dx, a⟩, kv, b, _⟩ := R.ok j hj
      exact (R.ok j hj).kp k t (nin (ne_of a hd (by intro z; cases z)) (ne_of a hq (by intro z; cases z)) (ne_of a hm (by intro z; cases z))) (nin (ne_of b hd (by intro z; cases z)) (R.dq j i hj hi e) (R.dx j i hj hi))
  · by_cases e : j = i
    · subst e
      simp only [if_true]
      exact h'
    · simp only [if_neg e]
      obtain ⟨kv, b, _⟩ := R.mo j hj
      exact (R.mo j hj).kp k t (nin (ne_of b hd (by intro z; cases z)) (fun z => R.dx i j hi hj z.symm) (R.dm j i hj hi e))
end
theorem at3 {x y z : V} {r : Int} (h0 : 0 ≤ r) (h1 : r < 3) : ∃ v, atI [x, y, z] r = some v ∧ (v = x ∨ v = y ∨ v = z) := by
  have h : r = 0 ∨ r = 1 ∨ r = 2 := by omega
  rcases h with rfl | rfl | rfl
  · exact ⟨x, rfl, .inl rfl⟩
  · exact ⟨y, rfl, .inr (.inl rfl)⟩
  · exact ⟨z, rfl, .inr (.inr rfl)⟩
theorem at5 {a b c d e : Int} {r : Int} (h0 : 0 ≤ r) (h1 : r < 5) : ∃ v : Int, atI [V.int a, .int b, .int c, .int d, .int e] r = some (.int v) := by
  have h : r = 0 ∨ r = 1 ∨ r = 2 ∨ r = 3 ∨ r = 4 := by omega
  rcases h with rfl | rfl | rfl | rfl | rfl <;> exact ⟨_, rfl⟩
theorem atR {n : Nat} {f : Nat → Addr} {r : Int} (h0 : 0 ≤ r) (h1 : r < n) : atI ((List.range n).map fun j => V.ref (f j)) r = some (.ref (f r.toNat)) := by
  have e : ((r.toNat : Nat) : Int) = r := by omega
  have := atI_nat (xs := (List.range n).map fun j => V.ref (f j)) (j := r.toNat) (v := .ref (f r.toNat)) (by
    rw [List.getElem?_map, List.getElem?_range (by omega)]
    rfl)
  rw [e] at this
  exact this
def spLaw (K : PySem.W.Frag) : Sp := fun vs H Q _ => ∃ (a : Addr) (ns : List Int), vs = [.ref a] ∧ SqL K H a (ns.map V.int) ∧ ns.length ≤ 63 ∧ ∀ H', Q (.bl true) H'
/-! ### lists of data -/
def LstAt (K : PySem.W.Frag) (H : Hp) (a : Addr) (ds : List PyData) : Prop := ∃ xs, H a = some (.lst xs) ∧ RpL K H ds xs
section
variable {K : PySem.W.Frag} {H H' : Hp}
theorem LstAt.kp {M : List Addr} {a : Addr} {ds : List PyData} (h : LstAt K H a ds) (k : Kp M H H') (t : TK H H') (n : a ∉ M) : LstAt K H' a ds := by
  obtain ⟨xs, h1, h2⟩ := h
  exact ⟨xs, k _ _ n h1, RpL.tk t _ _ h2⟩
theorem LstAt.same {a : Addr} {ds : List PyData} (h : LstAt K H a ds) (s : Same H H') : LstAt K H' a ds := h.kp (M := []) (Kp.of s) (TK.of s) (by simp)
theorem LstAt.lst {a : Addr} {ds : List PyData} (h : LstAt K H a ds) : ∃ zs, H a = some (.lst zs) := ⟨_, h.choose_spec.1⟩
theorem RpL.app : ∀ {ds es : List PyData} {xs ys : List V}, RpL K H ds xs → RpL K H es ys → RpL K H (ds ++ es) (xs ++ ys)
  | [], es, xs, ys, h1, h2 => by
    unfold RpL at h1
    subst h1
    exact h2
  | d :: ds, es, xs, ys, h1, h2 => by
    unfold RpL at h1
    obtain ⟨v, r, rfl, a, b⟩ := h1
    show RpL K H (d :: (ds ++ es)) (v :: (r ++ ys))
    exact RpL.cons a (RpL.app b h2)
theorem RpL.take : ∀ (k : Nat) {ds : List PyData} {xs : List V}, RpL K H ds xs → RpL K H (ds.take k) (xs.take k)
  | 0, ds, xs, _ => by
    rw [List.take_zero, List.take_zero]
    exact RpL.nil
  | k + 1, [], xs, h => by
    unfold RpL at h
    subst h
    exact RpL.nil
  | k + 1, d :: ds, xs, h => by
    unfold RpL at h
    obtain ⟨v, r, rfl, a, b⟩ := h
    exact RpL.cons a (RpL.take k b)
theorem RpL.drop : ∀ (k : Nat) {ds : List PyData} {xs : List V}, RpL K H ds xs → RpL K H (ds.drop k) (xs.drop k)
  | 0, ds, xs, h => h
  | k + 1, [], xs, h => by
    unfold RpL at h
    subst h
    exact RpL.nil
  | k + 1, d :: ds, xs, h => by
    unfold RpL at h
    obtain ⟨v, r, rfl, a, b⟩ := h
    exact RpL.drop k b
theorem inV_int {k : Int} : ∀ ns : List Int, inV (.int k) (ns.map V.int) = decide (k ∈ ns)
  | [] => by simp [inV]
  | n :: ns => by
    have h := inV_int (k := k) ns
    unfold inV at h ⊢
    rw [List.map_cons, List.any_cons, h]
    show ((n == k) || _) = _
    by_cases e : n = k
    · simp [e]
    · have e2 : ¬ k = n := fun z => e z.symm
      simp [e, e2]
theorem flat_ints (ns : List Int) : (ns.map V.int).all flatV = true := by
  rw [List.all_eq_true]
  intro x hx
  obtain ⟨n, _, rfl⟩ := List.mem_map.mp hx
  rfl
theorem set_wipe {σ : L2.St} {i : Nat} {x : Option V} : (wipe σ [i]).set i x = σ.set i x := by
  show (σ.set i none).set i x = _
  rw [List.set_set]
theorem wipe_set {σ : L2.St} {i : Nat} {x : Option V} : wipe (σ.set i x) [i] = wipe σ [i] := by
  show (σ.set i x).set i none = σ.set i none
  rw [List.set_set]
/-- [x for x in xs if test] -/
theorem filt_lc {β : Type} {enc : β → PyData} {tt : TT} {i : Nat} {σ : L2.St} {H2 : Hp} {S D : Addr} {xs : List V} {L : List β} {Qd : Hp → Prop} (p : β → Bool) (hS : H2 S = some (.lst xs)) (hr : RpL K H2 (L.map enc) xs) (hD : H2 D = none) (hσ : i < σ.length) (hl : L.length ≤ 1000000)
    (htt : ∀ (b : β) (x : V) (H' : Hp) (Q : Bool → Hp → Prop), b ∈ L → Rp K H' (enc b) x → Same H2 H' → Q (p b) H' → tt (σ.set i (some x)) H' Q)
    (hd : ∀ (H' : Hp) (ys : List V), Same H2 H' → H' D = some (.lst ys) → RpL K H' ((L.filter p).map enc) ys → Qd H') :
    ∃ W : Nat → Nat → Hp → Prop, (∃ m, W 0 m (upd H2 D (.lst []))) ∧ ∀ j m H, W j m H →
      ((Itl K S).stop j H ∧ Qd H) ∨ ((Itl K S).go j H ∧ ∃ Nx : Hp → Prop, (∀ H', Nx H' → ∃ m', m' < m ∧ W (j + 1) m' H') ∧ ∀ x H', (Itl K S).yld j H x H' → gName i x (wipe σ [i]) H' fun σ2 H2 => wipe σ2 [i] = wipe σ [i] ∧ tt σ2 H2 fun b H3 =>
        if b = true then tVar i σ2 H3 fun y H4 => ∃ acc, H4 D = some (.lst acc) ∧ acc.length < sizeLine ∧ Nx (upd H4 D (.lst (acc ++ [y]))) else Nx H3) := by
  refine lc_list (K := K) (a := S) (xs := xs) (fun j H => ∃ ys, Same H2 H ∧ H D = some (.lst ys) ∧ RpL K H (((L.take j).filter p).map enc) ys)
    ⟨[], (L2.Same.refl H2).new hD, upd_same, RpL.nil⟩ (fun j H _ ⟨ys, s, _, _⟩ => SqL.of (s _ _ hS)) ?_ ?_
  · rintro j x H3 hx ⟨ys, s3, hD3, hr3⟩
    have hlen := RpL.len _ _ hr
    have hj : j < L.length := by
      have q := (List.getElem?_eq_some_iff.mp hx).1
      rw [hlen, List.length_map] at q
      exact q
    obtain ⟨v, ev, rv⟩ := RpL.get _ _ hr j (enc L[j]) (by rw [List.getElem?_map, List.getElem?_eq_getElem hj]; rfl)
    have ex : v = x := Option.some.inj (ev.symm.trans hx)
    rw [ex] at rv
    have rx := Rp.tk (TK.of s3) _ _ rv
    show wipe ((wipe σ [i]).set i (some x)) [i] = wipe σ [i] ∧ _
    rw [set_wipe]
    refine ⟨wipe_set, ?_⟩
    have hly : ys.length < sizeLine := by
      have := RpL.len _ _ hr3
      rw [List.length_map] at this
      have h2 := List.length_filter_le p (L.take j)
      rw [List.length_take] at h2
      exact Nat.lt_of_le_of_lt (show ys.length ≤ 1000000 by omega) (by decide)
    refine htt L[j] x H3 _ (List.getElem_mem hj) rx s3 ?_
    have et : L.take (j + 1) = L.take j ++ [L[j]] := List.take_succ_eq_append_getElem hj
    cases e : p L[j] with
    | false =>
      refine iteF ⟨ys, s3, hD3, ?_⟩
      rw [et, List.filter_append, List.filter_cons, e]
      simpa using hr3
    | true =>
      refine iteT ⟨x, ?_, ys, hD3, hly, ys ++ [x], s3.wrn hD, upd_same, ?_⟩
      · rw [List.getElem?_set_self hσ]
      · have tE : TK H3 (upd H3 D (.lst (ys ++ [x]))) := (TK.refl _).wr hD3 rfl
        rw [et, List.filter_append, List.filter_cons, e, List.map_append]
        exact RpL.app (RpL.tk tE _ _ hr3) (RpL.cons (Rp.tk tE _ _ rx) RpL.nil)
  · rintro H3 ⟨ys, s3, hD3, hr3⟩
    have hlen := RpL.len _ _ hr
    rw [hlen, List.length_map, List.take_length] at hr3
    exact hd H3 ys s3 hD3 hr3
/-- [number of x for x in xs] -/
theorem mapI_lc {β : Type} {enc : β → PyData} {te : TE} {i : Nat} {σ : L2.St} {H2 : Hp} {S D : Addr} {xs : List V} {L : List β} {Qd : Hp → Prop} (f : β → Int) (hS : H2 S = some (.lst xs)) (hr : RpL K H2 (L.map enc) xs) (hD : H2 D = none) (hl : L.length ≤ 1000000)
    (hte : ∀ (b : β) (x : V) (H' : Hp) (Q : VK), b ∈ L → Rp K H' (enc b) x → Same H2 H' → Q (.int (f b)) H' → te (σ.set i (some x)) H' Q)
    (hd : ∀ (H' : Hp), Same H2 H' → H' D = some (.lst ((L.map f).map V.int)) → Qd H') :
    ∃ W : Nat → Nat → Hp → Prop, (∃ m, W 0 m (upd H2 D (.lst []))) ∧ ∀ j m H, W j m H →
      ((Itl K S).stop j H ∧ Qd H) ∨ ((Itl K S).go j H ∧ ∃ Nx : Hp → Prop, (∀ H', Nx H' → ∃ m', m' < m ∧ W (j + 1) m' H') ∧ ∀ x H', (Itl K S).yld j H x H' → gName i x (wipe σ [i]) H' fun σ2 H2 => wipe σ2 [i] = wipe σ [i] ∧ tYes σ2 H2 fun b H3 =>
        if b = true then te σ2 H3 fun y H4 => ∃ acc, H4 D = some (.lst acc) ∧ acc.length < sizeLine ∧ Nx (upd H4 D (.lst (acc ++ [y]))) else Nx H3) := by
  refine lc_list (K := K) (a := S) (xs := xs) (fun j H => Same H2 H ∧ H D = some (.lst (((L.take j).map f).map V.int)))
    ⟨(L2.Same.refl H2).new hD, upd_same⟩ (fun j H _ ⟨s, _⟩ => SqL.of (s _ _ hS)) ?_ ?_
  · rintro j x H3 hx ⟨s3, hD3⟩
    have hlen := RpL.len _ _ hr
    have hj : j < L.length := by
      have q := (List.getElem?_eq_some_iff.mp hx).1
      rw [hlen, List.length_map] at q
      exact q
    obtain ⟨v, ev, rv⟩ := RpL.get _ _ hr j (enc L[j]) (by rw [List.getElem?_map, List.getElem?_eq_getElem hj]; rfl)
    have ex : v = x := Option.some.inj (ev.symm.trans hx)
    rw [ex] at rv
    have rx := Rp.tk (TK.of s3) _ _ rv
    show wipe ((wipe σ [i]).set i (some x)) [i] = wipe σ [i] ∧ _
    rw [set_wipe]
    refine ⟨wipe_set, tYes_t (iteT ?_)⟩
    refine hte L[j] x H3 _ (List.getElem_mem hj) rx s3 ⟨_, hD3, ?_, s3.wrn hD, ?_⟩
    · rw [List.length_map, List.length_map, List.length_take]
      exact Nat.lt_of_le_of_lt (show min j L.length ≤ 1000000 by omega) (by decide)
    · rw [upd_same, List.take_succ_eq_append_getElem hj, List.map_append, List.map_append]
      rfl
  · rintro H3 ⟨s3, hD3⟩
    have hlen := RpL.len _ _ hr
    rw [hlen, List.length_map, List.take_length] at hD3
    exact hd H3 s3 hD3
end
section
variable {K : PySem.W.Frag} {H H' : Hp}
/-- [e for x in xs], each e data -/
theorem mapD_it {J : It} {G : Hp → Prop} {β : Type} {enc : β → PyData} {te : TE} {i : Nat} {σ : L2.St} {H2 : Hp} {D : Addr} {xs : List V} {L : List β} {Qd : Hp → Prop} (w : Walk J xs.length G (YAt xs)) (hG : ∀ H', Same H2 H' → G H') (g : β → PyData) (hr : RpL K H2 (L.map enc) xs) (hD : H2 D = none) (hl : L.length ≤ 1000000)
    (hte : ∀ (b : β) (x : V) (H' : Hp) (Q : VK), b ∈ L → Rp K H' (enc b) x → Same H2 H' → (∀ (H'' : Hp) (y : V), Same H' H'' → Rp K H'' (g b) y → Q y H'') → te (σ.set i (some x)) H' Q)
    (hd : ∀ (H' : Hp) (ys : List V), Same H2 H' → H' D = some (.lst ys) → RpL K H' (L.map g) ys → Qd H') :
    ∃ W : Nat → Nat → Hp → Prop, (∃ m, W 0 m (upd H2 D (.lst []))) ∧ ∀ j m H, W j m H →
      (J.stop j H ∧ Qd H) ∨ (J.go j H ∧ ∃ Nx : Hp → Prop, (∀ H', Nx H' → ∃ m', m' < m ∧ W (j + 1) m' H') ∧ ∀ x H', J.yld j H x H' → gName i x (wipe σ [i]) H' fun σ2 H2 => wipe σ2 [i] = wipe σ [i] ∧ tYes σ2 H2 fun b H3 =>
        if b = true then te σ2 H3 fun y H4 => ∃ acc, H4 D = some (.lst acc) ∧ acc.length < sizeLine ∧ Nx (upd H4 D (.lst (acc ++ [y]))) else Nx H3) := by
  refine lc_it w (fun j H => ∃ ys, Same H2 H ∧ H D = some (.lst ys) ∧ RpL K H ((L.take j).map g) ys)
    ⟨[], (L2.Same.refl H2).new hD, upd_same, RpL.nil⟩ (fun j H _ ⟨ys, s, _⟩ => hG H s) ?_ ?_
  · rintro j x H3 H3' hj ⟨ys, s3, hD3, hr3⟩ ⟨rfl, hx⟩
    have hlen := RpL.len _ _ hr
    rw [List.length_map] at hlen
    have hj : j < L.length := by omega
    obtain ⟨v, ev, rv⟩ := RpL.get _ _ hr j (enc L[j]) (by rw [List.getElem?_map, List.getElem?_eq_getElem hj]; rfl)
    have ex : v = x := Option.some.inj (ev.symm.trans hx)
    rw [ex] at rv
    have rx := Rp.tk (TK.of s3) _ _ rv
    show wipe ((wipe σ [i]).set i (some x)) [i] = wipe σ [i] ∧ _
    rw [set_wipe]
    refine ⟨wipe_set, tYes_t (iteT ?_)⟩
    refine hte L[j] x H3' _ (List.getElem_mem hj) rx s3 fun H4 y s4 ry => ⟨ys, s4 _ _ hD3, ?_, ys ++ [y], (s3.trans s4).wrn hD, upd_same, ?_⟩
    · have := RpL.len _ _ hr3
      rw [List.length_map, List.length_take] at this
      exact Nat.lt_of_le_of_lt (show ys.length ≤ 1000000 by omega) (by decide)
    · have tE : TK H4 (upd H4 D (.lst (ys ++ [y]))) := (TK.refl _).wr (s4 _ _ hD3) rfl
      rw [List.take_succ_eq_append_getElem hj, List.map_append]
      exact RpL.app (RpL.tk ((TK.of s4).trans tE) _ _ hr3) (RpL.cons (Rp.tk tE _ _ ry) RpL.nil)
  · rintro H3 ⟨ys, s3, hD3, hr3⟩
    have hlen := RpL.len _ _ hr
    rw [hlen, List.length_map, List.take_length] at hr3
    exact hd H3 ys s3 hD3 hr3
theorem RpL.ints : ∀ {ns : List Int} {ys : List V}, RpL K H (ns.map PyData.int) ys → ys = ns.map V.int
  | [], ys, h => by
    unfold List.map RpL at h
    exact h
  | n :: ns, ys, h => by
    rw [List.map_cons] at h
    unfold RpL at h
    obtain ⟨v, r, rfl, h1, h2⟩ := h
    unfold Rp at h1
    rw [RpL.ints h2, h1]
    rfl
theorem dp_ints : ∀ (ns : List Int), DpAll K H (ns.map V.int) (ns.map PyData.int)
  | [] => .nil
  | n :: ns => .cons (.int n) (dp_ints ns)
theorem LstAt.dict {α : Type} {enc : α → PyData} {a q : Addr} {ds : List PyData} {m : List (Int × α)} (h : LstAt K H a ds) (k : Kp [q] H H') (t : TK H H') (hq : DictAt enc K H q m) : LstAt K H' a ds := by
  obtain ⟨xs, h1, _⟩ := id h
  obtain ⟨kv, h2, _⟩ := hq
  exact h.kp k t (nin1 (ne_of h1 h2 (by intro z; cases z)))
theorem dep_ints (ns : List Int) : dep (.tuple (ns.map PyData.int)) ≤ 1 := by
  unfold dep
  have := deps_map_le (c := 0) (f := PyData.int) ns fun x _ => Nat.le_refl _
  omega
end
section
variable {K : PySem.W.Frag} {H H' : Hp}
/-- [e for i in range(..)], each e data -/
theorem mapR_it {J : It} {n : Nat} {fv : Nat → V} {te : TE} {i : Nat} {σ : L2.St} {H2 : Hp} {D : Addr} {Qd : Hp → Prop} (w : Walk J n (fun _ => True) (YFn fv)) (g : Nat → PyData) (hD : H2 D = none) (hl : n ≤ 1000000)
    (hte : ∀ (j : Nat) (H' : Hp) (Q : VK), j < n → Same H2 H' → (∀ (H'' : Hp) (y : V), Same H' H'' → Rp K H'' (g j) y → Q y H'') → te (σ.set i (some (fv j))) H' Q)
    (hd : ∀ (H' : Hp) (ys : List V), Same H2 H' → H' D = some (.lst ys) → RpL K H' ((List.range n).map g) ys → Qd H') :
    ∃ W : Nat → Nat → Hp → Prop, (∃ m, W 0 m (upd H2 D (.lst []))) ∧ ∀ j m H, W j m H →
      (J.stop j H ∧ Qd H) ∨ (J.go j H ∧ ∃ Nx : Hp → Prop, (∀ H', Nx H' → ∃ m', m' < m ∧ W (j + 1) m' H') ∧ ∀ x H', J.yld j H x H' → gName i x (wipe σ [i]) H' fun σ2 H2 => wipe σ2 [i] = wipe σ [i] ∧ tYes σ2 H2 fun b H3 =>
        if b = true then te σ2 H3 fun y H4 => ∃ acc, H4 D = some (.lst acc) ∧ acc.length < sizeLine ∧ Nx (upd H4 D (.lst (acc ++ [y]))) else Nx H3) := by
  refine lc_it w (fun j H => ∃ ys, Same H2 H ∧ H D = some (.lst ys) ∧ RpL K H ((List.range j).map g) ys)
    ⟨[], (L2.Same.refl H2).new hD, upd_same, RpL.nil⟩ (fun j H _ _ => trivial) ?_ ?_
  · rintro j x H3 H3' hj ⟨ys, s3, hD3, hr3⟩ ⟨rfl, rfl⟩
    show wipe ((wipe σ [i]).set i (some (fv j))) [i] = wipe σ [i] ∧ _
    rw [set_wipe]
    refine ⟨wipe_set, tYes_t (iteT ?_)⟩
    refine hte j H3' _ hj s3 fun H4 y s4 ry => ⟨ys, s4 _ _ hD3, ?_, ys ++ [y], (s3.trans s4).wrn hD, upd_same, ?_⟩
    · have := RpL.len _ _ hr3
      rw [List.length_map, List.length_range] at this
      exact Nat.lt_of_le_of_lt (show ys.length ≤ 1000000 by omega) (by decide)
    · have tE : TK H4 (upd H4 D (.lst (ys ++ [y]))) := (TK.refl _).wr (s4 _ _ hD3) rfl
      rw [List.range_succ, List.map_append]
      exact RpL.app (RpL.tk ((TK.of s4).trans tE) _ _ hr3) (RpL.cons (Rp.tk tE _ _ ry) RpL.nil)
  · rintro H3 ⟨ys, s3, hD3, hr3⟩
    exact hd H3 ys s3 hD3 hr3
end
end Wn

namespace Wn
open PySem L2
section
variable {α : Type}
theorem lookA_cons {p : Int × α} {m : List (Int × α)} {k : Int} : lookA (p :: m) k = if p.1 = k then some p.2 else lookA m k := by
  unfold lookA
  rw [List.find?_cons]
  by_cases e : p.1 = k <;> simp [e]
theorem lookA_map (k j : Int) (x : α) : ∀ m : List (Int × α), lookA (m.map fun kv => if kv.1 = k then (kv.1, x) else kv) j = (lookA m j).map fun y => if j = k then x else y
  | [] => rfl
  | p :: m => by
    rw [List.map_cons, lookA_cons, lookA_cons, lookA_map k j x m]
    by_cases e : p.1 = k
    · by_cases f : p.1 = j
      · simp [e, f, show j = k by omega]
      · simp only [e, if_true]
        rw [if_neg (by omega), if_neg (by omega)]
    · by_cases f : p.1 = j
      · simp [e, f, show ¬ j = k by omega]
      · simp [e, f]
theorem lookA_snoc (k j : Int) (x : α) : ∀ m : List (Int × α), lookA (m ++ [(k, x)]) j = match lookA m j with | some y => some y | none => if k = j then some x else none
  | [] => by
    show lookA [(k, x)] j = _
    rw [lookA_cons]
    rfl
  | p :: m => by
    show lookA (p :: (m ++ [(k, x)])) j = _
    rw [lookA_cons, lookA_cons, lookA_snoc k j x m]
    by_cases e : p.1 = j <;> simp [e]
theorem any_lookA (k : Int) : ∀ m : List (Int × α), (m.any fun kv => decide (kv.1 = k)) = (lookA m k).isSome
  | [] => rfl
  | p :: m => by
    rw [List.any_cons, lookA_cons, any_lookA k m]
    by_cases e : p.1 = k <;> simp [e]
theorem lookA_put (m : List (Int × α)) (k j : Int) (x : α) : lookA (putA m k x) j = if j = k then some x else lookA m j := by
  unfold putA
  rw [any_lookA]
  cases e : lookA m k with
  | none =>
    rw [if_neg (by simp), lookA_snoc]
    by_cases f : j = k
    · subst f
      simp [e]
    · rw [if_neg f]
      cases lookA m j with
      | none => simp [show ¬ k = j by omega]
      | some y => rfl
  | some z =>
    rw [if_pos (by simp), lookA_map]
    by_cases f : j = k
    · subst f
      rw [e]
      simp
    · rw [if_neg f]
      cases lookA m j with
      | none => rfl
      | some y => simp [f]
theorem mem_keys {k : Int} {m : List (Int × α)} : k ∈ m.map (·.1) ↔ (lookA m k).isSome = true := by
  constructor
  · intro h
    obtain ⟨x, e, _⟩ := lookA_mem h
    rw [e]
    rfl
  · intro h
    rw [← any_lookA, List.any_eq_true] at h
    obtain ⟨p, hp, e⟩ := h
    rw [decide_eq_true_eq] at e
    exact List.mem_map.mpr ⟨p, hp, e⟩
theorem keys_put_in {m : List (Int × α)} {k : Int} {x : α} (h : (lookA m k).isSome = true) : (putA m k x).map (·.1) = m.map (·.1) := by
  unfold putA
  rw [any_lookA, if_pos h, List.map_map]
  refine List.map_congr_left fun p _ => ?_
  show (if p.1 = k then (p.1, x) else p).1 = p.1
  split <;> rfl
theorem keys_put_new {m : List (Int × α)} {k : Int} {x : α} (h : lookA m k = none) : (putA m k x).map (·.1) = m.map (·.1) ++ [k] := by
  unfold putA
  rw [any_lookA, if_neg (by rw [h]; simp), List.map_append]
  rfl
theorem nodup_put {m : List (Int × α)} {k : Int} {x : α} (h : (m.map (·.1)).Nodup) : ((putA m k x).map (·.1)).Nodup := by
  cases e : lookA m k with
  | none =>
    rw [keys_put_new e, List.nodup_append]
    refine ⟨h, by simp, fun a ha b hb => ?_⟩
    rw [List.mem_singleton] at hb
    subst hb
    intro z
    subst z
    rw [mem_keys, e] at ha
    cases ha
  | some y =>
    rw [keys_put_in (by rw [e]; rfl)]
    exact h
end
theorem eq_of_lt : ∀ (a b : List Int), a.Pairwise (· < ·) → b.Pairwise (· < ·) → (∀ x, x ∈ a ↔ x ∈ b) → a = b
  | [], [], _, _, _ => rfl
  | [], y :: b, _, _, h => by
    have := (h y).mpr List.mem_cons_self
    cases this
  | x :: a, [], _, _, h => by
    have := (h x).mp List.mem_cons_self
    cases this
  | x :: a, y :: b, ha, hb, h => by
    rw [List.pairwise_cons] at ha hb
    have e : x = y := by
      have h1 := (h x).mp List.mem_cons_self
      have h2 := (h y).mpr List.mem_cons_self
      rcases List.mem_cons.mp h1 with h1 | h1
      · exact h1
      · rcases List.mem_cons.mp h2 with h2 | h2
        · exact h2.symm
        · have := ha.1 _ h2
          have := hb.1 _ h1
          omega
    subst e
    congr 1
    refine eq_of_lt a b ha.2 hb.2 fun z => ?_
    constructor
    · intro hz
      have h1 := (h z).mp (List.mem_cons_of_mem _ hz)
      rcases List.mem_cons.mp h1 with h1 | h1
      · have := ha.1 _ hz
        omega
      · exact h1
    · intro hz
      have h1 := (h z).mpr (List.mem_cons_of_mem _ hz)
      rcases List.mem_cons.mp h1 with h1 | h1
      · have := hb.1 _ hz
        omega
      · exact h1
theorem lt_of_nodup : ∀ {a : List Int}, a.Pairwise (· ≤ ·) → a.Nodup → a.Pairwise (· < ·)
  | [], _, _ => List.Pairwise.nil
  | x :: a, h, n => by
    rw [List.pairwise_cons] at h
    rw [List.nodup_cons] at n
    rw [List.pairwise_cons]
    refine ⟨fun y hy => ?_, lt_of_nodup h.2 n.2⟩
    have h1 := h.1 y hy
    have h2 : x ≠ y := fun z => n.1 (z ▸ hy)
    omega
end Wn

namespace Wn
open PySem L2
/-! ### ways as plain data -/
inductive Sg where
  | n
  | o
  | t
  | k
def kindB (z : Str) : Bool := decide (z = ("l" : Str)) || (decide (z = ("u" : Str)) || (decide (z = ("a" : Str)) || decide (z = ("f" : Str))))
def cntD : PyData → Bool
  | .int i => decide (0 ≤ i)
  | _ => false
def Sg.ok : Sg → PyData → Bool
  | .n, d => cntD d
  | .o, .none => true
  | .o, d => cntD d
  | .t, .str _ => true
  | .t, _ => false
  | .k, .str z => kindB z
  | .k, _ => false
/-- the same, but for kinds any text -/
def Sg.ok0 : Sg → PyData → Bool
  | .n, d => cntD d
  | .o, .none => true
  | .o, d => cntD d
  | .t, .str _ => true
  | .t, _ => false
  | .k, .str _ => true
  | .k, _ => false
def formsOf (z : Str) : Option (List Sg) :=
  if z = ("sent" : Str) then some [.n, .n, .n, .n, .o, .t] else if z = ("wrapped" : Str) then some [.n, .n, .k, .n, .n, .n, .n, .n, .n] else if z = ("heard" : Str) then some [.n, .n, .n, .n, .n, .t]
  else if z = ("dropped" : Str) then some [.n, .t, .n, .k, .n, .n] else if z = ("passed" : Str) then some [.n, .n, .n, .n, .n, .n, .n, .n] else none
inductive Wy where
  | sent (b r s n : Int) (o : Option Int) (t : Str)
  | wrap (b r : Int) (k : Str) (s o n p q c : Int)
  | heard (b r h s n : Int) (t : Str)
  | drop (b : Int) (y : Str) (r : Int) (k : Str) (s n : Int)
  | pass (b g r s n x y z : Int)
def oD : Option Int → PyData
  | none => .none
  | some i => .int i
def oV : Option Int → V
  | none => .non
  | some i => .int i
def Wy.w : Wy → Str
  | .sent .. => "sent"
  | .wrap .. => "wrapped"
  | .heard .. => "heard"
  | .drop .. => "dropped"
  | .pass .. => "passed"
def Wy.pd : Wy → List PyData
  | .sent b r s n o t => [.int b, .int r, .int s, .int n, oD o, .str t]
  | .wrap b r k s o n p q c => [.int b, .int r, .str k, .int s, .int o, .int n, .int p, .int q, .int c]
  | .heard b r h s n t => [.int b, .int r, .int h, .int s, .int n, .str t]
  | .drop b y r k s n => [.int b, .str y, .int r, .str k, .int s, .int n]
  | .pass b g r s n x y z => [.int b, .int g, .int r, .int s, .int n, .int x, .int y, .int z]
def Wy.pv : Wy → List V
  | .sent b r s n o t => [.int b, .int r, .int s, .int n, oV o, .str t]
  | .wrap b r k s o n p q c => [.int b, .int r, .str k, .int s, .int o, .int n, .int p, .int q, .int c]
  | .heard b r h s n t => [.int b, .int r, .int h, .int s, .int n, .str t]
  | .drop b y r k s n => [.int b, .str y, .int r, .str k, .int s, .int n]
  | .pass b g r s n x y z => [.int b, .int g, .int r, .int s, .int n, .int x, .int y, .int z]
def Wy.d (r : Wy) : PyData := .tuple (.str r.w :: r.pd)
def Wy.v (r : Wy) : List V := .str r.w :: r.pv
def Wy.kindOk : Wy → Bool
  | .wrap _ _ k _ _ _ _ _ _ => kindB k
  | .drop _ _ _ k _ _ => kindB k
  | _ => true
/-- the numbers are none below nought -/
def oOk : Option Int → Prop
  | none => True
  | some i => 0 ≤ i
def Wy.ok0 : Wy → Prop
  | .sent b r s n o _ => 0 ≤ b ∧ 0 ≤ r ∧ 0 ≤ s ∧ 0 ≤ n ∧ oOk o
  | .wrap b r _ s o n p q c => 0 ≤ b ∧ 0 ≤ r ∧ 0 ≤ s ∧ 0 ≤ o ∧ 0 ≤ n ∧ 0 ≤ p ∧ 0 ≤ q ∧ 0 ≤ c
  | .heard b r h s n _ => 0 ≤ b ∧ 0 ≤ r ∧ 0 ≤ h ∧ 0 ≤ s ∧ 0 ≤ n
  | .drop b _ r _ s n => 0 ≤ b ∧ 0 ≤ r ∧ 0 ≤ s ∧ 0 ≤ n
  | .pass b g r s n x y z => 0 ≤ b ∧ 0 ≤ g ∧ 0 ≤ r ∧ 0 ≤ s ∧ 0 ≤ n ∧ 0 ≤ x ∧ 0 ≤ y ∧ 0 ≤ z
def Wy.key : Wy → Int × Int × Int
  | .sent _ r s n _ _ => (r, s, n)
  | .wrap _ r _ s _ n _ _ _ => (r, s, n)
  | .heard _ r _ s n _ => (r, s, n)
  | .drop _ _ r _ s n => (r, s, n)
  | .pass _ _ r s n _ _ _ => (r, s, n)
def Wy.beat : Wy → Int
  | .sent b .. => b
  | .wrap b .. => b
  | .heard b .. => b
  | .drop b .. => b
  | .pass b .. => b
def wayRow0 : PyData → Bool
  | .tuple (.str w :: ds) => match formsOf w with
    | some fs => decide (ds.length = fs.length) && ((fs.zip ds).all fun p => p.1.ok0 p.2)
    | none => false
  | _ => false
def wayRow : PyData → Bool
  | .tuple (.str w :: ds) => match formsOf w with
    | some fs => decide (ds.length = fs.length) && ((fs.zip ds).all fun p => p.1.ok p.2)
    | none => false
  | _ => false
theorem cnt_inv {d : PyData} (h : cntD d = true) : ∃ i, d = .int i ∧ 0 ≤ i := by
  cases d with
  | int i => exact ⟨i, rfl, of_decide_eq_true h⟩
  | _ => cases h
theorem o_inv {d : PyData} (h : Sg.ok0 .o d = true) : ∃ o, d = oD o ∧ oOk o := by
  cases d with
  | none => exact ⟨none, rfl, trivial⟩
  | int i => exact ⟨some i, rfl, show (0 : Int) ≤ i from of_decide_eq_true (show decide (0 ≤ i) = true from h)⟩
  | _ => cases h
theorem t_inv {d : PyData} (h : Sg.ok0 .t d = true) : ∃ z, d = .str z := by
  cases d with
  | str z => exact ⟨z, rfl⟩
  | _ => cases h
theorem k_inv {d : PyData} (h : Sg.ok0 .k d = true) : ∃ z, d = .str z := by
  cases d with
  | str z => exact ⟨z, rfl⟩
  | _ => cases h
theorem formsOf_cases {w : Str} {fs : List Sg} (e : formsOf w = some fs) : w = ("sent" : Str) ∧ fs = [.n, .n, .n, .n, .o, .t] ∨ w = ("wrapped" : Str) ∧ fs = [.n, .n, .k, .n, .n, .n, .n, .n, .n] ∨ w = ("heard" : Str) ∧ fs = [.n, .n, .n, .n, .n, .t] ∨
    w = ("dropped" : Str) ∧ fs = [.n, .t, .n, .k, .n, .n] ∨ w = ("passed" : Str) ∧ fs = [.n, .n, .n, .n, .n, .n, .n, .n] := by
  unfold formsOf at e
  split at e
  · cases e; exact .inl ⟨by assumption, rfl⟩
  split at e
  · cases e; exact .inr (.inl ⟨by assumption, rfl⟩)
  split at e
  · cases e; exact .inr (.inr (.inl ⟨by assumption, rfl⟩))
  split at e
  · cases e; exact .inr (.inr (.inr (.inl ⟨by assumption, rfl⟩)))
  split at e
  · cases e; exact .inr (.inr (.inr (.inr ⟨by assumption, rfl⟩)))
  · cases e
theorem all_cons {f : Sg} {d : PyData} {fs : List Sg} {ds : List PyData} {p : Sg → PyData → Bool} (h : (((f :: fs).zip (d :: ds)).all fun q => p q.1 q.2) = true) : p f d = true ∧ ((fs.zip ds).all fun q => p q.1 q.2) = true := by
  rw [List.zip_cons_cons, List.all_cons, Bool.and_eq_true] at h
  exact h
theorem len_cons {d : List PyData} {n : Nat} (h : d.length = n + 1) : ∃ x r, d = x :: r ∧ r.length = n := by
  cases d with
  | nil => cases h
  | cons x r => exact ⟨x, r, rfl, by simpa using h⟩
theorem len_nil {d : List PyData} (h : d.length = 0) : d = [] := List.length_eq_zero_iff.mp h
/-- such a row, taken apart -/
theorem row0_inv {D : PyData} (h : wayRow0 D = true) : ∃ r : Wy, r.ok0 ∧ D = r.d := by
  unfold wayRow0 at h
  split at h
  · rename_i w ds
    split at h
    · rename_i fs ef
      rw [Bool.and_eq_true, decide_eq_true_eq] at h
      obtain ⟨hl, ha⟩ := h
      rcases formsOf_cases ef with ⟨rfl, rfl⟩ | ⟨rfl, rfl⟩ | ⟨rfl, rfl⟩ | ⟨rfl, rfl⟩ | ⟨rfl, rfl⟩
      · obtain ⟨d1, d2, d3, d4, d5, d6, rfl⟩ : ∃ d1 d2 d3 d4 d5 d6 : PyData, ds = [d1, d2, d3, d4, d5, d6] := by
          match ds, hl with
          | [d1, d2, d3, d4, d5, d6], _ => exact ⟨d1, d2, d3, d4, d5, d6, rfl⟩
        simp only [List.zip_cons_cons, List.all_cons, Bool.and_eq_true] at ha
        obtain ⟨h1, h2, h3, h4, h5, h6, _⟩ := ha
        obtain ⟨b, rfl, p1⟩ := cnt_inv h1
        obtain ⟨r, rfl, p2⟩ := cnt_inv h2
        obtain ⟨s, rfl, p3⟩ := cnt_inv h3
        obtain ⟨n, rfl, p4⟩ := cnt_inv h4
        obtain ⟨o, rfl, p5⟩ := o_inv h5
        obtain ⟨t, rfl⟩ := t_inv h6
        exact ⟨.sent b r s n o t, ⟨p1, p2, p3, p4, p5⟩, rfl⟩
      · obtain ⟨d1, d2, d3, d4, d5, d6, d7, d8, d9, rfl⟩ : ∃ d1 d2 d3 d4 d5 d6 d7 d8 d9 : PyData, ds = [d1, d2, d3, d4, d5, d6, d7, d8, d9] := by
          match ds, hl with
          | [d1, d2, d3, d4, d5, d6, d7, d8, d9], _ => exact ⟨d1, d2, d3, d4, d5, d6, d7, d8, d9, rfl⟩
        simp only [List.zip_cons_cons, List.all_cons, Bool.and_eq_true] at ha
        obtain ⟨h1, h2, h3, h4, h5, h6, h7, h8, h9, _⟩ := ha
        obtain ⟨b, rfl, p1⟩ := cnt_inv h1
        obtain ⟨r, rfl, p2⟩ := cnt_inv h2
        obtain ⟨k, rfl⟩ := k_inv h3
        obtain ⟨s, rfl, p4⟩ := cnt_inv h4
        obtain ⟨o, rfl, p5⟩ := cnt_inv h5
        obtain ⟨n, rfl, p6⟩ := cnt_inv h6
        obtain ⟨p, rfl, p7⟩ := cnt_inv h7
        obtain ⟨q, rfl, p8⟩ := cnt_inv h8
        obtain ⟨c, rfl, p9⟩ := cnt_inv h9
        exact ⟨.wrap b r k s o n p q c, ⟨p1, p2, p4, p5, p6, p7, p8, p9⟩, rfl⟩
      · obtain ⟨d1, d2, d3, d4, d5, d6, rfl⟩ : ∃ d1 d2 d3 d4 d5 d6 : PyData, ds = [d1, d2, d3, d4, d5, d6] := by
          match ds, hl with
          | [d1, d2, d3, d4, d5, d6], _ => exact ⟨d1, d2, d3, d4, d5, d6, rfl⟩
        simp only [List.zip_cons_cons, List.all_cons, Bool.and_eq_true] at ha
        obtain ⟨h1, h2, h3, h4, h5, h6, _⟩ := ha
        obtain ⟨b, rfl, p1⟩ := cnt_inv h1
        obtain ⟨r, rfl, p2⟩ := cnt_inv h2
        obtain ⟨h, rfl, p3⟩ := cnt_inv h3
        obtain ⟨s, rfl, p4⟩ := cnt_inv h4
        obtain ⟨n, rfl, p5⟩ := cnt_inv h5
        obtain ⟨t, rfl⟩ := t_inv h6
        exact ⟨.heard b r h s n t, ⟨p1, p2, p3, p4, p5⟩, rfl⟩
      · obtain ⟨d1, d2, d3, d4, d5, d6, rfl⟩ : ∃ d1 d2 d3 d4 d5 d6 : PyData, ds = [d1, d2, d3, d4, d5, d6] := by
          match ds, hl with
          | [d1, d2, d3, d4, d5, d6], _ => exact ⟨d1, d2, d3, d4, d5, d6, rfl⟩
        simp only [List.zip_cons_cons, List.all_cons, Bool.and_eq_true] at ha
        obtain ⟨h1, h2, h3, h4, h5, h6, _⟩ := ha
        obtain ⟨b, rfl, p1⟩ := cnt_inv h1
        obtain ⟨y, rfl⟩ := t_inv h2
        obtain ⟨r, rfl, p3⟩ := cnt_inv h3
        obtain ⟨k, rfl⟩ := k_inv h4
        obtain ⟨s, rfl, p5⟩ := cnt_inv h5
        obtain ⟨n, rfl, p6⟩ := cnt_inv h6
        exact ⟨.drop b y r k s n, ⟨p1, p3, p5, p6⟩, rfl⟩
      · obtain ⟨d1, d2, d3, d4, d5, d6, d7, d8, rfl⟩ : ∃ d1 d2 d3 d4 d5 d6 d7 d8 : PyData, ds = [d1, d2, d3, d4, d5, d6, d7, d8] := by
          match ds, hl with
          | [d1, d2, d3, d4, d5, d6, d7, d8], _ => exact ⟨d1, d2, d3, d4, d5, d6, d7, d8, rfl⟩
        simp only [List.zip_cons_cons, List.all_cons, Bool.and_eq_true] at ha
        obtain ⟨h1, h2, h3, h4, h5, h6, h7, h8, _⟩ := ha
        obtain ⟨b, rfl, p1⟩ := cnt_inv h1
        obtain ⟨g, rfl, p2⟩ := cnt_inv h2
        obtain ⟨r, rfl, p3⟩ := cnt_inv h3
        obtain ⟨s, rfl, p4⟩ := cnt_inv h4
        obtain ⟨n, rfl, p5⟩ := cnt_inv h5
        obtain ⟨x, rfl, p6⟩ := cnt_inv h6
        obtain ⟨y, rfl, p7⟩ := cnt_inv h7
        obtain ⟨z, rfl, p8⟩ := cnt_inv h8
        exact ⟨.pass b g r s n x y z, ⟨p1, p2, p3, p4, p5, p6, p7, p8⟩, rfl⟩
    · cases h
  · cases h
/-- the full form: and kinds -/
theorem wayRow_kind (r : Wy) (h : wayRow0 r.d = true) : wayRow r.d = r.kindOk := by
  have dt : ∀ {w : Str} {fs : List Sg} {ds : List PyData}, formsOf w = some fs → ds.length = fs.length → wayRow (.tuple (.str w :: ds)) = ((fs.zip ds).all fun p => p.1.ok p.2) := fun {w fs ds} e l => by
    show (match formsOf w with | some fs => decide (ds.length = fs.length) && ((fs.zip ds).all fun p => p.1.ok p.2) | none => false) = _
    rw [e]
    dsimp only
    rw [decide_eq_true l, Bool.true_and]
  have dt0 : ∀ {w : Str} {fs : List Sg} {ds : List PyData}, formsOf w = some fs → ds.length = fs.length → wayRow0 (.tuple (.str w :: ds)) = ((fs.zip ds).all fun p => p.1.ok0 p.2) := fun {w fs ds} e l => by
    show (match formsOf w with | some fs => decide (ds.length = fs.length) && ((fs.zip ds).all fun p => p.1.ok0 p.2) | none => false) = _
    rw [e]
    dsimp only
    rw [decide_eq_true l, Bool.true_and]
  have oo : ∀ o, Sg.ok .o (oD o) = Sg.ok0 .o (oD o) := fun o => by cases o <;> rfl
  cases r with
  | sent b r s n o t =>
    unfold Wy.d at h ⊢
    have e : formsOf (Wy.w (.sent b r s n o t)) = some [.n, .n, .n, .n, .o, .t] := rfl
    rw [dt0 e rfl] at h
    rw [dt e rfl]
    simp only [Wy.pd, List.zip_cons_cons, List.all_cons, oo] at h ⊢
    exact h
  | wrap b r k s o n p q c =>
    unfold Wy.d at h ⊢
    have e : formsOf (Wy.w (.wrap b r k s o n p q c)) = some [.n, .n, .k, .n, .n, .n, .n, .n, .n] := rfl
    rw [dt0 e rfl] at h
    rw [dt e rfl]
    simp only [Wy.pd, List.zip_cons_cons, List.all_cons, Sg.ok0, Sg.ok, Bool.and_eq_true, Bool.true_and] at h ⊢
    simp [Wy.kindOk, h]
  | heard b r h' s n t =>
    unfold Wy.d at h ⊢
    have e : formsOf (Wy.w (.heard b r h' s n t)) = some [.n, .n, .n, .n, .n, .t] := rfl
    rw [dt0 e rfl] at h
    rw [dt e rfl]
    exact h
  | drop b y r k s n =>
    unfold Wy.d at h ⊢
    have e : formsOf (Wy.w (.drop b y r k s n)) = some [.n, .t, .n, .k, .n, .n] := rfl
    rw [dt0 e rfl] at h
    rw [dt e rfl]
    simp only [Wy.pd, List.zip_cons_cons, List.all_cons, Sg.ok0, Sg.ok, Bool.and_eq_true, Bool.true_and] at h ⊢
    simp [Wy.kindOk, h]
  | pass b g r s n x y z =>
    unfold Wy.d at h ⊢
    have e : formsOf (Wy.w (.pass b g r s n x y z)) = some [.n, .n, .n, .n, .n, .n, .n, .n] := rfl
    rw [dt0 e rfl] at h
    rw [dt e rfl]
    exact h
/-! ### the judge -/
abbrev Wp := Int × Int × Int × Bool
def isFk (k : Str) : Bool := decide (k = ("f" : Str))
def Wy.wr : Wy → Option Wp
  | .wrap _ _ k _ _ _ p q c => some (p, q, c, isFk k)
  | _ => none
def Wy.isSent : Wy → Bool
  | .sent .. => true
  | _ => false
def heardOk : Wy → Wy → Bool
  | .sent _ _ s _ o t, .heard _ _ h _ _ t' => decide (t' = t) && (decide (oV o = V.int h) || decide (o = none) && decide (h ≠ s))
  | _, .heard .. => false
  | _, _ => true
def monoB : List Int → Bool
  | [] => true
  | b :: bs => ((b :: bs).zip bs).all fun p => decide (p.1 ≤ p.2)
def firstsOk (ws : List Wp) : Bool := match ws.filter fun w => !w.2.2.2 with
  | [] => true
  | w :: r => (w :: r).all fun v => decide (v.1 = w.1)
def ledOn (ahead : List Wp) (w : Wp) : Bool := ahead.any fun v => decide (v.2.1 = w.1) && decide (w.2.2.1 < v.2.2.1)
def ledOk : List Wp → List Wp → Bool
  | _, [] => true
  | a, w :: ws => (decide (w.2.2.1 < 4) && (!w.2.2.2 || ledOn a w)) && ledOk (a ++ [w]) ws
def wayB : List Wy → Bool
  | [] => false
  | f :: tl => f.isSent && tl.all (fun r => !r.isSent) && (f :: tl).all (fun r => decide (r.key = f.key)) && monoB ((f :: tl).map Wy.beat) && (firstsOk ((f :: tl).filterMap Wy.wr) && ledOk [] ((f :: tl).filterMap Wy.wr)) && (f :: tl).all (heardOk f)
/-! ### the law's own look -/
structure Ws where
  beat : Int
  came : List (Int × Int)
  starts : List (Int × Bool)
def Ws.up (S : Ws) (r : Wy) : Ws := match r.wr with
  | none => { S with beat := r.beat }
  | some (p, q, c, b) => ⟨r.beat, putA S.came q (max ((lookA S.came q).getD (-1)) c), if b = true then S.starts else putA S.starts p true⟩
def wrapCk (S : Ws) : Option Wp → Bool
  | none => true
  | some (p, _, c, b) => decide (c < 4) && (!b || decide (c < (lookA S.came p).getD (-1)))
def Ws.ck (S : Ws) (f r : Wy) : Bool := decide (r.key = f.key) && decide (S.beat ≤ r.beat) && heardOk f r && wrapCk S r.wr
def chk (f : Wy) : Ws → List Wy → Bool
  | _, [] => true
  | S, r :: rs => S.ck f r && chk f (S.up r) rs
def lawB : List Wy → Bool
  | [] => false
  | f :: tl => f.isSent && tl.all (fun r => !r.isSent) && chk f ⟨0, [], []⟩ (f :: tl) && decide (((f :: tl).foldl Ws.up ⟨0, [], []⟩).starts.length < 2)
/-- the state behind rows whose wraps are ws -/
structure WsOf (S : Ws) (ws : List Wp) : Prop where
  came : ∀ p c : Int, 0 ≤ c → (c < (lookA S.came p).getD (-1) ↔ ∃ v ∈ ws, v.2.1 = p ∧ c < v.2.2.1)
  nd : (S.starts.map (·.1)).Nodup
  st : ∀ p, p ∈ S.starts.map (·.1) ↔ ∃ v ∈ ws, v.2.2.2 = false ∧ v.1 = p
theorem WsOf.nil : WsOf ⟨0, [], []⟩ [] := by
  refine ⟨fun p c hc => ⟨fun h => ?_, fun ⟨v, hv, _⟩ => ?_⟩, List.nodup_nil, fun p => ⟨fun h => ?_, fun ⟨v, hv, _⟩ => ?_⟩⟩
  · have h : c < -1 := h
    omega
  · cases hv
  · cases h
  · cases hv
theorem keysP {S : List (Int × Bool)} {p k : Int} : k ∈ (putA S p true).map (·.1) ↔ k = p ∨ k ∈ S.map (·.1) := by
  rw [mem_keys, lookA_put, mem_keys]
  by_cases h : k = p
  · simp [h]
  · simp [h]
theorem WsOf.up {S : Ws} {ws : List Wp} (h : WsOf S ws) (r : Wy) : WsOf (S.up r) (ws ++ r.wr.toList) := by
  unfold Ws.up
  cases e : r.wr with
  | none =>
    rw [show (none : Option Wp).toList = [] from rfl, List.append_nil]
    exact ⟨h.came, h.nd, h.st⟩
  | some w =>
    obtain ⟨p, q, c, b⟩ := w
    rw [show (some (p, q, c, b) : Option Wp).toList = [(p, q, c, b)] from rfl]
    refine ⟨fun k d hd => ?_, ?_, fun k => ?_⟩
    · show d < (lookA (putA S.came q (max ((lookA S.came q).getD (-1)) c)) k).getD (-1) ↔ _
      rw [lookA_put]
      by_cases hk : k = q
      · subst hk
        rw [if_pos rfl]
        show d < max ((lookA S.came k).getD (-1)) c ↔ _
        constructor
        · intro z
          by_cases z2 : d < (lookA S.came k).getD (-1)
          · obtain ⟨v, hv, e1, e2⟩ := (h.came k d hd).mp z2
            exact ⟨v, List.mem_append_left _ hv, e1, e2⟩
          · exact ⟨(p, k, c, b), List.mem_append_right _ List.mem_cons_self, rfl, show d < c by omega⟩
        · rintro ⟨v, hv, e1, e2⟩
          rcases List.mem_append.mp hv with hv | hv
          · have := (h.came k d hd).mpr ⟨v, hv, e1, e2⟩
            omega
          · rw [List.mem_singleton.mp hv] at e2
            have e2 : d < c := e2
            omega
      · rw [if_neg hk, h.came k d hd]
        constructor
        · rintro ⟨v, hv, e1, e2⟩
          exact ⟨v, List.mem_append_left _ hv, e1, e2⟩
        · rintro ⟨v, hv, e1, e2⟩
          rcases List.mem_append.mp hv with hv | hv
          · exact ⟨v, hv, e1, e2⟩
          · rw [List.mem_singleton.mp hv] at e1
            exact absurd e1.symm hk
    · cases b with
      | true => exact h.nd
      | false => exact nodup_put h.nd
    · cases b with
      | true =>
        show k ∈ S.starts.map (·.1) ↔ _
        rw [h.st]
        constructor
        · rintro ⟨v, hv, e1, e2⟩
          exact ⟨v, List.mem_append_left _ hv, e1, e2⟩
        · rintro ⟨v, hv, e1, e2⟩
          rcases List.mem_append.mp hv with hv | hv
          · exact ⟨v, hv, e1, e2⟩
          · rw [List.mem_singleton.mp hv] at e1
            cases e1
      | false =>
        show k ∈ (putA S.starts p true).map (·.1) ↔ _
        rw [keysP, h.st]
        constructor
        · rintro (z | ⟨v, hv, e1, e2⟩)
          · exact ⟨(p, q, c, false), List.mem_append_right _ List.mem_cons_self, rfl, z.symm⟩
          · exact ⟨v, List.mem_append_left _ hv, e1, e2⟩
        · rintro ⟨v, hv, e1, e2⟩
          rcases List.mem_append.mp hv with hv | hv
          · exact .inr ⟨v, hv, e1, e2⟩
          · rw [List.mem_singleton.mp hv] at e2
            exact .inl e2.symm
def monoF : Int → List Int → Bool
  | _, [] => true
  | b, c :: cs => decide (b ≤ c) && monoF c cs
theorem monoB_F : ∀ (b : Int) (bs : List Int), monoB (b :: bs) = monoF b bs
  | b, [] => rfl
  | b, c :: cs => by
    show (decide (b ≤ c) && ((c :: cs).zip cs).all _) = (decide (b ≤ c) && monoF c cs)
    rw [← monoB_F c cs]
    rfl
theorem wr_pos {r : Wy} (h : r.ok0) {w : Wp} (e : r.wr = some w) : 0 ≤ w.2.2.1 := by
  cases r with
  | wrap b r k s o n p q c =>
    cases e
    exact h.2.2.2.2.2.2.2
  | _ => cases e
theorem fm_cons {r : Wy} {rs : List Wy} : (r :: rs).filterMap Wy.wr = r.wr.toList ++ rs.filterMap Wy.wr := by
  rw [List.filterMap_cons]
  cases r.wr <;> rfl
theorem ledOk_app (a : List Wp) (o : Option Wp) (ws : List Wp) : ledOk a (o.toList ++ ws) = ((match o with | none => true | some w => decide (w.2.2.1 < 4) && (!w.2.2.2 || ledOn a w)) && ledOk (a ++ o.toList) ws) := by
  cases o with
  | none =>
    show ledOk a ws = (true && ledOk (a ++ []) ws)
    rw [Bool.true_and, List.append_nil]
  | some w => rfl
theorem chk_eq {f : Wy} : ∀ {rs : List Wy} {S : Ws} {ws : List Wp}, WsOf S ws → (∀ r ∈ rs, r.ok0) → chk f S rs = (rs.all (fun r => decide (r.key = f.key)) && monoF S.beat (rs.map Wy.beat) && rs.all (heardOk f) && ledOk ws (rs.filterMap Wy.wr))
  | [], S, ws, _, _ => rfl
  | r :: rs, S, ws, h, ok => by
    have hu := h.up r
    have bu : (S.up r).beat = r.beat := by
      unfold Ws.up
      split <;> rfl
    unfold chk
    rw [chk_eq hu (fun z hz => ok z (List.mem_cons_of_mem _ hz)), fm_cons, ledOk_app, bu]
    have ew : wrapCk S r.wr = (match r.wr with | none => true | some w => decide (w.2.2.1 < 4) && (!w.2.2.2 || ledOn ws w)) := by
      cases e : r.wr with
      | none => rfl
      | some w =>
        obtain ⟨p, q, c, b⟩ := w
        have hc := wr_pos (ok r List.mem_cons_self) e
        show (decide (c < 4) && (!b || decide (c < (lookA S.came p).getD (-1)))) = (decide (c < 4) && (!b || ledOn ws (p, q, c, b)))
        have e2 : decide (c < (lookA S.came p).getD (-1)) = ledOn ws (p, q, c, b) := by
          unfold ledOn
          rw [Bool.eq_iff_iff, decide_eq_true_eq, h.came p c hc, List.any_eq_true]
          constructor
          · rintro ⟨v, hv, e1, e2⟩
            exact ⟨v, hv, by rw [Bool.and_eq_true, decide_eq_true_eq, decide_eq_true_eq]; exact ⟨e1, e2⟩⟩
          · rintro ⟨v, hv, e1⟩
            rw [Bool.and_eq_true, decide_eq_true_eq, decide_eq_true_eq] at e1
            exact ⟨v, hv, e1.1, e1.2⟩
        rw [e2]
    unfold Ws.ck
    rw [ew, List.all_cons, List.all_cons, List.map_cons]
    show _ = (_ && _ && (decide (S.beat ≤ r.beat) && monoF r.beat (rs.map Wy.beat)) && _ && _)
    generalize (match r.wr with | none => true | some w => decide (w.2.2.1 < 4) && (!w.2.2.2 || ledOn ws w)) = x1
    generalize decide (r.key = f.key) = x2
    generalize decide (S.beat ≤ r.beat) = x3
    generalize heardOk f r = x4
    generalize (rs.all fun r => decide (r.key = f.key)) = x5
    generalize monoF r.beat (rs.map Wy.beat) = x6
    generalize rs.all (heardOk f) = x7
    generalize ledOk (ws ++ r.wr.toList) (rs.filterMap Wy.wr) = x8
    cases x1 <;> cases x2 <;> cases x3 <;> cases x4 <;> cases x5 <;> cases x6 <;> cases x7 <;> cases x8 <;> rfl
theorem foldl_of : ∀ {rs : List Wy} {S : Ws} {ws : List Wp}, WsOf S ws → WsOf (rs.foldl Ws.up S) (ws ++ rs.filterMap Wy.wr)
  | [], S, ws, h => by
    rw [List.filterMap_nil, List.append_nil]
    exact h
  | r :: rs, S, ws, h => by
    rw [fm_cons, ← List.append_assoc]
    exact foldl_of (h.up r)
theorem starts_eq {S : Ws} {ws : List Wp} (h : WsOf S ws) : decide (S.starts.length < 2) = firstsOk ws := by
  have hm : ∀ v : Wp, v ∈ ws.filter (fun w => !w.2.2.2) ↔ v ∈ ws ∧ v.2.2.2 = false := fun v => by
    rw [List.mem_filter]
    constructor
    · rintro ⟨a, b⟩
      exact ⟨a, by simpa using b⟩
    · rintro ⟨a, b⟩
      exact ⟨a, by simp [b]⟩
  rw [Bool.eq_iff_iff, decide_eq_true_eq]
  unfold firstsOk
  constructor
  · intro hl
    split
    · rfl
    · rename_i w r e
      rw [List.all_eq_true]
      intro v hv
      rw [decide_eq_true_eq]
      have hw : w ∈ ws.filter (fun w => !w.2.2.2) := by rw [e]; exact List.mem_cons_self
      have hv : v ∈ ws.filter (fun w => !w.2.2.2) := by rw [e]; exact hv
      have k1 := (h.st w.1).mpr ⟨w, ((hm w).mp hw).1, ((hm w).mp hw).2, rfl⟩
      have k2 := (h.st v.1).mpr ⟨v, ((hm v).mp hv).1, ((hm v).mp hv).2, rfl⟩
      match hs : S.starts, hl, k1, k2 with
      | [x], _, k1, k2 =>
        rw [List.mem_singleton.mp k1, List.mem_singleton.mp k2]
      | [], _, k1, _ =>
        cases k1
  · intro hf
    have all : ∀ a ∈ S.starts.map (·.1), ∀ b ∈ S.starts.map (·.1), a = b := fun a ha b hb => by
      obtain ⟨v, hv, f1, e1⟩ := (h.st a).mp ha
      obtain ⟨u, hu, f2, e2⟩ := (h.st b).mp hb
      have m1 := (hm v).mpr ⟨hv, f1⟩
      have m2 := (hm u).mpr ⟨hu, f2⟩
      split at hf
      · rename_i e
        rw [e] at m1
        cases m1
      · rename_i w r e
        rw [e] at m1 m2
        rw [List.all_eq_true] at hf
        have q1 := hf v m1
        have q2 := hf u m2
        rw [decide_eq_true_eq] at q1 q2
        rw [← e1, ← e2, q1, q2]
    have nd := h.nd
    have le : (S.starts.map (·.1)).length = S.starts.length := List.length_map _
    match hs : S.starts.map (·.1), nd with
    | [], _ => rw [hs] at le; rw [← le]; decide
    | [x], _ => rw [hs] at le; rw [← le]; exact Nat.lt_succ_self 1
    | x :: y :: t, nd =>
      rw [hs] at nd all
      have := all x List.mem_cons_self y (List.mem_cons_of_mem _ List.mem_cons_self)
      subst this
      exact absurd List.mem_cons_self (List.nodup_cons.mp nd).1
theorem lawB_eq : ∀ {rs : List Wy}, (∀ r ∈ rs, r.ok0) → lawB rs = wayB rs
  | [], _ => rfl
  | f :: tl, ok => by
    show (f.isSent && tl.all (fun r => !r.isSent) && chk f ⟨0, [], []⟩ (f :: tl) && decide (((f :: tl).foldl Ws.up ⟨0, [], []⟩).starts.length < 2)) = (f.isSent && tl.all (fun r => !r.isSent) && (f :: tl).all (fun r => decide (r.key = f.key)) && monoB ((f :: tl).map Wy.beat) && (firstsOk ((f :: tl).filterMap Wy.wr) && ledOk [] ((f :: tl).filterMap Wy.wr)) && (f :: tl).all (heardOk f))
    have b0 : (0 : Int) ≤ f.beat := by
      have := ok f List.mem_cons_self
      cases f <;> exact this.1
    have em : monoF 0 ((f :: tl).map Wy.beat) = monoB ((f :: tl).map Wy.beat) := by
      rw [List.map_cons, monoB_F]
      show (decide (0 ≤ f.beat) && _) = _
      rw [decide_eq_true b0, Bool.true_and]
    have es := starts_eq (foldl_of (rs := f :: tl) WsOf.nil)
    rw [List.nil_append] at es
    rw [chk_eq WsOf.nil ok, es, em]
    generalize f.isSent = x1
    generalize (tl.all fun r => !r.isSent) = x2
    generalize ((f :: tl).all fun r => decide (r.key = f.key)) = x3
    generalize monoB ((f :: tl).map Wy.beat) = x4
    generalize (f :: tl).all (heardOk f) = x5
    generalize ledOk [] ((f :: tl).filterMap Wy.wr) = x6
    generalize firstsOk ((f :: tl).filterMap Wy.wr) = x7
    cases x1 <;> cases x2 <;> cases x3 <;> cases x4 <;> cases x5 <;> cases x6 <;> cases x7 <;> rfl
end Wn

namespace Wn
open PySem L2
/-- a new tuple is appended to a list of data -/
theorem push_tup {K : PySem.W.Frag} {G : Hp} {t fa : Addr} {zs vs : List V} {U ds : List PyData} (hG : G fa = some (.lst zs)) (rG : RpL K G U zs) (nt : G t = none) (rv : RpL K G ds vs) :
    upd G t (.tup vs) fa = some (.lst zs) ∧ LstAt K (upd (upd G t (.tup vs)) fa (.lst (zs ++ [.ref t]))) fa (U ++ [.tuple ds]) ∧ TK G (upd (upd G t (.tup vs)) fa (.lst (zs ++ [.ref t]))) ∧ Kp [fa] G (upd (upd G t (.tup vs)) fa (.lst (zs ++ [.ref t]))) := by
  have s6 : Same G (upd G t (.tup vs)) := (L2.Same.refl _).new nt
  have rt : Rp K (upd G t (.tup vs)) (.tuple ds) (.ref t) := Rp.tup upd_same (RpL.tk (TK.of s6) _ _ rv)
  have tE : TK (upd G t (.tup vs)) (upd (upd G t (.tup vs)) fa (.lst (zs ++ [.ref t]))) := (TK.refl _).wr (s6 _ _ hG) rfl
  exact ⟨s6 _ _ hG, ⟨_, upd_same, RpL.tk tE _ _ (RpL.app (RpL.tk (TK.of s6) _ _ rG) (RpL.cons rt RpL.nil))⟩, (TK.of s6).trans tE, (Kp.of s6).wr (List.mem_singleton.mpr rfl)⟩
/-- a thing that stands is appended -/
theorem push_old {K : PySem.W.Frag} {G : Hp} {fa : Addr} {zs : List V} {v : V} {U : List PyData} {d : PyData} (hG : G fa = some (.lst zs)) (rG : RpL K G U zs) (rv : Rp K G d v) :
    LstAt K (upd G fa (.lst (zs ++ [v]))) fa (U ++ [d]) ∧ TK G (upd G fa (.lst (zs ++ [v]))) ∧ Kp [fa] G (upd G fa (.lst (zs ++ [v]))) := by
  have tE : TK G (upd G fa (.lst (zs ++ [v]))) := (TK.refl _).wr hG rfl
  exact ⟨⟨_, upd_same, RpL.tk tE _ _ (RpL.app rG (RpL.cons rv RpL.nil))⟩, tE, (Kp.refl _ _).wr (List.mem_singleton.mpr rfl)⟩
/-- flat data: the very values -/
theorem RpL.flat {β : Type} {K : PySem.W.Frag} {H : Hp} {f : β → PyData} {g : β → V} (h : ∀ b v, Rp K H (f b) v → v = g b) : ∀ {L : List β} {ys : List V}, RpL K H (L.map f) ys → ys = L.map g
  | [], ys, r => by
    rw [List.map_nil] at r
    unfold RpL at r
    exact r
  | b :: L, ys, r => by
    rw [List.map_cons] at r
    unfold RpL at r
    obtain ⟨v, t, rfl, h1, h2⟩ := r
    rw [h b v h1, RpL.flat h h2]
    rfl
theorem Rp.bool_eq {K : PySem.W.Frag} {H : Hp} {b : Bool} {v : V} (r : Rp K H (.bool b) v) : v = .bl b := by
  unfold Rp at r
  exact r
theorem Rp.str_eq {K : PySem.W.Frag} {H : Hp} {z : Str} {v : V} (r : Rp K H (.str z) v) : v = .str z := by
  unfold Rp at r
  exact r
theorem Rp.int_eq {K : PySem.W.Frag} {H : Hp} {i : Int} {v : V} (r : Rp K H (.int i) v) : v = .int i := by
  unfold Rp at r
  exact r
theorem Rp.bool {K : PySem.W.Frag} {H : Hp} {b : Bool} : Rp K H (.bool b) (.bl b) := by
  unfold Rp
  rfl
mutual
theorem Rp.dp {K : PySem.W.Frag} {H : Hp} : ∀ (d : PyData) (v : V), Rp K H d v → Dp K H v d
  | .none, _, h => by
    unfold Rp at h
    subst h
    exact .non
  | .bool b, _, h => by
    unfold Rp at h
    subst h
    exact .bl b
  | .int i, _, h => by
    unfold Rp at h
    subst h
    exact .int i
  | .str s, _, h => by
    unfold Rp at h
    subst h
    exact .str s
  | .tuple ds, v, h => by
    unfold Rp at h
    obtain ⟨a, xs, rfl, hs, hl⟩ := h
    exact .tup hs (RpL.dp ds xs hl)
  | .list _, _, h => by
    unfold Rp at h
    exact h.elim
  | .dict _, _, h => by
    unfold Rp at h
    exact h.elim
theorem RpL.dp {K : PySem.W.Frag} {H : Hp} : ∀ (ds : List PyData) (xs : List V), RpL K H ds xs → DpAll K H xs ds
  | [], xs, h => by
    unfold RpL at h
    subst h
    exact .nil
  | d :: ds, xs, h => by
    unfold RpL at h
    obtain ⟨v, r, rfl, h1, h2⟩ := h
    exact .cons (Rp.dp d v h1) (RpL.dp ds r h2)
end
end Wn

namespace Wn
open PySem L2
/-! ### backward steps over heaps: used by the macros of tools/auto.txt -/
section
variable {K : PySem.W.Frag} {H H' G : Hp} {a b : Addr} {o u : HO} {M : List Addr}
theorem g_same (s : Same H H') (h : H a = some o) : H' a = some o := s _ _ h
theorem g_kp (k : Kp M H H') (n : a ∉ M) (h : H a = some o) : H' a = some o := k _ _ n h
theorem g_tk {xs : List V} (t : TK H H') (h : H a = some (.tup xs)) : H' a = some (.tup xs) := t.1 _ _ h
theorem g_upd (n : b ≠ a) (h : H b = some u) : upd H a o b = some u := (upd_ne n).trans h
theorem n_same (s : Same H H') (h : H' a = none) : H a = none := by
  cases e : H a with
  | none => rfl
  | some o =>
    rw [s _ _ e] at h
    cases h
theorem n_kp (k : Kp M H H') (n : a ∉ M) (h : H' a = none) : H a = none := by
  cases e : H a with
  | none => rfl
  | some o =>
    rw [k _ _ n e] at h
    cases h
theorem n_upd (h : upd H a o b = none) : H b = none := by
  unfold upd at h
  split at h
  · cases h
  · exact h
theorem ne_fr (h : H b = none) (h' : H a = some o) : a ≠ b := ne_of_none h' h
theorem ne_fr' (h : H a = none) (h' : H b = some o) : a ≠ b := (ne_of_none h' h).symm
theorem ne_kd (h : H a = some o) (h' : H b = some u) (d : o ≠ u) : a ≠ b := ne_of h h' d
theorem ne_upd (h : upd H a o b = none) : b ≠ a := by
  intro e
  subst e
  rw [upd_same] at h
  cases h
theorem t_tk (b : TK G H') (a : TK H G) : TK H H' := a.trans b
theorem t_same (b : Same G H') (a : TK H G) : TK H H' := a.trans (TK.of b)
theorem t_new (hp : G a = none) (t : TK H G) : TK H (upd G a o) := t.new hp
theorem t_wr (hp : G a = some u) (hu : Wrt u = true) (t : TK H G) : TK H (upd G a o) := t.wr hp hu
theorem s_same (b : Same G H') (a : Same H G) : Same H H' := a.trans b
theorem s_new (hp : G a = none) (s : Same H G) : Same H (upd G a o) := s.new hp
theorem s_wrn (hp : H a = none) (s : Same H G) : Same H (upd G a o) := s.wrn hp
theorem k_kp (b : Kp M G H') (a : Kp M H G) : Kp M H H' := a.trans b
theorem k_kpm {M' : List Addr} (b : Kp M' G H') (h : ∀ x ∈ M', x ∈ M ∨ H x = none) (a : Kp M H G) : Kp M H H' := fun c o hc e => b c o (fun z => (h c z).elim hc fun n => by rw [n] at e; cases e) (a c o hc e)
theorem k_same (b : Same G H') (a : Kp M H G) : Kp M H H' := a.trans (Kp.of b)
theorem k_new (hp : G a = none) (s : Kp M H G) : Kp M H (upd G a o) := s.new hp
theorem k_wr (hp : a ∈ M) (s : Kp M H G) : Kp M H (upd G a o) := s.wr hp
theorem k_wrn (hp : H a = none) (s : Kp M H G) : Kp M H (upd G a o) := s.wrn hp
theorem am0 : ∀ x ∈ ([] : List Addr), x ∈ M ∨ H x = none := fun x h => by cases h
theorem am1 {N : List Addr} (h : a ∈ M ∨ H a = none) (r : ∀ x ∈ N, x ∈ M ∨ H x = none) : ∀ x ∈ a :: N, x ∈ M ∨ H x = none := fun x z => by
  rcases List.mem_cons.mp z with rfl | z
  · exact h
  · exact r x z
theorem Rp.tk' {d : PyData} {v : V} (h : Rp K H d v) (e : TK H H') : Rp K H' d v := Rp.tk e d v h
theorem RpL.tk' {ds : List PyData} {xs : List V} (h : RpL K H ds xs) (e : TK H H') : RpL K H' ds xs := RpL.tk e ds xs h
theorem nin0 : a ∉ ([] : List Addr) := fun z => by cases z
theorem ninc {N : List Addr} (h : a ≠ b) (r : a ∉ N) : a ∉ b :: N := fun z => by
  rcases List.mem_cons.mp z with z | z
  · exact h z
  · exact r z
/-! ### tests -/
theorem iteP {p : Prop} [Decidable p] {A B : Prop} (h1 : p → A) (h2 : ¬ p → B) : if decide p = true then A else B := by
  by_cases h : p
  · rw [if_pos (decide_eq_true h)]
    exact h1 h
  · rw [if_neg (by rw [decide_eq_false h]; exact Bool.false_ne_true)]
    exact h2 h
theorem iteNP {p : Prop} [Decidable p] {A B : Prop} (h1 : ¬ p → A) (h2 : p → B) : if (!decide p) = true then A else B := by
  by_cases h : p
  · rw [decide_eq_true h]
    exact h2 h
  · rw [decide_eq_false h]
    exact h1 h
theorem iteI {i j : Int} {A B : Prop} (h1 : i = j → A) (h2 : i ≠ j → B) : if decide (V.int i = V.int j) = true then A else B :=
  iteP (fun h => h1 (by injection h)) fun h => h2 fun z => h (by rw [z])
theorem iteNI {i j : Int} {A B : Prop} (h1 : i ≠ j → A) (h2 : i = j → B) : if (!decide (V.int i = V.int j)) = true then A else B :=
  iteNP (fun h => h1 fun z => h (by rw [z])) fun h => h2 (by injection h)
theorem iteS {i j : Str} {A B : Prop} (h1 : i = j → A) (h2 : i ≠ j → B) : if decide (V.str i = V.str j) = true then A else B :=
  iteP (fun h => h1 (by injection h)) fun h => h2 fun z => h (by rw [z])
theorem iteNS' {i j : Str} {A B : Prop} (h1 : i ≠ j → A) (h2 : i = j → B) : if (!decide (V.str i = V.str j)) = true then A else B :=
  iteNP (fun h => h1 fun z => h (by rw [z])) fun h => h2 (by injection h)
theorem iteB {b : Bool} {A B : Prop} (h1 : b = true → A) (h2 : b = false → B) : if b = true then A else B := by
  cases b with
  | true => exact h1 rfl
  | false => exact h2 rfl
theorem dV_int {i j : Int} : decide (V.int i = V.int j) = decide (i = j) := decide_eq_decide.mpr ⟨fun h => by injection h, fun h => by rw [h]⟩
theorem dV_str {i j : Str} : decide (V.str i = V.str j) = decide (i = j) := decide_eq_decide.mpr ⟨fun h => by injection h, fun h => by rw [h]⟩
/-- the item of a list at a number that was drawn -/
theorem at_of {xs : List V} {r : Int} (h0 : 0 ≤ r) (h1 : r < xs.length) : ∃ v, atI xs r = some v ∧ xs[r.toNat]? = some v := by
  have hj : r.toNat < xs.length := by omega
  have e : ((r.toNat : Nat) : Int) = r := by omega
  refine ⟨xs[r.toNat], ?_, List.getElem?_eq_getElem hj⟩
  have := atI_nat (xs := xs) (j := r.toNat) (v := xs[r.toNat]) (List.getElem?_eq_getElem hj)
  rw [e] at this
  exact this
end
end Wn
namespace Wn
open PySem L2
/-- a new thing: the heap behind it by a letter -/
theorem new_any {H : Hp} {p : Addr} {o : HO} (np : H p = none) : ∃ H', H' = upd H p o ∧ Same H H' ∧ H' p = some o := ⟨_, rfl, (L2.Same.refl _).new np, upd_same⟩
/-- a thing is written -/
theorem wr_any {H : Hp} {a : Addr} {o u : HO} (h : H a = some u) (hu : Wrt u = true) : ∃ H', H' = upd H a o ∧ Kp [a] H H' ∧ TK H H' ∧ H' a = some o := ⟨_, rfl, (Kp.refl _ _).wr (List.mem_singleton.mpr rfl), (TK.refl _).wr h hu, upd_same⟩
end Wn
namespace Wn
open PySem L2
/-- if a or b: the body once -/
theorem seq_or {c : TT} {t1 t2 u : TS} {D : Ends} {σ : L2.St} {H : Hp} (R : Hp → Prop) (body : ∀ H', R H' → t1 { D with nx := u D } σ H')
    (h1 : (∀ H', R H' → t1 { D with nx := u D } σ H') → c σ H fun b H1 => if b = true then t1 { D with nx := u D } σ H1 else t2 { D with nx := u D } σ H1) : tSeq (tIfS c t1 t2) u D σ H := h1 body
theorem new_tup {K : PySem.W.Frag} {H H' : Hp} {p : Addr} {vs : List V} {ds : List PyData} (np : H p = none) (e : upd H p (.tup vs) = H') (r : RpL K H ds vs) : Same H H' ∧ Rp K H' (.tuple ds) (.ref p) :=
  have s : Same H (upd H p (.tup vs)) := (L2.Same.refl _).new np
  e ▸ ⟨s, Rp.tup upd_same (RpL.tk (TK.of s) _ _ r)⟩
end Wn
namespace Wn
open PySem L2
/-! the same words under names that the macros' searches don't take -/
def SmB (H H' : Hp) : Prop := Same H H'
def TKB (H H' : Hp) : Prop := TK H H'
def KpB (M : List Addr) (H H' : Hp) : Prop := Kp M H H'
end Wn
namespace Wn
open PySem L2
theorem seq_set {te : TE} {g : TG} {u : TS} {D : Ends} {σ : L2.St} {H : Hp} (h : te σ H fun x H1 => g x σ H1 (u D)) : tSeq (tAsg te g) u D σ H := h
end Wn
namespace Wn
theorem iteYes {p : Prop} [Decidable p] {A B : Prop} (h : p) (a : A) : if decide p = true then A else B := by
  rw [if_pos (decide_eq_true h)]
  exact a
theorem iteNo {p : Prop} [Decidable p] {A B : Prop} (h : ¬ p) (b : B) : if decide p = true then A else B := by
  rw [if_neg (by rw [decide_eq_false h]; exact Bool.false_ne_true)]
  exact b
end Wn
namespace Wn
open PySem L2
theorem while_w {c : TT} {tb : TS} {D : Ends} {σ : L2.St} {H : Hp} (W : Nat → L2.St → Hp → Prop) (h0 : ∃ m, W m σ H)
    (hs : ∀ m σ H, W m σ H → c σ H fun b H1 => if b = true then ∃ N : L2.St → Hp → Prop, (∀ σ' H', N σ' H' → ∃ m', m' < m ∧ W m' σ' H') ∧ tb { D with nx := N, ct := N, bk := D.nx } σ H1 else D.nx σ H1) : tWhile c tb D σ H := ⟨W, h0, hs⟩
end Wn

namespace Wn
open PySem L2 PySem.Spec PyProof.Rows
/-! ### repr of data asks that no repr is under way: a promise of the law's own def, called as the claim calls it -/
section
variable {X : Cx} {K : PySem.W.Frag}
def rReprD (K : PySem.W.Frag) : List V → Hp → VK → Prop := fun xs H Q => ∃ (x : V) (d : PyData), xs = [x] ∧ Dp K H x d ∧ d.showable = true ∧ d.hasDict = false ∧ d.depth ≤ 60 ∧ d.shown.length ≤ sizeLine ∧ Q (.str d.shown) H
theorem call_reprD (hg : X.A.guards = some []) (hu : X.A.units + 64 < cLine) : CallR X (.builtin "repr") (rReprD X.K) := by
  intro pins s σ H xs us Q I r h
  obtain ⟨x, d, rfl, hd, hs, hno, hdep, hsz, q⟩ := h
  obtain ⟨u, rfl, rx⟩ := vals1 r
  have fin : ∀ (h' : Heap) (t tk : Tok), (∀ b o, s.heap.get? b = some o → h'.get? b = some o) → EP X pins σ Q (.str d.shown t) { s with heap := h', toks := tk } := fun h' t tk hk => ⟨.str d.shown, H, I.kept hk, ⟨t, rfl⟩, q⟩
  obtain ⟨as, rd⟩ := Dp.reads I d x u hd rx
  have same : ∀ b o, s.heap.get? b = some o → s.heap.get? b = some o := fun _ _ e => e
  cases rd with
  | none => exact PySem.P.repr_of_none (fin s.heap _ _ same)
  | bool b => exact PySem.P.repr_of_bool (fin s.heap _ _ same)
  | int i t =>
    have hi : i.natAbs.log2 < 1920 := by simpa [PyData.showable] using hs
    exact PySem.P.repr_of_int hi (fin s.heap _ _ same)
  | str x t => exact PySem.P.repr_of_str (fin s.heap _ _ same) (hsz := hsz)
  | list h1 h2 h3 h4 => exact repr_of_reads' (.list h1 h2 h3 h4) hs (fun z => by rw [hno] at z; cases z) hg (by omega) same (fun h' t tk hk => fin h' t tk hk) (hsz := hsz)
  | tuple h1 h2 h3 h4 => exact repr_of_reads' (.tuple h1 h2 h3 h4) hs (fun z => by rw [hno] at z; cases z) hg (by omega) same (fun h' t tk hk => fin h' t tk hk) (hsz := hsz)
  | dict h1 h2 h3 h4 h5 => cases hno
theorem reprDK (hK : X.K = K) (hg : X.A.guards = some []) (hu : X.A.units + 64 < cLine) : CallR X (.builtin "repr") (rReprD K) := hK ▸ call_reprD hg hu
end
/-- the promise of the law's def where the claim's caller calls it -/
def LawOk (P : Program) (w : World) (K : PySem.W.Frag) (mg : Str → Option Value) (base : Heap) (f : Addr) (fd : FuncData) (ps : List Str) (sp : Sp) : Prop :=
  ∀ (s : Shared) (H : Hp) (args : Args) (us : List Value) (vs : List V) (Q : VK), Env0 P w K mg base callerA [] s H → BindsTo s fd args (ps.zip us) → Vals vs us → sp vs H Q E0 →
    codeAny (model P w) callerA (.call (.ref f) args) (CR CX0 [] P w H s Q E0) s
section
variable {P : Program} {w : World} {K : PySem.W.Frag} {mg : Str → Option Value} {base : Heap}
theorem law_ok {x qual : Str} {st : Stmt} {f : Addr} {fd : FuncData} {N ps : List Str} {k : Nat} {sp : Sp} (F : Fun K x qual st f fd) (S : FnScope N ps (defScope st)) (len : ∀ vs H Q E, sp vs H Q E → vs.length = ps.length) (hr : Room (k + 1) callerA)
    (hbody : ∀ (cdv : Value) (A : Around) (s : Shared) (H : Hp) (vs : List V) (Q : VK), A = callerA → Room k (A.deeper (envOfC qual (defScope st) s.heap.objs.size f cdv)) → sp vs H Q E0 →
      ∃ t, PSs (cxOf CX0 P w K mg base N qual (defScope st) f cdv A [] s H E0).nox (defBody st) t ∧ t { nx := fun _ H' => Q .non H', rt := Q } (start N vs) H) : LawOk P w K mg base f fd ps sp := by
  obtain ⟨oc, od, kV, doc, pm, an, cdv, ct, osl, rfl, lk, hcd⟩ := F.ex
  intro s H args us vs Q e0 hb r hsp
  have hl := len _ _ _ _ hsp
  obtain ⟨t, ht, hq⟩ := hbody cdv callerA s H vs Q rfl (hr.deeper _) hsp
  have kin : K.In s.heap := e0.mod.kin.keeps fun b o e => (e0.bs b o e).1
  have nolim : s.heap.NoLimit := e0.mod.nolimit.keeps fun b o e => (e0.bs b o e).1
  have knd : ∀ y ∈ ps.zip us, (defScope st).names.lookup y.1 = some .local ∨ ((defScope st).names.lookup y.1 = some .cell ∧ ((cellsFrom (s.heap.objs.size + 1) (defScope st).names []).lookup y.1).isSome = true) := by
    rintro ⟨n, v⟩ hy
    refine (S.par n (List.of_mem_zip hy).1).imp id fun q => ⟨q, PySem.W.cellsFrom_some _ _ _ (.inl q)⟩
  refine codeAny_call_function hr.depth (kin _ _ lk) rfl S.co S.gen rfl (PySem.W.codeRec_of kin hcd) (hb _ _ _ _ (wpAny_newFunctionEnv_cells S.kind knd fun env he s1 x => ?_))
  subst he
  refine ⟨nolim.keeps x.toInCall.keep, codeAny_func ?_⟩
  have I := inv_start (CX := CX0) (E := E0) S hr.hd e0 hl r x
  refine wpAny_mono (ht.nox.run [] s1 (start N vs) H _ I hq) (fun fl s' hs => ?_) fun e s' hs => hs
  cases fl with
  | ret u =>
    obtain ⟨v, σ', H', J, rv, q⟩ := hs
    exact ⟨v, H', J.os, J.bare, J.base, J.hok, rv, q⟩
  | next =>
    obtain ⟨σ', H', J, q⟩ := hs
    exact ⟨.non, H', J.os, J.bare, J.base, J.hok, rfl, q⟩
  | brk => exact False.elim hs.choose_spec.choose_spec.2
  | cont => exact False.elim hs.choose_spec.choose_spec.2
/-- the law's call, by such a promise: only the script is tracked, as it is -/
theorem law_callG {mb : Str → Option Value} {fa a : Addr} {fd : FuncData} {x : Str} {sp : Sp} {s₁ : Shared} {vs : List Value} {ns : List Int}
    (KX : K.In s₁.heap) (hns : s₁.heap.Ns mainGlobals mg) (hb : s₁.heap.Ns builtinsNs mb) (hbb : ∀ x : Str, x ≠ "__name__" → mb x = bootBuiltins x) (hlim : s₁.heap.NoLimit) (hg : s₁.gens = #[])
    (ha : s₁.heap.get? a = some { cls := .type "list", data := .seq vs.toArray }) (hi : IntsAre vs ns) (hl : ns.length ≤ sizeLine)
    (F : ∀ base : Heap, K.In base → base.Ns mainGlobals mg → LawOk P w K mg base fa fd [x] sp) (hbind : ∀ (s : Shared) (u : Value), BindsTo s fd ⟨[u], []⟩ [(x, u)])
    (hsp : ∀ H : Hp, SqL K H a (ns.map V.int) → sp [.ref a] H (fun v _ => v = .bl true) E0) :
    codeAny (model P w) callerA (.call (.ref fa) ⟨[.ref a], []⟩) (fun r s' => r = .ok (.ret (.bool true)) ∧ OldK s₁.heap s'.heap ∧ s'.os = s₁.os ∧ AllBare s'.gens) s₁ := by
  have rv : Vals (ns.map V.int) vs := vals_ints hi
  have hlen := hi.length
  obtain ⟨H, hS, hok, hT⟩ : ∃ H : Hp, SqL K H a (ns.map V.int) ∧ HOk P w H s₁.heap ∧ ∀ b u, H b = some u → b = a ∧ K.lookup a = none ∧ u = .frz { cls := .type "list", data := .seq vs.toArray } (.lst (ns.map V.int)) := by
    cases hk : K.lookup a with
    | some o =>
      have e := KX a o hk
      rw [ha] at e
      cases e
      exact ⟨fun _ => none, .inr ⟨_, vs.toArray, _, hk, rfl, rfl, rfl, by rw [List.size_toArray, hlen]; exact hl, by simpa using rv⟩, (fun b u z => by have z' : (none : Option HO) = some u := z; cases z'), (fun b u z => by have z' : (none : Option HO) = some u := z; cases z')⟩
    | none =>
      refine ⟨upd (fun _ => none) a (.frz { cls := .type "list", data := .seq vs.toArray } (.lst (ns.map V.int))), .inl (.inr ⟨_, upd_same⟩), fun b u z => ?_, fun b u z => ?_⟩
      · by_cases e : b = a
        · subst e
          rw [upd_same] at z
          cases z
          exact ⟨ha, by rw [List.length_map]; exact hl, vs, _, rv, ha⟩
        · rw [upd_ne e] at z
          cases z
      · by_cases e : b = a
        · subst e
          rw [upd_same] at z
          exact ⟨rfl, rfl, (Option.some.inj z).symm⟩
        · rw [upd_ne e] at z
          cases z
  have free : ∀ {b : Addr} {o : Obj} {es : Array DictEntry} {ep : Nat}, s₁.heap.get? b = some o → o.data = .dict es ep → H b = none := fun {b o es ep} e d => by
    cases q : H b with
    | none => rfl
    | some u =>
      obtain ⟨rfl, _, _⟩ := hT b u q
      rw [ha] at e
      cases e
      exact nomatch (show Data.seq vs.toArray _ = Data.dict es ep from d)
  have ns' : ∀ {b : Addr} {m : Str → Option Value}, s₁.heap.Ns b m → (hidT s₁.heap H).Ns b m := fun {b m} ⟨o, es, ep, e, d, r⟩ => ⟨o, es, ep, hidT_get e (free e d), d, r⟩
  have kin : K.In (hidT s₁.heap H) := fun b o e => hidT_get (KX b o e) (by
    cases q : H b with
    | none => rfl
    | some u =>
      obtain ⟨rfl, z, _⟩ := hT b u q
      rw [z] at e
      cases e)
  obtain ⟨mc, c1, c2⟩ := hlim
  have e0 : Env0 P w K mg (hidT s₁.heap H) callerA [] s₁ H := ⟨rfl, ⟨kin, ns' hns, ⟨mb, ns' hb, hbb⟩, ⟨mc, ns' c1, c2⟩⟩, fun b o e => of_hidT e, Nat.le_of_eq (hidT_size _ _), trivial, fun b hb => absurd hb (List.not_mem_nil), hok, .of_eq hg⟩
  refine codeAny_mono (F _ kin (ns' hns) s₁ H ⟨[.ref a], []⟩ [.ref a] [.ref a] _ e0 (hbind s₁ (.ref a)) (.cons rfl .nil) (hsp H hS)) fun r s' h => ?_
  rcases r with e | fl
  · exact h.elim
  · cases fl with
    | next => exact h.elim
    | brk => exact h.elim
    | cont => exact h.elim
    | ret u =>
      obtain ⟨v, H', os, bare, un, hok', r', rfl⟩ := h
      obtain rfl : u = Value.bool true := r'
      refine ⟨rfl, OldK.of_keep fun b o e => ?_, os, bare⟩
      cases q : H b with
      | none => exact un.keep b o e q (fun z => absurd z (List.not_mem_nil)) (List.not_mem_nil)
      | some u =>
        obtain ⟨rfl, _, rfl⟩ := hT b u q
        have z := (hok' _ _ (un.frzs _ _ _ q)).1
        rw [ha] at e
        cases e
        exact z
end
theorem walkG {l : PySem.W.OpenLaw} {n : Nat} {q : Program} {loose : List Str} {XP : (Str → Option Value) → Heap → Prop} {YP : World → Heap → Prop} {d : DefRec} {K : Params → PySem.W.Frag} {sp : World → Sp} {x : Str}
    (hn : l.most = some n) (hn2 : n ≤ sizeLine) (hdf : d.params.defaults = []) (hY : ∀ (w : World) (h : Heap), YP w h → (K w.params).In h)
    (F : ∀ (w : World) (mg : Str → Option Value) (fa : Addr) (h : Heap), (K w.params).In h → h.Ns mainGlobals mg → mg d.name = some (.ref fa) →
      ∃ fd : FuncData, (∀ (s : Shared) (u : Value), BindsTo s fd ⟨[u], []⟩ [(x, u)]) ∧ ∀ base : Heap, (K w.params).In base → base.Ns mainGlobals mg → LawOk l.prog w (K w.params) mg base fa fd [x] (sp w))
    (hsp : ∀ (w : World) (H : Hp) (a : Addr) (ns : List Int), ns.length ≤ n → SqL (K w.params) H a (ns.map V.int) → sp w [.ref a] H (fun v _ => v = .bl true) E0) :
    PySem.W.WalkO q loose XP YP l.row.toRowW d [] (fun f vs => PySem.call f vs) := by
  refine Att.attach_call hn hdf fun w s₀ s₁ mg mb fa o pm cd doc a vs ns G Y ho hd hcd hmg hobj hints hlen hg => ?_
  obtain ⟨fd, hb, hF⟩ := F w mg fa _ (hY w _ Y) G.T.g hmg
  exact law_callG (hY w _ Y) G.T.g G.T.b G.T.builtins G.T.nolimit hg hobj hints (Nat.le_trans hlen hn2) hF hb fun H hS => hsp w H a ns hlen hS
end Wn

namespace Wn
open PySem L2 PySem.Spec PyProof.Rows
/-! ### things of any kind: data with lists, and the empty dict -/
theorem SqL.sm' {K : PySem.W.Frag} {H H' : Hp} {a : Addr} {xs : List V} (h : SqL K H a xs) (e : Same H H') : SqL K H' a xs := by
  rcases h with (h | ⟨o, h⟩) | h
  · exact .inl (.inl (e _ _ h))
  · exact .inl (.inr ⟨o, e _ _ h⟩)
  · exact .inr h
mutual
theorem Dp.sm {K : PySem.W.Frag} {H H' : Hp} (e : Same H H') : ∀ {v : V} {d : PyData}, Dp K H v d → Dp K H' v d
  | _, _, .non => .non
  | _, _, .bl b => .bl b
  | _, _, .int i => .int i
  | _, _, .str x => .str x
  | _, _, .lst h1 h2 => .lst (SqL.sm' h1 e) (DpAll.sm e h2)
  | _, _, .tup h1 h2 => .tup (SqT.tk h1 (TK.of e)) (DpAll.sm e h2)
theorem DpAll.sm {K : PySem.W.Frag} {H H' : Hp} (e : Same H H') : ∀ {vs : List V} {ds : List PyData}, DpAll K H vs ds → DpAll K H' vs ds
  | _, _, .nil => .nil
  | _, _, .cons h1 h2 => .cons (Dp.sm e h1) (DpAll.sm e h2)
end
theorem DpAll.len {K : PySem.W.Frag} {H : Hp} : ∀ {vs : List V} {ds : List PyData}, DpAll K H vs ds → vs.length = ds.length
  | _, _, .nil => rfl
  | _, _, .cons _ h => by rw [List.length_cons, List.length_cons, DpAll.len h]
theorem DpAll.get {K : PySem.W.Frag} {H : Hp} : ∀ {vs : List V} {ds : List PyData}, DpAll K H vs ds → ∀ {i : Nat} {v : V}, vs[i]? = some v → ∃ d, ds[i]? = some d ∧ Dp K H v d
  | _, _, .cons h1 h2, 0, v, e => by
    have : _ = v := Option.some.inj e
    subst this
    exact ⟨_, rfl, h1⟩
  | _, _, .cons h1 h2, i + 1, v, e => DpAll.get h2 (i := i) (by simpa using e)
/-- the name of a thing's type -/
def tyN : PyData → String
  | .none => "NoneType"
  | .bool _ => "bool"
  | .int _ => "int"
  | .str _ => "str"
  | .list _ => "list"
  | .tuple _ => "tuple"
  | .dict _ => "dict"
theorem Dp.ty {K : PySem.W.Frag} {H : Hp} {v : V} {d : PyData} (h : Dp K H v d) : TyX K H v (.type (tyN d)) := by
  cases h with
  | non => exact .base .non
  | bl b => exact .base (.bl b)
  | int i => exact .base (.int i)
  | str x => exact .base (.str x)
  | lst h1 h2 =>
    rcases h1 with (h | ⟨o, h⟩) | ⟨o, its, n, h, c, _⟩
    · exact .base (.lst h)
    · exact .base (.frz h)
    · exact .kList h c
  | tup h1 h2 => exact ty_tup h1
def AnyAt (K : PySem.W.Frag) (H : Hp) (v : V) (d : PyData) : Prop := Dp K H v d ∨ (d = .dict [] ∧ ∃ a, v = .ref a ∧ H a = some (.dK []))
theorem AnyAt.sm {K : PySem.W.Frag} {H H' : Hp} {v : V} {d : PyData} (h : AnyAt K H v d) (e : Same H H') : AnyAt K H' v d := by
  rcases h with h | ⟨rfl, a, rfl, h⟩
  · exact .inl (Dp.sm e h)
  · exact .inr ⟨rfl, a, rfl, e _ _ h⟩
theorem AnyAt.ty {K : PySem.W.Frag} {H : Hp} {v : V} {d : PyData} (h : AnyAt K H v d) : TyX K H v (.type (tyN d)) := by
  rcases h with h | ⟨rfl, a, rfl, h⟩
  · exact Wn.Dp.ty h
  · exact .base (.dK h)
abbrev tyNames : List String := ["NoneType", "bool", "int", "str", "list", "tuple", "dict"]
theorem tyN_mem (d : PyData) : tyN d ∈ tyNames := by
  cases d <;> simp [tyN, tyNames]
theorem kitB_tuple : ∀ t ∈ tyNames, kitB t "tuple" = some (decide (t = "tuple")) := by decide +kernel
theorem kitB_str : ∀ t ∈ tyNames, kitB t "str" = some (decide (t = "str")) := by decide +kernel
theorem kitB_list : ∀ t ∈ tyNames, kitB t "list" = some (decide (t = "list")) := by decide +kernel
theorem kitB_int : ∀ t ∈ tyNames, kitB t "int" = some (decide (t = "int" ∨ t = "bool")) := by decide +kernel
theorem kitB_bool : ∀ t ∈ tyNames, kitB t "bool" = some (decide (t = "bool")) := by decide +kernel
theorem kit_tuple {K : PySem.W.Frag} (d : PyData) : PySem.W.kitOne K (.type (tyN d)) (.type "tuple") = some (decide (tyN d = "tuple")) := kit_ty (kitB_tuple _ (tyN_mem d))
theorem kit_str {K : PySem.W.Frag} (d : PyData) : PySem.W.kitOne K (.type (tyN d)) (.type "str") = some (decide (tyN d = "str")) := kit_ty (kitB_str _ (tyN_mem d))
theorem kit_list {K : PySem.W.Frag} (d : PyData) : PySem.W.kitOne K (.type (tyN d)) (.type "list") = some (decide (tyN d = "list")) := kit_ty (kitB_list _ (tyN_mem d))
theorem kit_int {K : PySem.W.Frag} (d : PyData) : PySem.W.kitOne K (.type (tyN d)) (.type "int") = some (decide (tyN d = "int" ∨ tyN d = "bool")) := kit_ty (kitB_int _ (tyN_mem d))
theorem kit_bool {K : PySem.W.Frag} (d : PyData) : PySem.W.kitOne K (.type (tyN d)) (.type "bool") = some (decide (tyN d = "bool")) := kit_ty (kitB_bool _ (tyN_mem d))
section
variable {X : Cx} {K : PySem.W.Frag}
def rReprA (K : PySem.W.Frag) : List V → Hp → VK → Prop := fun xs H Q => ∃ (x : V) (d : PyData), xs = [x] ∧ AnyAt K H x d ∧ d.showable = true ∧ (d = .dict [] ∨ d.hasDict = false) ∧ d.depth ≤ 60 ∧ d.shown.length ≤ sizeLine ∧ Q (.str d.shown) H
theorem call_reprA (hg : X.A.guards = some []) (hu : X.A.units + 64 < cLine) : CallR X (.builtin "repr") (rReprA X.K) := by
  intro pins s σ H xs us Q I r h
  obtain ⟨x, d, rfl, hd, hs, hno, hdep, hsz, q⟩ := h
  rcases hd with hd | ⟨rfl, a, rfl, hd⟩
  · have hno : d.hasDict = false := by
      rcases hno with rfl | h
      · cases hd
      · exact h
    exact call_reprD hg hu pins s σ H _ us Q I r ⟨x, d, rfl, hd, hs, hno, hdep, hsz, q⟩
  · obtain ⟨u, rfl, rx⟩ := vals1 r
    cases rx
    obtain ⟨z, lo, vs, rel, o, es, ep, h1, h2, h3, _, h4, _⟩ := (show ObjOk X.prog X.w H s.heap a (.dK []) from I.hok a _ hd)
    cases rel
    have e0 : es.toList = [] := by
      generalize es.toList = l at h4
      cases h4
      rfl
    refine repr_of_reads' (.dict (kvs := []) (as := []) (bs := []) h1 h2.1 h3 (by rw [e0]; exact .nil) (by rw [e0]; exact .nil)) hs (fun _ => ?_) hg (by show X.A.units + 2 < cLine; omega) (fun _ _ e => e) (fun h' t tk hk => ⟨.str _, H, I.kept hk, ⟨t, rfl⟩, q⟩) (hsz := hsz)
    simp only [List.append_nil, List.mem_singleton]
    exact fun z => (beq_eq_false_iff_ne.mp lo) z.symm
theorem reprAK (hK : X.K = K) (hg : X.A.guards = some []) (hu : X.A.units + 64 < cLine) : CallR X (.builtin "repr") (rReprA K) := hK ▸ call_reprA hg hu
end
end Wn

namespace Wn
open PySem L2
/-! ### things of any kind and depth that the law made itself: lists, tuples, dicts of texts -/
mutual
inductive Dk (K : PySem.W.Frag) (H : Hp) : V → PyData → Prop
  | non : Dk K H .non .none
  | bl (b : Bool) : Dk K H (.bl b) (.bool b)
  | int (i : Int) : Dk K H (.int i) (.int i)
  | str (x : Str) : Dk K H (.str x) (.str x)
  | lst {a : Addr} {xs : List V} {ds : List PyData} : SqL K H a xs → DkAll K H xs ds → Dk K H (.ref a) (.list ds)
  | tup {a : Addr} {xs : List V} {ds : List PyData} : SqT K H a xs → DkAll K H xs ds → Dk K H (.ref a) (.tuple ds)
  | dct {a : Addr} {kvs : List (Key × V)} {ds : List (PyData × PyData)} : H a = some (.dK kvs) → DkKV K H kvs ds → Dk K H (.ref a) (.dict ds)
inductive DkAll (K : PySem.W.Frag) (H : Hp) : List V → List PyData → Prop
  | nil : DkAll K H [] []
  | cons {v : V} {vs : List V} {d : PyData} {ds : List PyData} : Dk K H v d → DkAll K H vs ds → DkAll K H (v :: vs) (d :: ds)
inductive DkKV (K : PySem.W.Frag) (H : Hp) : List (Key × V) → List (PyData × PyData) → Prop
  | nil : DkKV K H [] []
  | cons {k : Str} {v : V} {kvs : List (Key × V)} {d : PyData} {ds : List (PyData × PyData)} : Dk K H v d → DkKV K H kvs ds → DkKV K H ((.inr k, v) :: kvs) ((.str k, d) :: ds)
end
mutual
theorem Dk.sm {K : PySem.W.Frag} {H H' : Hp} (e : Same H H') : ∀ {v : V} {d : PyData}, Dk K H v d → Dk K H' v d
  | _, _, .non => .non
  | _, _, .bl b => .bl b
  | _, _, .int i => .int i
  | _, _, .str x => .str x
  | _, _, .lst h1 h2 => .lst (SqL.sm' h1 e) (DkAll.sm e h2)
  | _, _, .tup h1 h2 => .tup (SqT.tk h1 (TK.of e)) (DkAll.sm e h2)
  | _, _, .dct h1 h2 => .dct (e _ _ h1) (DkKV.sm e h2)
theorem DkAll.sm {K : PySem.W.Frag} {H H' : Hp} (e : Same H H') : ∀ {vs : List V} {ds : List PyData}, DkAll K H vs ds → DkAll K H' vs ds
  | _, _, .nil => .nil
  | _, _, .cons h1 h2 => .cons (Dk.sm e h1) (DkAll.sm e h2)
theorem DkKV.sm {K : PySem.W.Frag} {H H' : Hp} (e : Same H H') : ∀ {vs : List (Key × V)} {ds : List (PyData × PyData)}, DkKV K H vs ds → DkKV K H' vs ds
  | _, _, .nil => .nil
  | _, _, .cons h1 h2 => .cons (Dk.sm e h1) (DkKV.sm e h2)
end
theorem DkAll.len {K : PySem.W.Frag} {H : Hp} : ∀ {vs : List V} {ds : List PyData}, DkAll K H vs ds → vs.length = ds.length
  | _, _, .nil => rfl
  | _, _, .cons _ h => by rw [List.length_cons, List.length_cons, DkAll.len h]
theorem DkAll.get {K : PySem.W.Frag} {H : Hp} : ∀ {vs : List V} {ds : List PyData}, DkAll K H vs ds → ∀ {i : Nat} {d : PyData}, ds[i]? = some d → ∃ v, vs[i]? = some v ∧ Dk K H v d
  | _, _, .cons h1 h2, 0, d, e => by
    have : _ = d := Option.some.inj e
    subst this
    exact ⟨_, rfl, h1⟩
  | _, _, .cons h1 h2, i + 1, d, e => DkAll.get h2 (i := i) (by simpa using e)
theorem DkAll.getV {K : PySem.W.Frag} {H : Hp} : ∀ {vs : List V} {ds : List PyData}, DkAll K H vs ds → ∀ {i : Nat} {v : V}, vs[i]? = some v → ∃ d, ds[i]? = some d ∧ Dk K H v d
  | _, _, .cons h1 h2, 0, d, e => by
    have : _ = d := Option.some.inj e
    subst this
    exact ⟨_, rfl, h1⟩
  | _, _, .cons h1 h2, i + 1, d, e => DkAll.getV h2 (i := i) (by simpa using e)
theorem DkAll.app {K : PySem.W.Frag} {H : Hp} : ∀ {xs : List V} {ds : List PyData}, DkAll K H xs ds → ∀ {ys : List V} {es : List PyData}, DkAll K H ys es → DkAll K H (xs ++ ys) (ds ++ es)
  | _, _, .nil, _, _, h => h
  | _, _, .cons h1 h2, _, _, h => .cons h1 (DkAll.app h2 h)
theorem DkAll.take {K : PySem.W.Frag} {H : Hp} : ∀ (k : Nat) {xs : List V} {ds : List PyData}, DkAll K H xs ds → DkAll K H (xs.take k) (ds.take k)
  | 0, _, _, _ => by rw [List.take_zero, List.take_zero]; exact .nil
  | k + 1, _, _, .nil => .nil
  | k + 1, _, _, .cons h1 h2 => .cons h1 (DkAll.take k h2)
theorem DkAll.drop {K : PySem.W.Frag} {H : Hp} : ∀ (k : Nat) {xs : List V} {ds : List PyData}, DkAll K H xs ds → DkAll K H (xs.drop k) (ds.drop k)
  | 0, _, _, h => h
  | k + 1, _, _, .nil => .nil
  | k + 1, _, _, .cons h1 h2 => DkAll.drop k h2
theorem Dk.ty {K : PySem.W.Frag} {H : Hp} {v : V} {d : PyData} (h : Dk K H v d) : TyX K H v (.type (tyN d)) := by
  cases h with
  | non => exact .base .non
  | bl b => exact .base (.bl b)
  | int i => exact .base (.int i)
  | str x => exact .base (.str x)
  | lst h1 h2 =>
    rcases h1 with (h | ⟨o, h⟩) | ⟨o, its, n, h, c, _⟩
    · exact .base (.lst h)
    · exact .base (.frz h)
    · exact .kList h c
  | tup h1 h2 => exact ty_tup h1
  | dct h1 h2 => exact .base (.dK h1)
theorem Dk.inv_tup {K : PySem.W.Frag} {H : Hp} {v : V} {ds : List PyData} (h : Dk K H v (.tuple ds)) : ∃ a xs, v = .ref a ∧ SqT K H a xs ∧ DkAll K H xs ds := by
  cases h with
  | tup h1 h2 => exact ⟨_, _, rfl, h1, h2⟩
theorem Dk.inv_lst {K : PySem.W.Frag} {H : Hp} {v : V} {ds : List PyData} (h : Dk K H v (.list ds)) : ∃ a xs, v = .ref a ∧ SqL K H a xs ∧ DkAll K H xs ds := by
  cases h with
  | lst h1 h2 => exact ⟨_, _, rfl, h1, h2⟩
theorem Dk.inv_str {K : PySem.W.Frag} {H : Hp} {v : V} {x : Str} (h : Dk K H v (.str x)) : v = .str x := by cases h; rfl
theorem Dk.inv_int {K : PySem.W.Frag} {H : Hp} {v : V} {x : Int} (h : Dk K H v (.int x)) : v = .int x := by cases h; rfl
theorem Dk.inv_none {K : PySem.W.Frag} {H : Hp} {v : V} (h : Dk K H v .none) : v = .non := by cases h; rfl
theorem Dk.inv_bool {K : PySem.W.Frag} {H : Hp} {v : V} {b : Bool} (h : Dk K H v (.bool b)) : v = .bl b := by cases h; rfl
theorem DkAll.inv_cons {K : PySem.W.Frag} {H : Hp} {vs : List V} {d : PyData} {ds : List PyData} (h : DkAll K H vs (d :: ds)) : ∃ v r, vs = v :: r ∧ Dk K H v d ∧ DkAll K H r ds := by
  cases h with
  | cons h1 h2 => exact ⟨_, _, rfl, h1, h2⟩
theorem DkAll.inv_nil {K : PySem.W.Frag} {H : Hp} {vs : List V} (h : DkAll K H vs []) : vs = [] := by cases h; rfl
end Wn

namespace Wn
open PySem L2
/-! ### a thing of a known type; whether it is a whole number -/
def isI : V → Option Int
  | .int i => some i
  | _ => none
/-- data, or a dict -/
def Th (K : PySem.W.Frag) (H : Hp) (v : V) : Prop := (∃ d, Dp K H v d) ∨ ∃ a kvs, v = .ref a ∧ H a = some (.dK kvs)
theorem Th.ty {K : PySem.W.Frag} {H : Hp} {v : V} (h : Th K H v) : ∃ t ∈ tyNames, TyX K H v (.type t) ∧ (t = "int" ↔ (isI v).isSome = true) := by
  rcases h with ⟨d, h⟩ | ⟨a, kvs, rfl, h⟩
  · refine ⟨tyN d, tyN_mem d, Wn.Dp.ty h, ?_⟩
    cases h <;> simp [tyN, isI]
  · exact ⟨"dict", by decide, .base (.dK h), by simp [isI]⟩
theorem Th.sm {K : PySem.W.Frag} {H H' : Hp} {v : V} (h : Th K H v) (s : Same H H') : Th K H' v := by
  rcases h with ⟨d, h⟩ | ⟨a, kvs, rfl, h⟩
  · exact .inl ⟨d, Wn.Dp.sm s h⟩
  · exact .inr ⟨a, kvs, rfl, s _ _ h⟩
theorem Th.dp {K : PySem.W.Frag} {H : Hp} {v : V} {d : PyData} (h : Dp K H v d) : Th K H v := .inl ⟨d, h⟩
theorem Th.any {K : PySem.W.Frag} {H : Hp} {v : V} {d : PyData} (h : AnyAt K H v d) : Th K H v := by
  rcases h with h | ⟨rfl, a, rfl, h⟩
  · exact .inl ⟨d, h⟩
  · exact .inr ⟨a, [], rfl, h⟩
theorem Th.rp {K : PySem.W.Frag} {H : Hp} {v : V} {d : PyData} (h : Rp K H d v) : Th K H v := Th.dp (Rp.dp d v h)
theorem Th.int {K : PySem.W.Frag} {H : Hp} {i : Int} : Th K H (.int i) := .inl ⟨_, .int i⟩
theorem kit_intT {K : PySem.W.Frag} {t : String} (h : t ∈ tyNames) : PySem.W.kitOne K (.type t) (.type "int") = some (decide (t = "int" ∨ t = "bool")) := kit_ty (kitB_int _ h)
theorem kit_boolT {K : PySem.W.Frag} {t : String} (h : t ∈ tyNames) : PySem.W.kitOne K (.type t) (.type "bool") = some (decide (t = "bool")) := kit_ty (kitB_bool _ h)
def fromV (v : V) (lo hi : Int) : Bool := match isI v with
  | some i => decide (lo ≤ i) && decide (i ≤ hi)
  | none => false
theorem isI_some {v : V} (h : (isI v).isSome = true) : ∃ i, v = .int i := by
  cases v <;> simp [isI] at h
  exact ⟨_, rfl⟩
def spWholeT (K : PySem.W.Frag) : Sp := fun vs H Q _ => ∃ v, vs = [v] ∧ Th K H v ∧ Q (.bl (isI v).isSome) H
def spFromT (K : PySem.W.Frag) : Sp := fun vs H Q _ => ∃ (v : V) (lo hi : Int), vs = [v, .int lo, .int hi] ∧ Th K H v ∧ Q (.bl (fromV v lo hi)) H
end Wn

namespace Wn
open PySem L2 PySem.Spec PyProof.Rows
section
variable {X : Cx} {K : PySem.W.Frag}
theorem slA (hK : X.K = K) : SlR X (rSlA K) := hK ▸ sl_tupA
theorem opCatA (hK : X.K = K) : OpR X (binaryOp .Add) (rCatA K) := hK ▸ op_catA
/-- x in a tuple of data -/
def rInDT (K : PySem.W.Frag) : R2 := fun x y H Q => ∃ d ds, Dp K H x d ∧ Dp K H y (.tuple ds) ∧ SeqAt.shaped d = true ∧ SeqAt.shaped (.tuple ds) = true ∧ Q (.bl (ds.any fun z => PyData.eqv z d)) H
def rNotInDT (K : PySem.W.Frag) : R2 := fun x y H Q => ∃ d ds, Dp K H x d ∧ Dp K H y (.tuple ds) ∧ SeqAt.shaped d = true ∧ SeqAt.shaped (.tuple ds) = true ∧ Q (.bl (!ds.any fun z => PyData.eqv z d)) H
theorem room_inT {A : Around} {d : PyData} {xs : List PyData} (h : SeqAt.shaped d = true) (hu : A.units + 65 < cLine) : A.units + 1 + min (PyData.depthAll xs) d.depth < cLine := by
  have h1 := SeqAt.depth_of_shaped h
  have h2 : min (PyData.depthAll xs) d.depth ≤ d.depth := Nat.min_le_right _ _
  omega
theorem op_inDT (hu : X.A.units + 65 < cLine) : OpR X (compareOp .In) (rInDT X.K) := by
  intro pins s σ H x y v u Q I rx ry h
  obtain ⟨d, ds, hd, he, sd, se, q⟩ := h
  obtain ⟨as, r1⟩ := Dp.reads I d x v hd rx
  obtain ⟨bs, r2⟩ := Dp.reads I (.tuple ds) y u he ry
  exact SeqAt.in_tuple_reads r2 r1 (SeqAt.canLay_of_shaped se) (SeqAt.canLay_of_shaped sd) (room_inT sd hu) ⟨.bl _, H, I, rfl, q⟩
theorem op_notInDT (hu : X.A.units + 65 < cLine) : OpR X (compareOp .NotIn) (rNotInDT X.K) := by
  intro pins s σ H x y v u Q I rx ry h
  obtain ⟨d, ds, hd, he, sd, se, q⟩ := h
  obtain ⟨as, r1⟩ := Dp.reads I d x v hd rx
  obtain ⟨bs, r2⟩ := Dp.reads I (.tuple ds) y u he ry
  exact SeqAt.notIn_tuple_reads r2 r1 (SeqAt.canLay_of_shaped se) (SeqAt.canLay_of_shaped sd) (room_inT sd hu) ⟨.bl _, H, I, rfl, q⟩
theorem inDTK (hK : X.K = K) (hu : X.A.units + 65 < cLine) : OpR X (compareOp .In) (rInDT K) := hK ▸ op_inDT hu
theorem notInDTK (hK : X.K = K) (hu : X.A.units + 65 < cLine) : OpR X (compareOp .NotIn) (rNotInDT K) := hK ▸ op_notInDT hu
theorem room65 {k : Nat} {A : Around} (r : Room k A) : A.units + 65 < cLine := by have := r.un; omega
end
end Wn

namespace Wn
open PySem L2
def top (i : Nat) : Stmt := PySem.Challenge.pw_wrapnets_k47_ways_judged.main.body.getD i (.Pass ⟨0, 0, 0, 0⟩)
abbrev sDeck : Stmt := top 16
abbrev sDraw : Stmt := top 17
abbrev sOne : Stmt := top 18
/-- a deck at d: its cells at cs, what is left of them at rs; n draws were taken at most -/
def Deck2 (H : Hp) (d cs rs : Addr) (n : Int) : Prop :=
  ∃ (a b : Int) (xs ys : List Int), H d = some (.lst [.ref cs, .int a, .ref rs, .int b]) ∧ H cs = some (.lst (xs.map V.int)) ∧ H rs = some (.lst (ys.map V.int)) ∧ 0 ≤ a ∧ a ≤ n ∧ 0 < xs.length ∧ xs.length ≤ 100 ∧ ys.length = xs.length ∧ -2 ^ 60 < b ∧ b < 2 ^ 60 ∧ cs ≠ d ∧ rs ≠ d ∧ cs ≠ rs
def spDraw : Sp := fun vs H Q _ => ∃ (d cs rs : Addr) (m n : Int), vs = [.ref d, .int m] ∧ 0 < m ∧ m < 1000000000 ∧ n < 2 ^ 60 ∧ Deck2 H d cs rs n ∧
  ∀ (r : Int) (H' : Hp), 0 ≤ r → r < m → Kp [d, rs] H H' → Deck2 H' d cs rs (n + 1) → Q (.int r) H'
def spDeck2 (K : PySem.W.Frag) : Sp := fun vs H Q _ => ∃ (a : Addr) (ns : List Int), vs = [.ref a] ∧ SqL K H a (ns.map V.int) ∧ ns.length ≤ 63 ∧
  ∀ (H' : Hp) (d cs rs : Addr), H d = none → H cs = none → H rs = none → Same H H' → Deck2 H' d cs rs 0 → Q (.ref d) H'
section
variable {H H' : Hp} {d cs rs : Addr} {n : Int}
theorem Deck2.kp {M : List Addr} (h : Deck2 H d cs rs n) (k : Kp M H H') (n1 : d ∉ M) (n2 : cs ∉ M) (n3 : rs ∉ M) : Deck2 H' d cs rs n := by
  obtain ⟨a, b, xs, ys, h1, h2, h3, r⟩ := h
  exact ⟨a, b, xs, ys, k _ _ n1 h1, k _ _ n2 h2, k _ _ n3 h3, r⟩
theorem Deck2.mono {m : Int} (h : Deck2 H d cs rs n) (hm : n ≤ m) : Deck2 H d cs rs m := by
  obtain ⟨a, b, xs, ys, h1, h2, h3, h4, h5, r⟩ := h
  exact ⟨a, b, xs, ys, h1, h2, h3, h4, by omega, r⟩
theorem Deck2.same (h : Deck2 H d cs rs n) (s : Same H H') : Deck2 H' d cs rs n := h.kp (M := []) (Kp.of s) (by simp) (by simp) (by simp)
theorem Deck2.l1 (h : Deck2 H d cs rs n) : ∃ zs, H d = some (.lst zs) := by
  obtain ⟨a, b, xs, ys, h1, h2, h3, r⟩ := h
  exact ⟨_, h1⟩
theorem Deck2.l2 (h : Deck2 H d cs rs n) : ∃ zs, H cs = some (.lst zs) := by
  obtain ⟨a, b, xs, ys, h1, h2, h3, r⟩ := h
  exact ⟨_, h2⟩
theorem Deck2.l3 (h : Deck2 H d cs rs n) : ∃ zs, H rs = some (.lst zs) := by
  obtain ⟨a, b, xs, ys, h1, h2, h3, r⟩ := h
  exact ⟨_, h3⟩
/-- a new thing is none of the deck's -/
theorem Deck2.new {p : Addr} (h : Deck2 H d cs rs n) (hp : H p = none) : p ≠ d ∧ p ≠ cs ∧ p ≠ rs :=
  ⟨(ne_of_none h.l1.choose_spec hp).symm, (ne_of_none h.l2.choose_spec hp).symm, (ne_of_none h.l3.choose_spec hp).symm⟩
end
theorem atInt {xs : List Int} {r : Int} (h0 : 0 ≤ r) (h1 : r < xs.length) : ∃ x, xs[r.toNat]? = some x ∧ atI (xs.map V.int) r = some (.int x) := by
  have hl : r.toNat < xs.length := by omega
  refine ⟨xs[r.toNat], List.getElem?_eq_getElem hl, ?_⟩
  have e : ((r.toNat : Nat) : Int) = r := by omega
  have := atI_nat (xs := xs.map V.int) (j := r.toNat) (v := .int xs[r.toNat]) (by rw [List.getElem?_map, List.getElem?_eq_getElem hl]; rfl)
  rw [e] at this
  exact this
theorem SqL.sm {K : PySem.W.Frag} {H H' : Hp} {a : Addr} {xs : List V} (h : SqL K H a xs) (e : Same H H') : SqL K H' a xs := by
  rcases h with (h | ⟨o, h⟩) | h
  · exact .inl (.inl (e _ _ h))
  · exact .inl (.inr ⟨o, e _ _ h⟩)
  · exact .inr h
theorem SqL.kp {K : PySem.W.Frag} {M : List Addr} {H H' : Hp} {a : Addr} {xs : List V} (h : SqL K H a xs) (e : Kp M H H') (n : a ∉ M) : SqL K H' a xs := by
  rcases h with (h | ⟨o, h⟩) | h
  · exact .inl (.inl (e _ _ n h))
  · exact .inl (.inr ⟨o, e _ _ n h⟩)
  · exact .inr h
structure DB (mg : Str → Option Value) : Prop where
  len : mg "len" = none
  list : mg "list" = none
  int : mg "int" = none


section
variable {P : Program} {w : World} {K : PySem.W.Frag} {mg : Str → Option Value} {base : Heap}
theorem scDraw : FnScope ["_law_deck_here", "_law_many", "_law_cells", "_law_turn", "_law_rests", "_law_blend", "_law_spot", "_law_digit"] ["_law_deck_here", "_law_many"] (defScope sDraw) := ⟨rfl, rfl, rfl, by decide +kernel, rfl, by decide +kernel, by decide +kernel⟩
theorem ok_draw {f : Addr} {fd : FuncData} (F : Fun K "_law_draw" "_law_draw" sDraw f fd) (B : DB mg) : FnOk P w K mg base CX0 1 f fd ["_law_deck_here", "_law_many"] spDraw := by
  refine F.ok scDraw (fun vs H Q E h => ?_) (fun cdv A outer s H vs Q E hr h => ?_)
  · obtain ⟨d, cs, rs, m, n, rfl, _⟩ := h
    rfl
  · obtain ⟨d, cs, rs, m, n, rfl, m0, m1, hn, ⟨a, b, xs, ys, h1, h2, h3, a0, a1, x0, x1, lxy, b0, b1, ncd, nrd, ncr⟩, k⟩ := h
    refine ⟨_, (pss_cons (ps_asg (pv 0) (pg_lst rfl (pgs_cons (pg_name (i := 2) scDraw.nd rfl (Or.inl rfl)) (pgs_cons (pg_name (i := 3) scDraw.nd rfl (Or.inl rfl)) (pgs_cons (pg_name (i := 4) scDraw.nd rfl (Or.inl rfl)) (pgs_cons (pg_name (i := 5) scDraw.nd rfl (Or.inl rfl)) pgs_nil))))))
       (pss_cons (ps_set (i := 6) scDraw.nd rfl (Or.inl rfl) (pe_op op_mod (pv 3) (pe_callB (lenK (K := K) rfl) (by rfl) B.len PySem.boot_len (pa_cons (pv 2) pa_nil))))
       (pss_cons (ps_asg (pe_op op_add (pv 3) pe_int) (pg_sub (pv 0) pe_int set_list))
       (pss_cons (ps_if (pt_cmpR op_gt (pe_ix (ixL (K := K) rfl) (pv 4) (pv 6) (fun _ _ => rfl)) pe_int (nomark _))
       (pss_cons (ps_set (i := 7) scDraw.nd rfl (Or.inl rfl) (pe_op op_mod (pe_ix (ixL (K := K) rfl) (pv 4) (pv 6) (fun _ _ => rfl)) (pv 1)))
       (pss_cons (ps_asg (pe_op op_fdiv (pe_ix (ixL (K := K) rfl) (pv 4) (pv 6) (fun _ _ => rfl)) (pv 1)) (pg_sub (pv 4) (pv 6) set_list))
       (pss_one (ps_ret (pv 7)))))
       pss_nil)
       (pss_cons (ps_asg (pe_op op_mod (pe_op op_add (pe_op op_add (pe_op op_mul (pv 5) pe_int) (pe_op op_mod (pe_ix (ixL (K := K) rfl) (pv 2) (pv 6) (fun _ _ => rfl)) pe_int)) (pe_op op_mul pe_int (pv 3))) pe_int) (pg_sub (pv 0) pe_int set_list))
       (pss_one (ps_ret (pe_op op_mod (pe_op op_fdiv (pe_op op_mod (pe_op op_mul (pe_ix (ixL (K := K) rfl) (pv 0) pe_int (fun _ _ => rfl)) (pe_ix (ixL (K := K) rfl) (pv 0) pe_int (fun _ _ => rfl))) pe_int) pe_int) (pv 1))))))))), ?_⟩
    refine ⟨_, rfl, d, _, rfl, SqL.of h1, rfl, _, _, rfl, _, _, rfl, _, _, rfl, _, _, rfl, rfl, ?_⟩
    have lx0 : (0 : Int) < (xs.length : Int) := by omega
    refine ⟨_, rfl, _, rfl, _, xs.length, rfl, .inl ⟨_, SqL.of h2, (List.length_map _).symm⟩, _, _, rfl, rfl, lx0, ?_⟩
    obtain ⟨sp, esp, sp0, sp1⟩ : ∃ sp : Int, a % (xs.length : Int) = sp ∧ 0 ≤ sp ∧ sp < xs.length := ⟨_, rfl, Int.emod_nonneg _ (by omega), Int.emod_lt_of_pos _ lx0⟩
    rw [show (fun i j => V.int (i % j)) a (xs.length : Int) = V.int sp from congrArg V.int esp]
    refine ⟨_, rfl, _, _, rfl, rfl, _, rfl, d, _, _, 1, rfl, rfl, h1, rfl, ?_⟩
    show tSeq _ _ _ _ (upd H d (.lst [.ref cs, .int (a + 1), .ref rs, .int b]))
    have g1 : upd H d (.lst [.ref cs, .int (a + 1), .ref rs, .int b]) d = some (.lst [.ref cs, .int (a + 1), .ref rs, .int b]) := upd_same
    have g2 : upd H d (.lst [.ref cs, .int (a + 1), .ref rs, .int b]) cs = some (.lst (xs.map V.int)) := (upd_ne ncd).trans h2
    have g3 : upd H d (.lst [.ref cs, .int (a + 1), .ref rs, .int b]) rs = some (.lst (ys.map V.int)) := (upd_ne nrd).trans h3
    have gk : Kp [d, rs] H (upd H d (.lst [.ref cs, .int (a + 1), .ref rs, .int b])) := (Kp.refl _ _).wr List.mem_cons_self
    generalize upd H d (.lst [.ref cs, .int (a + 1), .ref rs, .int b]) = H1 at g1 g2 g3 gk
    obtain ⟨y, ey, ay⟩ := atInt (xs := ys) sp0 (by omega)
    obtain ⟨x, ex, ax⟩ := atInt (xs := xs) sp0 sp1
    refine ⟨_, rfl, _, rfl, rs, _, _, _, rfl, rfl, SqL.of g3, ay, _, _, rfl, rfl, _, rfl, ?_⟩
    refine ite2 (fun hc => ?_) (fun hc => ?_)
    · refine ⟨_, rfl, _, rfl, rs, _, _, _, rfl, rfl, SqL.of g3, ay, _, rfl, _, _, rfl, rfl, m0, ?_⟩
      refine ⟨_, rfl, _, rfl, rs, _, _, _, rfl, rfl, SqL.of g3, ay, _, rfl, _, _, rfl, rfl, ⟨m0, by omega⟩, ?_⟩
      have ej : ixN (ys.map V.int).length sp = some sp.toNat := by
        unfold ixN
        rw [List.length_map, if_pos sp0, if_pos (by omega)]
      refine ⟨_, rfl, _, rfl, rs, _, _, sp.toNat, rfl, rfl, g3, ej, ?_⟩
      refine ⟨_, rfl, k _ _ (Int.emod_nonneg _ (by omega)) (Int.emod_lt_of_pos _ m0) (gk.wr (List.mem_cons_of_mem _ (List.mem_singleton.mpr rfl))) ⟨a + 1, b, xs, ys.set sp.toNat (y / m), ?_, ?_, ?_, by omega, by omega, x0, x1, by rw [List.length_set]; exact lxy, b0, b1, ncd, nrd, ncr⟩⟩
      · rw [upd_ne nrd.symm]
        exact g1
      · rw [upd_ne ncr]
        exact g2
      · rw [upd_same, List.map_set]
    · refine ⟨_, rfl, _, _, rfl, rfl, .inr ⟨by decide, by decide⟩, _, rfl, _, rfl, cs, _, _, _, rfl, rfl, SqL.of g2, ax, _, _, rfl, rfl, (by show (0 : Int) < 2147483629; decide), _, _, rfl, rfl, _, rfl, _, _, rfl, rfl, .inl ⟨by decide, by decide⟩, _, _, rfl, rfl, _, _, rfl, rfl, (by show (0 : Int) < 2147483647; decide), ?_⟩
      obtain ⟨z, ez, z0, z1⟩ : ∃ z : Int, (b * 48271 + x % 2147483629 + 30011 * a) % 2147483647 = z ∧ 0 ≤ z ∧ z < 2147483647 := ⟨_, rfl, Int.emod_nonneg _ (by decide), Int.emod_lt_of_pos _ (by decide)⟩
      rw [show (fun i j => V.int (i % j)) (b * 48271 + x % 2147483629 + 30011 * a) 2147483647 = V.int z from congrArg V.int ez]
      refine ⟨_, rfl, d, _, _, 3, rfl, rfl, g1, rfl, ?_⟩
      rw [show [V.ref cs, .int (a + 1), .ref rs, .int b].set 3 (.int z) = [V.ref cs, .int (a + 1), .ref rs, .int z] from rfl]
      have e1 : upd H1 d (.lst [.ref cs, .int (a + 1), .ref rs, .int z]) d = some (.lst [.ref cs, .int (a + 1), .ref rs, .int z]) := upd_same
      refine ⟨_, rfl, d, _, _, .int z, rfl, rfl, SqL.of e1, rfl, _, rfl, d, _, _, .int z, rfl, rfl, SqL.of e1, rfl, _, _, rfl, rfl, .inl ⟨by omega, by omega⟩, _, _, rfl, rfl, (by show (0 : Int) < 2147483629; decide), _, _, rfl, rfl, ⟨by decide, by decide⟩, _, rfl, _, _, rfl, rfl, m0, ?_⟩
      exact k _ _ (Int.emod_nonneg _ (by omega)) (Int.emod_lt_of_pos _ m0) (gk.wr List.mem_cons_self) ⟨a + 1, z, xs, ys, e1, (upd_ne ncd).trans g2, (upd_ne nrd).trans g3, by omega, by omega, x0, x1, lxy, by omega, by omega, ncd, nrd, ncr⟩
theorem scDeck : FnScope ["_law_script", "_law_cells", "_law_cell"] ["_law_script"] (defScope sDeck) := ⟨rfl, rfl, rfl, by decide +kernel, rfl, by decide +kernel, by decide +kernel⟩
theorem ok_deck2 {f : Addr} {fd : FuncData} (F : Fun K "_law_deck" "_law_deck" sDeck f fd) (B : DB mg) : FnOk P w K mg base CX0 1 f fd ["_law_script"] (spDeck2 K) := by
  refine F.ok scDeck (fun vs H Q E h => ?_) (fun cdv A outer s H vs Q E hr h => ?_)
  · obtain ⟨a, ns, rfl, _⟩ := h
    rfl
  · obtain ⟨a, ns, rfl, hS, hl, k⟩ := h
    refine ⟨_, (pss_cons (ps_set (i := 1) scDeck.nd rfl (Or.inl rfl) (pe_op op_cat (pe_callTy (lstOfK (K := K) rfl) (by rfl) B.list (by decide +kernel) (pa_cons (pe_slice (slL (K := K) rfl) (pv 0) po_none (po_some pe_int)) pa_nil)) (pe_op op_rep (pe_lst (pa_cons pe_int pa_nil)) (pe_callTy call_int1 (by rfl) B.int PyProof.Rows.boot_int (pa_cons (pe_cmpR op_eq (pe_callB (lenK (K := K) rfl) (by rfl) B.len PySem.boot_len (pa_cons (pv 0) pa_nil)) pe_int (nomark _)) pa_nil)))))
       (pss_one (ps_ret (pe_lst (pa_cons (pv 1) (pa_cons pe_int (pa_cons (pe_lc (own := [("_law_cell", 2)]) (g := (gName 2)) (tt := tYes) rfl scDeck.nd (pi_list (pv 1)) (blkOk_by (N := ["_law_script", "_law_cells", "_law_cell"]) (sc := defScope sDeck) (by decide +kernel))
       (fun _ _ _ _ _ => (pg_name (i := 2) scDeck.nd rfl (Or.inl rfl))) (fun _ _ _ _ _ => pts_nil) (fun _ _ _ _ _ => (pe_op op_mul (pv 2) (pe_callTy call_int1 (by rfl) B.int PyProof.Rows.boot_int (pa_cons (pe_cmpR op_ge (pv 2) (pe_op op_pow pe_int pe_int) (nomark _)) pa_nil))))) (pa_cons pe_int pa_nil)))))))), ?_⟩
    refine ⟨_, rfl, _, rfl, a, _, rfl, hS, fun l1 n1 => ?_⟩
    obtain ⟨ms, ems, lms⟩ : ∃ ms : List Int, cutV (ns.map V.int) none (some 63) = ms.map V.int ∧ ms.length = ns.length := by
      refine ⟨ns, ?_, rfl⟩
      unfold cutV
      have e : HT.sIx (ns.map V.int).length (ns.map V.int).length (some 63) = min 63 (ns.map V.int).length := HT.sIx_nat _ _ 63
      rw [e, HT.sIx_none, List.drop_zero, Nat.sub_zero, List.length_map, Nat.min_eq_right hl]
      exact List.take_of_length_le (by rw [List.length_map]; exact Nat.le_refl _)
    rw [ems]
    have s1 : Same H (upd H l1 (.lst (ms.map V.int))) := (L2.Same.refl _).new n1
    have e1 : upd H l1 (.lst (ms.map V.int)) l1 = some (.lst (ms.map V.int)) := upd_same
    generalize upd H l1 (.lst (ms.map V.int)) = H1 at s1 e1
    refine ⟨l1, _, rfl, .inl (SqL.of e1), fun l2 n2 => ?_⟩
    have s2 : Same H1 (upd H1 l2 (.lst (ms.map V.int))) := (L2.Same.refl _).new n2
    have e2 : upd H1 l2 (.lst (ms.map V.int)) l2 = some (.lst (ms.map V.int)) := upd_same
    generalize upd H1 l2 (.lst (ms.map V.int)) = H2 at s2 e2
    refine ⟨(by show 1 ≤ sizeLine; decide), fun l3 n3 => ?_⟩
    have s3 : Same H2 (upd H2 l3 (.lst [.int 7])) := (L2.Same.refl _).new n3
    have e3 : upd H2 l3 (.lst [.int 7]) l3 = some (.lst [.int 7]) := upd_same
    generalize upd H2 l3 (.lst [.int 7]) = H3 at s3 e3
    have s03 := (s1.trans s2).trans s3
    refine ⟨_, rfl, _, ns.length, rfl, .inl ⟨_, SqL.sm hS s03, (List.length_map _).symm⟩, rfl, .inr ⟨_, rfl, ?_⟩⟩
    obtain ⟨c, ec, c0, c1, c2⟩ : ∃ c : Int, (if decide (V.int (ns.length : Int) = V.int 0) = true then (1 : Int) else 0) = c ∧ 0 ≤ c ∧ c ≤ 1 ∧ (ns.length = 0 → c = 1) := by
      refine ⟨_, rfl, ?_, ?_, fun z => ?_⟩
      · split <;> omega
      · split <;> omega
      · rw [z]
        rfl
    rw [ec]
    refine ⟨l3, c, _, rfl, rfl, e3, by omega, by omega, ?_, fun l4 n4 => ?_⟩
    · have : [V.int 7].length * c.toNat ≤ 1 := by
        rw [List.length_singleton]
        omega
      exact Nat.le_trans this (by decide)
    obtain ⟨zs, ez, lz⟩ : ∃ zs : List Int, (List.replicate c.toNat [V.int 7]).flatten = zs.map V.int ∧ zs.length = c.toNat := by
      have h : c = 0 ∨ c = 1 := by omega
      rcases h with rfl | rfl
      · exact ⟨[], rfl, rfl⟩
      · exact ⟨[7], rfl, rfl⟩
    rw [ez]
    have s4 : Same H3 (upd H3 l4 (.lst (zs.map V.int))) := (L2.Same.refl _).new n4
    have e4 : upd H3 l4 (.lst (zs.map V.int)) l4 = some (.lst (zs.map V.int)) := upd_same
    generalize upd H3 l4 (.lst (zs.map V.int)) = H4 at s4 e4
    have e24 := (s3.trans s4) _ _ e2
    refine ⟨l2, l4, _, _, rfl, rfl, e24, e4, ?_, fun cs ncs => ?_⟩
    · rw [List.length_map, List.length_map]
      exact Nat.le_trans (show ms.length + zs.length ≤ 1000 by omega) (by decide)
    rw [← List.map_append]
    have s5 : Same H4 (upd H4 cs (.lst ((ms ++ zs).map V.int))) := (L2.Same.refl _).new ncs
    have e5 : upd H4 cs (.lst ((ms ++ zs).map V.int)) cs = some (.lst ((ms ++ zs).map V.int)) := upd_same
    have lc : 0 < (ms ++ zs).length ∧ (ms ++ zs).length ≤ 100 := by
      rw [List.length_append]
      omega
    generalize upd H4 cs (.lst ((ms ++ zs).map V.int)) = H5 at s5 e5
    generalize ms ++ zs = xs at e5 lc
    have s05 := (s03.trans s4).trans s5
    refine ⟨_, rfl, _, rfl, cs, rfl, ⟨_, SqL.of e5⟩, fun rs nrs => ?_⟩
    have rI : RpL K H5 (xs.map PyData.int) (xs.map V.int) := by
      clear e5 lc nrs
      induction xs with
      | nil => exact RpL.nil
      | cons n ns ih => exact RpL.cons Rp.int ih
    refine mapI_lc (K := K) (i := 2) (enc := PyData.int) (fun x => x * (if decide (10 ^ 18 ≤ x) = true then 1 else 0)) e5 rI nrs (by omega) ?_ ?_
    · intro b x H' Q' hb rx s' hQ
      have ex := Rp.int_eq rx
      subst ex
      refine ⟨_, rfl, _, rfl, _, _, rfl, rfl, ⟨by decide, by decide, by decide⟩, ?_⟩
      rw [show (fun i j : Int => V.int (i ^ j.toNat)) 10 18 = V.int (10 ^ 18) from by decide +kernel]
      refine ⟨_, _, rfl, rfl, .inr ⟨_, rfl, _, _, rfl, rfl, .inr ⟨?_, ?_⟩, hQ⟩⟩
      · split <;> omega
      · split <;> omega
    · intro H6 s6 e6
      have e56 := s6 _ _ e5
      refine ⟨(by show 4 ≤ sizeLine; decide), fun d nd => ?_⟩
      have s7 : Same H6 (upd H6 d (.lst [.ref cs, .int 0, .ref rs, .int 1])) := (L2.Same.refl _).new nd
      have s56 : Same H5 H6 := s6
      have back : ∀ {G G' : Hp} {p : Addr}, Same G G' → G' p = none → G p = none := fun {G G' p} sm h => by
        cases e : G p with
        | none => rfl
        | some o =>
          rw [sm _ _ e] at h
          cases h
      refine k _ d cs rs (back (s05.trans s56) nd) (back (s03.trans s4) ncs) (back s05 nrs) ((s05.trans s56).trans s7) ⟨0, 1, xs, _, upd_same, s7 _ _ e56, s7 _ _ e6, by omega, by omega, lc.1, lc.2, by rw [List.length_map], by omega, by omega, ne_of_none e56 nd, ne_of_none e6 nd, ne_of_none e5 nrs⟩
theorem scOne : FnScope ["_law_deck_here", "_law_some"] ["_law_deck_here", "_law_some"] (defScope sOne) := ⟨rfl, rfl, rfl, by decide +kernel, rfl, by decide +kernel, by decide +kernel⟩
/-- a list, of which one is drawn -/
def spOneL (K : PySem.W.Frag) : Sp := fun vs H Q _ => ∃ (d cs rs a : Addr) (n : Int) (xs : List V), vs = [.ref d, .ref a] ∧ SqL K H a xs ∧ a ≠ d ∧ a ≠ rs ∧ 0 < xs.length ∧ xs.length ≤ 1000 ∧ n < 2 ^ 60 ∧ Deck2 H d cs rs n ∧
  ∀ (j : Nat) (x : V) (H' : Hp), xs[j]? = some x → Kp [d, rs] H H' → Deck2 H' d cs rs (n + 1) → Q x H'
def spOneT (K : PySem.W.Frag) : Sp := fun vs H Q _ => ∃ (d cs rs a : Addr) (n : Int) (xs : List V), vs = [.ref d, .ref a] ∧ SqT K H a xs ∧ 0 < xs.length ∧ xs.length ≤ 1000 ∧ n < 2 ^ 60 ∧ Deck2 H d cs rs n ∧
  ∀ (j : Nat) (x : V) (H' : Hp), xs[j]? = some x → Kp [d, rs] H H' → Deck2 H' d cs rs (n + 1) → Q x H'
theorem ok_oneL {f : Addr} {fd : FuncData} (F : Fun K "_law_one" "_law_one" sOne f fd) (B : DB mg) (cR : Cd P w K mg base 1 "_law_draw" ["_law_deck_here", "_law_many"] spDraw) : FnOk P w K mg base CX0 2 f fd ["_law_deck_here", "_law_some"] (spOneL K) := by
  obtain ⟨fR, fdR, GR, mR, kR, bR⟩ := cR.tk
  refine F.ok scOne (fun vs H Q E h => ?_) (fun cdv A outer s H vs Q E hr h => ?_)
  · obtain ⟨d, cs, rs, a, n, xs, rfl, _⟩ := h
    rfl
  · obtain ⟨d, cs, rs, a, n, xs, rfl, hS, na, nb, l0, l1, hn, D, k⟩ := h
    have hr1 : Room 1 _ := hr
    refine ⟨_, (pss_one (ps_ret (pe_ix (ixL (K := K) rfl) (pv 1) (pe_call GR hr1 rfl mR kR bR .nil pass0 (pa_cons (pv 0) (pa_cons (pe_callB (lenK (K := K) rfl) (by rfl) B.len PySem.boot_len (pa_cons (pv 1) pa_nil)) pa_nil))) (fun _ _ => rfl)))), ?_⟩
    refine ⟨_, rfl, _, rfl, _, rfl, _, xs.length, rfl, .inl ⟨_, hS, rfl⟩, d, cs, rs, xs.length, n, rfl, by omega, by omega, hn, D, fun r H1 r0 r1 k1 D1 t1 => ?_⟩
    have hj : r.toNat < xs.length := by omega
    have ex : xs[r.toNat]? = some xs[r.toNat] := List.getElem?_eq_getElem hj
    have ea : atI xs r = some xs[r.toNat] := by
      have := atI_nat (xs := xs) (j := r.toNat) ex
      rw [show ((r.toNat : Nat) : Int) = r by omega] at this
      exact this
    exact ⟨a, xs, r, _, rfl, rfl, SqL.kp hS k1 (nin2 na nb), ea, k _ _ H1 ex k1 D1⟩
theorem ok_oneT {f : Addr} {fd : FuncData} (F : Fun K "_law_one" "_law_one" sOne f fd) (B : DB mg) (cR : Cd P w K mg base 1 "_law_draw" ["_law_deck_here", "_law_many"] spDraw) : FnOk P w K mg base CX0 2 f fd ["_law_deck_here", "_law_some"] (spOneT K) := by
  obtain ⟨fR, fdR, GR, mR, kR, bR⟩ := cR.tk
  refine F.ok scOne (fun vs H Q E h => ?_) (fun cdv A outer s H vs Q E hr h => ?_)
  · obtain ⟨d, cs, rs, a, n, xs, rfl, _⟩ := h
    rfl
  · obtain ⟨d, cs, rs, a, n, xs, rfl, hS, l0, l1, hn, D, k⟩ := h
    have hr1 : Room 1 _ := hr
    refine ⟨_, (pss_one (ps_ret (pe_ix (ixT (K := K) rfl) (pv 1) (pe_call GR hr1 rfl mR kR bR .nil pass0 (pa_cons (pv 0) (pa_cons (pe_callB (lenK (K := K) rfl) (by rfl) B.len PySem.boot_len (pa_cons (pv 1) pa_nil)) pa_nil))) (fun _ _ => rfl)))), ?_⟩
    refine ⟨_, rfl, _, rfl, _, rfl, _, xs.length, rfl, .inr ⟨_, hS, rfl⟩, d, cs, rs, xs.length, n, rfl, by omega, by omega, hn, D, fun r H1 r0 r1 k1 D1 t1 => ?_⟩
    have hj : r.toNat < xs.length := by omega
    have ex : xs[r.toNat]? = some xs[r.toNat] := List.getElem?_eq_getElem hj
    have ea : atI xs r = some xs[r.toNat] := by
      have := atI_nat (xs := xs) (j := r.toNat) ex
      rw [show ((r.toNat : Nat) : Int) = r by omega] at this
      exact this
    exact ⟨a, xs, r, _, rfl, rfl, SqT.tk hS t1, ea, k _ _ H1 ex k1 D1⟩
end
end Wn

set_option maxHeartbeats 800000
namespace Wn
open PySem L2
set_option pp.maxSteps 700
set_option pp.deepTerms false
local macro_rules | `(tactic| walk_at "h") => `(tactic| first | with_reducible assumption | (with_reducible exact upd_same) | (with_reducible apply g_upd; (walk_at "neq"); (walk_at "h")) | (with_reducible apply g_same; (with_reducible assumption); (walk_at "h")) | (with_reducible apply g_kp; (with_reducible assumption); (walk_at "nin"); (walk_at "h")) | (with_reducible apply g_tk; (with_reducible assumption); (walk_at "h")))
local macro_rules | `(tactic| walk_at "neq") => `(tactic| first | with_reducible assumption | (with_reducible apply Ne.symm; with_reducible assumption) | (with_reducible apply ne_upd; (with_reducible assumption)) | (with_reducible apply Ne.symm; with_reducible apply ne_upd; with_reducible assumption) | (with_reducible apply ne_fr; (with_reducible assumption); (walk_at "h")) | (with_reducible apply ne_fr'; (with_reducible assumption); (walk_at "h")) | (with_reducible apply ne_kd; (walk_at "h"); (walk_at "h"); (with_unfolding_all (intro z; cases z))))
local macro_rules | `(tactic| walk_at "nin") => `(tactic| first | (with_reducible exact nin0) | with_reducible assumption | (with_reducible apply ninc; (walk_at "neq"); (walk_at "nin")))
local macro_rules | `(tactic| walk_at "none") => `(tactic| first | with_reducible assumption | (with_reducible apply n_upd; (with_reducible assumption)) | (with_reducible apply n_same; (with_reducible assumption); (walk_at "none")) | (with_reducible apply n_kp; (with_reducible assumption); (walk_at "nin"); (walk_at "none")))
local macro_rules | `(tactic| walk_at "mem") => `(tactic| first | (with_reducible exact List.mem_cons_self) | (with_reducible apply List.mem_cons_of_mem; (walk_at "mem")))
local macro_rules | `(tactic| walk_at "am") => `(tactic| first | (with_reducible exact am0) | (with_reducible apply am1; (first | (apply Or.inl; walk_at "mem") | (apply Or.inr; walk_at "none")); (walk_at "am")))
local macro_rules | `(tactic| walk_at "tk") => `(tactic| first | (with_reducible exact TK.refl _) | with_reducible assumption | (with_reducible apply t_tk; (with_reducible assumption); (walk_at "tk")) | (with_reducible apply t_same; (with_reducible assumption); (walk_at "tk")) | (with_reducible apply t_new; (with_reducible assumption); (walk_at "tk")) | (with_reducible apply t_wr; (walk_at "h"); (with_unfolding_all rfl); (walk_at "tk")))
local macro_rules | `(tactic| walk_at "same") => `(tactic| first | (with_reducible exact L2.Same.refl _) | with_reducible assumption | (with_reducible apply s_same; (with_reducible assumption); (walk_at "same")) | (with_reducible apply s_new; (with_reducible assumption); (walk_at "same")) | (with_reducible apply s_wrn; (walk_at "none"); (walk_at "same")))
local macro_rules | `(tactic| walk_at "kp") => `(tactic| first | (with_reducible exact Kp.refl _ _) | with_reducible assumption | (with_reducible apply k_same; (with_reducible assumption); (walk_at "kp")) | (with_reducible apply k_kp; (with_reducible assumption); (walk_at "kp")) | (with_reducible apply k_kpm; (with_reducible assumption); (walk_at "am"); (walk_at "kp")) | (with_reducible apply k_new; (with_reducible assumption); (walk_at "kp")) | (with_reducible apply k_wr; (walk_at "mem"); (walk_at "kp")) | (with_reducible apply k_wrn; (walk_at "none"); (walk_at "kp")))
local macro_rules | `(tactic| walk_at "rp") => `(tactic| first | with_reducible assumption | (with_reducible exact Rp.int) | (with_reducible exact Rp.str) | (with_reducible exact Rp.none) | (with_reducible exact Rp.bool) | (with_reducible apply Rp.tk'; (with_reducible assumption); (walk_at "tk")) | (with_reducible apply Rp.tup; (walk_at "h"); (walk_at "rpl")))
local macro_rules | `(tactic| walk_at "rpl") => `(tactic| first | with_reducible assumption | (with_reducible exact RpL.nil) | (with_reducible apply RpL.tk'; (with_reducible assumption); (walk_at "tk")) | (with_reducible apply RpL.cons; (walk_at "rp"); (walk_at "rpl")))
local macro_rules | `(tactic| walk_at "g") => `(tactic| repeat (first | refine ⟨_, rfl, ?_⟩ | refine ⟨_, _, rfl, rfl, ?_⟩ | refine ⟨rfl, _, rfl, ?_⟩ | refine ⟨_, _, rfl, rfl, (by first | decide | omega), ?_⟩))
abbrev sWhole : Stmt := top 2
structure IB (mg : Str → Option Value) : Prop where
  isinstance : mg "isinstance" = none
  int : mg "int" = none
  bool : mg "bool" = none
def isIntD : PyData → Option Int
  | .int i => some i
  | _ => none
def fromD (d : PyData) (lo hi : Int) : Bool := match isIntD d with
  | some i => decide (lo ≤ i) && decide (i ≤ hi)
  | none => false
theorem isIntD_some {d : PyData} (h : (isIntD d).isSome = true) : ∃ i, d = .int i := by
  cases d <;> simp [isIntD] at h
  exact ⟨_, rfl⟩
theorem isIntD_ty (d : PyData) : (isIntD d).isSome = decide (tyN d = "int") := by
  cases d <;> rfl
def spWholeK (K : PySem.W.Frag) : Sp := fun vs H Q _ => ∃ v d, vs = [v] ∧ Dk K H v d ∧ Q (.bl (isIntD d).isSome) H
def spFromK (K : PySem.W.Frag) : Sp := fun vs H Q _ => ∃ (v : V) (d : PyData) (lo hi : Int), vs = [v, .int lo, .int hi] ∧ Dk K H v d ∧ Q (.bl (fromD d lo hi)) H

section
variable {P : Program} {w : World} {K : PySem.W.Frag} {mg : Str → Option Value} {base : Heap}
theorem scWhole : FnScope ["thing"] ["thing"] (defScope sWhole) := ⟨rfl, rfl, rfl, by decide +kernel, rfl, by decide +kernel, by decide +kernel⟩
theorem ok_wholeK {f : Addr} {fd : FuncData} (F : Fun K "is_whole" "is_whole" sWhole f fd) (B : IB mg) : FnOk P w K mg base CX0 1 f fd ["thing"] (spWholeK K) := by
  refine F.ok scWhole (fun vs H Q E h => ?_) (fun cdv A outer s H vs Q E hr h => ?_)
  · obtain ⟨v, d, rfl, _⟩ := h
    rfl
  · obtain ⟨v, d, rfl, hd, k⟩ := h
    refine ⟨_, (pss_one (ps_ret (pe_and (pe_callB (isiK (K := K) rfl) (by rfl) B.isinstance (by decide +kernel) (pa_cons (pv 0) (pa_cons (pe_bltn (v := .ty "int") (by rfl) B.int PyProof.Rows.boot_int rfl) pa_nil))) (pe_one (pe_not (pe_callB (isiK (K := K) rfl) (by rfl) B.isinstance (by decide +kernel) (pa_cons (pv 0) (pa_cons (pe_bltn (v := .ty "bool") (by rfl) B.bool PyProof.Rows.boot_bool rfl) pa_nil)))))))), ?_⟩
    rw [isIntD_ty] at k
    refine ⟨_, rfl, _, _, _, _, _, rfl, .ty _, hd.ty, kit_int d, _, rfl, iteP (fun c => ?_) (fun c => ?_)⟩
    · refine ⟨_, rfl, _, _, _, _, _, rfl, .ty _, hd.ty, kit_bool d, _, rfl, ?_⟩
      have e2 : (!decide (tyN d = "bool")) = decide (tyN d = "int") := by
        rcases c with c | c <;> rw [c] <;> rfl
      rw [e2]
      exact k
    · rw [decide_eq_false (fun z => c (.inl z))] at k
      exact k
end
end Wn

namespace Wn
open PySem L2
/-! ### comprehensions whose elements are told values: any walk, any target, a test or none -/
theorem comp_ls {J : It} {G : Hp → Prop} {Y : Nat → Hp → V → Hp → Prop} {β : Type} {g : TG} {tt : TT} {te : TE} {is : List Nat} {σ : L2.St} {H2 : Hp} {D : Addr} {L : List β} {Qd : Hp → Prop} (w : Walk J L.length G Y) (hG : ∀ H', Same H2 H' → G H') (p : β → Bool) (f : β → V) (hD : H2 D = none) (hl : L.length ≤ 1000000)
    (hte : ∀ (j : Nat) (b : β) (x : V) (H' H'' : Hp) (Q : VK) (N : Hp → Prop), L[j]? = some b → Same H2 H' → Y j H' x H'' → (p b = true → ∀ (H3 : Hp), Same H' H3 → Q (f b) H3) → (p b = false → ∀ (H3 : Hp), Same H' H3 → N H3) →
      g x (wipe σ is) H'' fun σ2 H3 => wipe σ2 is = wipe σ is ∧ tt σ2 H3 fun b' H4 => if b' = true then te σ2 H4 Q else N H4)
    (hd : ∀ (H' : Hp), Same H2 H' → H' D = some (.lst ((L.filter p).map f)) → Qd H') :
    ∃ W : Nat → Nat → Hp → Prop, (∃ m, W 0 m (upd H2 D (.lst []))) ∧ ∀ j m H, W j m H →
      (J.stop j H ∧ Qd H) ∨ (J.go j H ∧ ∃ Nx : Hp → Prop, (∀ H', Nx H' → ∃ m', m' < m ∧ W (j + 1) m' H') ∧ ∀ x H', J.yld j H x H' → g x (wipe σ is) H' fun σ2 H2 => wipe σ2 is = wipe σ is ∧ tt σ2 H2 fun b H3 =>
        if b = true then te σ2 H3 fun y H4 => ∃ acc, H4 D = some (.lst acc) ∧ acc.length < sizeLine ∧ Nx (upd H4 D (.lst (acc ++ [y]))) else Nx H3) := by
  refine lc_it w (fun j H => Same H2 H ∧ H D = some (.lst (((L.take j).filter p).map f))) ⟨(L2.Same.refl H2).new hD, upd_same⟩ (fun j H _ ⟨s, _⟩ => hG H s) ?_ ?_
  · rintro j x H3 H3' hj ⟨s3, hD3⟩ hx
    have ej : L[j]? = some L[j] := List.getElem?_eq_getElem hj
    have et : L.take (j + 1) = L.take j ++ [L[j]] := List.take_succ_eq_append_getElem hj
    have ly : (((L.take j).filter p).map f).length < sizeLine := by
      rw [List.length_map]
      have h2 := List.length_filter_le p (L.take j)
      rw [List.length_take] at h2
      exact Nat.lt_of_le_of_lt (show ((L.take j).filter p).length ≤ 1000000 by omega) (by decide)
    refine hte j L[j] x H3 H3' _ _ ej s3 hx (fun hp H4 s4 => ⟨_, s4 _ _ hD3, ly, (s3.trans s4).wrn hD, ?_⟩) (fun hp H4 s4 => ⟨s3.trans s4, ?_⟩)
    · rw [upd_same, et, List.filter_append, List.filter_cons, hp, List.map_append]
      rfl
    · rw [et, List.filter_append, List.filter_cons, hp]
      simp only [Bool.false_eq_true, if_false, List.filter_nil, List.append_nil]
      exact s4 _ _ hD3
  · rintro H3 ⟨s3, hD3⟩
    rw [List.take_length] at hD3
    exact hd H3 s3 hD3
theorem _root_.L2.Walk.cast {J : It} {n m : Nat} {G : Hp → Prop} {Y : Nat → Hp → V → Hp → Prop} (w : Walk J n G Y) (e : n = m) : Walk J m G Y := e ▸ w
theorem filter_all {β : Type} (L : List β) : L.filter (fun _ => true) = L := List.filter_eq_self.mpr fun _ _ => rfl
end Wn

namespace L2
open PySem PySem.Spec PyProof.Rows
/-! ### l != [] of things of any kind -/
section
variable {X : Cx}
theorem op_neL0 (hu : X.A.units < cLine) : OpR X (compareOp .NotEq) (fun x y H Q => ∃ a b xs, x = .ref a ∧ y = .ref b ∧ SqL X.K H a xs ∧ SqL X.K H b [] ∧ Q (.bl (!decide (xs = []))) H) := by
  intro pins s σ H x y v u Q I rx ry h
  obtain ⟨a, b, xs, rfl, rfl, ha, hb, q⟩ := h
  obtain rfl : v = .ref a := rx
  obtain rfl : u = .ref b := ry
  obtain ⟨i1, r1, ⟨o1, n1, ho1, hc1, hz1, hd1⟩, _⟩ := I.list ha
  obtain ⟨i2, r2, ⟨o2, n2, ho2, hc2, hz2, hd2⟩, _⟩ := I.list hb
  cases r2
  have p1 : s.heap.IsList a i1.toArray := ⟨o1, ho1, hc1, n1, hd1⟩
  have p2 : s.heap.IsList b #[] := ⟨o2, ho2, hc2, n2, hd2⟩
  have fin : EP X pins σ Q (.bool (!decide (xs = []))) s := ⟨.bl (!decide (xs = [])), H, I, rfl, q⟩
  have l1 := r1.length
  cases i1 with
  | nil =>
    have e : xs = [] := List.length_eq_zero_iff.mp l1
    subst e
    exact SeqAt.RcNeAt.lists (e := fun _ => true) p1 p2 rfl hu (fun j h1 h2 => absurd h2 (by simp)) X.prog X.w X.xe (EP X pins σ Q) fin
  | cons z zs =>
    have e : xs ≠ [] := fun e => by rw [e] at l1; cases l1
    rw [decide_eq_false e] at fin
    exact SeqAt.RcNeAt.lists_lengths p1 p2 (by simp) hu X.prog X.w X.xe (EP X pins σ Q) fin
theorem op_neL0K {K : PySem.W.Frag} (hK : X.K = K) (hu : X.A.units < cLine) : OpR X (compareOp .NotEq) (fun x y H Q => ∃ a b xs, x = .ref a ∧ y = .ref b ∧ SqL K H a xs ∧ SqL K H b [] ∧ Q (.bl (!decide (xs = []))) H) := hK ▸ op_neL0 hu
end
end L2

namespace L2
open PySem PySem.Spec PyProof.Rows
/-! ### truths among numbers; tuples: == (), >= -/
def numI (x : V) (i : Int) : Prop := x = .int i ∨ ∃ b : Bool, x = .bl b ∧ i = if b = true then 1 else 0
section
variable {X : Cx}
theorem op_addN : OpR X (binaryOp .Add) (fun x y H Q => ∃ i j, numI x i ∧ y = .int j ∧ Q (.int (i + j)) H) := by
  intro pins s σ H x y v u Q I rx ry h
  obtain ⟨i, j, hx, rfl, q⟩ := h
  obtain ⟨t', rfl⟩ : ∃ t, u = .int j t := ry
  rcases hx with rfl | ⟨b, rfl, rfl⟩
  · obtain ⟨t, rfl⟩ : ∃ t, v = .int i t := rx
    exact add_int ⟨.int (i + j), H, I.tok _, ⟨_, rfl⟩, q⟩
  · obtain rfl : v = .bool b := rx
    exact PySem.IntBool.add_bool_int ⟨.int _, H, I.tok _, ⟨_, rfl⟩, q⟩
theorem op_subN : OpR X (binaryOp .Sub) (fun x y H Q => ∃ i j, numI x i ∧ y = .int j ∧ Q (.int (i - j)) H) := by
  intro pins s σ H x y v u Q I rx ry h
  obtain ⟨i, j, hx, rfl, q⟩ := h
  obtain ⟨t', rfl⟩ : ∃ t, u = .int j t := ry
  rcases hx with rfl | ⟨b, rfl, rfl⟩
  · obtain ⟨t, rfl⟩ : ∃ t, v = .int i t := rx
    exact sub_int ⟨.int (i - j), H, I.tok _, ⟨_, rfl⟩, q⟩
  · obtain rfl : v = .bool b := rx
    exact PySem.IntBool.sub_bool_int ⟨.int _, H, I.tok _, ⟨_, rfl⟩, q⟩
theorem un_negN : UnR X (unaryOp .USub) (fun x H Q => ∃ i, numI x i ∧ Q (.int (-i)) H) := by
  intro pins s σ H x v Q I rx h
  obtain ⟨i, hx, q⟩ := h
  rcases hx with rfl | ⟨b, rfl, rfl⟩
  · obtain ⟨t, rfl⟩ : ∃ t, v = .int i t := rx
    exact neg_int ⟨.int (-i), H, I.tok _, ⟨_, rfl⟩, q⟩
  · obtain rfl : v = .bool b := rx
    have g : Gives (Builtin.«int.__neg__» ⟨[.bool b], []⟩) (.int (-(if b = true then (1 : Int) else 0))) := by cases b <;> exact .of_eq rfl
    exact unaryOp_gives (op := .USub) (typeIs_bool' s b) rfl F.slot_bool_neg F.entry_int_neg (F.args_int_neg_1 _) g ⟨.int _, H, I.tok _, ⟨_, rfl⟩, q⟩
theorem op_eqN (hu : X.A.units + 64 < cLine) : OpR X (compareOp .Eq) (fun x y H Q => ∃ i j, numI x i ∧ y = .int j ∧ Q (.bl (decide (i = j))) H) := by
  intro pins s σ H x y v u Q I rx ry h
  obtain ⟨i, j, hx, rfl, q⟩ := h
  obtain ⟨t', rfl⟩ : ∃ t, u = .int j t := ry
  rcases hx with rfl | ⟨b, rfl, rfl⟩
  · obtain ⟨t, rfl⟩ : ∃ t, v = .int i t := rx
    refine SeqAt.compareEq_shaped (Reads.int i t) (Reads.int j t') rfl rfl hu ⟨.bl (decide (i = j)), H, I, ?_, q⟩
    show Value.bool (i == j) = Value.bool (decide (i = j))
    by_cases e : i = j <;> simp [e]
  · obtain rfl : v = .bool b := rx
    refine SeqAt.compareEq_shaped (Reads.bool b) (Reads.int j t') rfl rfl hu ⟨.bl (decide ((if b = true then (1 : Int) else 0) = j)), H, I, ?_, q⟩
    show Value.bool (PyData.eqv (.bool b) (.int j)) = Value.bool (decide _)
    cases b <;> simp [PyData.eqv, eq_comm] <;> (rw [Bool.eq_iff_iff, beq_iff_eq, decide_eq_true_iff]; exact eq_comm)
theorem op_eqT0 (hu : X.A.units + 64 < cLine) : OpR X (compareOp .Eq) (fun x y H Q => ∃ a b xs, x = .ref a ∧ y = .ref b ∧ SqT X.K H a xs ∧ SqT X.K H b [] ∧ Q (.bl (decide (xs = []))) H) := by
  intro pins s σ H x y v u Q I rx ry h
  obtain ⟨a, b, xs, rfl, rfl, ha, hb, q⟩ := h
  obtain rfl : v = .ref a := rx
  obtain rfl : u = .ref b := ry
  obtain ⟨i1, r1, p1, _⟩ := I.tuple ha
  obtain ⟨i2, r2, p2, _⟩ := I.tuple hb
  cases r2
  refine SeqAt.eq_tupleAt (e := fun _ => true) p1 p2 (by omega) (fun j h1 h2 => absurd h2 (by simp)) ⟨.bl (decide (xs = [])), H, I, ?_, q⟩
  show Value.bool _ = Value.bool _
  congr 1
  have l1 := r1.length
  cases i1 with
  | nil =>
    have : xs = [] := List.length_eq_zero_iff.mp l1
    simp [this]
  | cons z zs =>
    have : xs ≠ [] := fun e => by rw [e] at l1; cases l1
    simp [this]
/-- t >= u of two pairs of numbers -/
def pGe (p q : Int × Int) : Bool := if p.1 = q.1 then decide (q.2 ≤ p.2) else decide (q.1 ≤ p.1)
theorem op_geP (hu : X.A.units < cLine) : OpR X (compareOp .GtE) (fun x y H Q => ∃ (a b : Addr) (p q : Int × Int), x = .ref a ∧ y = .ref b ∧ SqT X.K H a [.int p.1, .int p.2] ∧ SqT X.K H b [.int q.1, .int q.2] ∧ Q (.bl (pGe p q)) H) := by
  intro pins s σ H x y v u Q I rx ry h
  obtain ⟨a, b, p, q, rfl, rfl, ha, hb, k⟩ := h
  cases rx
  cases ry
  obtain ⟨its, r1, p1, _⟩ := I.tuple ha
  obtain ⟨its2, r2, p2, _⟩ := I.tuple hb
  obtain ⟨x1, x2, rfl, hx1, hx2⟩ := vals2 r1
  obtain ⟨y1, y2, rfl, hy1, hy2⟩ := vals2 r2
  obtain ⟨t1, rfl⟩ : ∃ t, x1 = .int p.1 t := hx1
  obtain ⟨t2, rfl⟩ : ∃ t, x2 = .int p.2 t := hx2
  obtain ⟨t3, rfl⟩ : ∃ t, y1 = .int q.1 t := hy1
  obtain ⟨t4, rfl⟩ : ∃ t, y2 = .int q.2 t := hy2
  let ns := [p.1, p.2]
  let ms := [q.1, q.2]
  have R := Ob.RcOp.tuples_ge (A := X.A) (s := s) (e := fun j => ns.getD j 0 == ms.getD j 0) (r := fun j => decide (ms.getD j 0 ≤ ns.getD j 0)) p1 p2 hu (fun j h1 h2 => by
    match j, h1 with
    | 0, _ => exact SeqAt.EqAt.int_int _ _ _ _
    | 1, _ => exact SeqAt.EqAt.int_int _ _ _ _) (fun j h1 h2 _ => by
    match j, h1 with
    | 0, _ => exact Ob.RcOp.ge_int _ _ _ _
    | 1, _ => exact Ob.RcOp.ge_int _ _ _ _)
  have e : Ob.lexAt (fun j => ns.getD j 0 == ms.getD j 0) (fun j => decide (ms.getD j 0 ≤ ns.getD j 0)) (decide (2 ≥ 2)) 0 2 = pGe p q := by
    show (if (p.1 == q.1) = true then (if (p.2 == q.2) = true then _ else decide (q.2 ≤ p.2)) else decide (q.1 ≤ p.1)) = _
    unfold pGe
    by_cases e1 : p.1 = q.1
    · rw [if_pos (beq_iff_eq.mpr e1), if_pos e1]
      by_cases e2 : p.2 = q.2
      · rw [if_pos (beq_iff_eq.mpr e2), e2]
        simp [Ob.lexAt]
      · rw [if_neg (fun z => e2 (beq_iff_eq.mp z))]
    · rw [if_neg (fun z => e1 (beq_iff_eq.mp z)), if_neg e1]
  have z : wpAny (model X.prog X.w) X.A (compareOp .GtE (.ref a) (.ref b)) (EP X pins σ Q) X.xe s := R X.prog X.w X.xe (EP X pins σ Q) ⟨.bl (pGe p q), H, I, by
    show Value.bool (Ob.lexAt _ _ _ 0 _) = Value.bool _
    exact congrArg _ e, k⟩
  exact z
theorem op_eqT0K {K : PySem.W.Frag} (hK : X.K = K) (hu : X.A.units + 64 < cLine) : OpR X (compareOp .Eq) (fun x y H Q => ∃ a b xs, x = .ref a ∧ y = .ref b ∧ SqT K H a xs ∧ SqT K H b [] ∧ Q (.bl (decide (xs = []))) H) := hK ▸ op_eqT0 hu
theorem op_gePK {K : PySem.W.Frag} (hK : X.K = K) (hu : X.A.units < cLine) : OpR X (compareOp .GtE) (fun x y H Q => ∃ (a b : Addr) (p q : Int × Int), x = .ref a ∧ y = .ref b ∧ SqT K H a [.int p.1, .int p.2] ∧ SqT K H b [.int q.1, .int q.2] ∧ Q (.bl (pGe p q)) H) := hK ▸ op_geP hu
end
end L2

namespace Wn
open PySem PySem.Spec PyProof.Rows L2
/-- enumerate of a text: each sign in a new pair -/
def ItsE (x : Str) : It :=
  ⟨fun i _ => i < x.cps.size, fun i H v H' => ∃ T c, v = .ref T ∧ H T = none ∧ H' = upd H T (.tup [.int (i : Nat), .str ⟨#[c]⟩]) ∧ x.cps[i]? = some c, fun i _ => x.cps.size ≤ i⟩
theorem turn_enumS {P : Program} {w : World} {K : PySem.W.Frag} {elts : List Expr} {kk : Nat} {tpos : Pos} (e it : Addr) (x : Str) (t : Tok) (ty : String) (hty : ty = "str_ascii_iterator" ∨ ty = "str_iterator") :
    Turn P w K (.Tuple elts kk tpos) (ItsE x) [e, it] e (fun i h => (∃ old, IsEnum h e it ((i : Nat) : Int) old) ∧ h.IsStrIter it ty x t i ∧ e ≠ it) where
  mem := by simp
  obj := fun i h st b hb => by
    obtain ⟨⟨old, he⟩, ⟨o, ho, hc, hd⟩, _⟩ := st
    have e' : b = e ∨ b = it := by simpa using hb
    rcases e' with z | z
    · rw [z]; exact ⟨_, he, fun v q => nomatch q⟩
    · rw [z]; exact ⟨o, ho, fun v q => by rw [hd] at q; cases q⟩
  keep := fun i h h' st k => let ⟨⟨old, he⟩, ⟨o, ho, r⟩, hne⟩ := st; ⟨⟨old, k e (by simp) _ he⟩, ⟨o, k it (by simp) o ho, r⟩, hne⟩
  item := by
    intro X hP hw hK hc i pins s σ H E I hf st hg
    subst hP hw hK
    obtain ⟨⟨old, he⟩, hit, hne⟩ := st
    have hh : X.A.in1.handled = none := I.ok.hd hc
    have hel : e < s.heap.objs.size := Heap.lt_size he
    have hil : it < s.heap.objs.size := by obtain ⟨_, q, _⟩ := hit; exact Heap.lt_size q
    have D : Draws X.prog X.w X.A.in1 it [it] x.cps.size (fun i v => ∃ c u, x.cps[i]? = some c ∧ v = .str ⟨#[c]⟩ u) (fun i h => h.IsStrIter it ty x t i) := by
      rcases hty with z | z
      · rw [z]; exact Draws.strAscii hh it x t
      · rw [z]; exact Draws.strWide hh it x t
    refine wpAny_pyNext_enum_itemD D he hit hg hne (by simpa using hne) fun v h' tk hv ho hit' hT hsz hk => ?_
    obtain ⟨c, u, hcx, rfl⟩ := hv
    refine ⟨_, rfl, wpAny_letOwnedTupleGo_enum (s := { s with heap := h', toks := tk + 1 }) ho fun h'' he' sb => ?_⟩
    have hT2 : h''.get? s.heap.objs.size = some { cls := .type "tuple", data := .seq #[.int i tk, .str ⟨#[c]⟩ u] } := (sb.2 _ (Nat.ne_of_gt hel)).trans hT
    have new : ObjOk X.prog X.w (upd H s.heap.objs.size (.tup [.int (i : Nat), .str ⟨#[c]⟩])) h'' s.heap.objs.size (.tup [.int (i : Nat), .str ⟨#[c]⟩]) :=
      ⟨by show 2 ≤ sizeLine; decide, [.int i tk, .str ⟨#[c]⟩ u], .cons ⟨_, rfl⟩ (.cons ⟨_, rfl⟩ .nil), ⟨_, hT2, rfl, _, rfl⟩⟩
    have I1 : Inv X pins σ (upd H s.heap.objs.size (.tup [.int (i : Nat), .str ⟨#[c]⟩])) { s with heap := h'', toks := tk + 1 } :=
      I.turnedNew (ch := [e, it]) (fun b ob hb q => (sb.2 b (fun z => hb (by simp [z]))).trans (hk b ob (fun z => hb (by simp [z])) (fun z => hb (by simp [z])) q)) hf (Nat.le_refl _) new
    refine ⟨.ref s.heap.objs.size, _, I1, rfl, ⟨_, c, rfl, I.hok.fresh (Nat.le_refl _), rfl, hcx⟩, ⟨⟨.str ⟨#[c]⟩ u, ?_⟩, ?_, hne⟩, fun b hb => ?_⟩
    · have e1 : ((i + 1 : Nat) : Int) = (i : Int) + 1 := by omega
      rw [e1]; exact he'
    · obtain ⟨o, q, r⟩ := hit'
      exact ⟨o, (sb.2 it (Ne.symm hne)).trans q, r⟩
    · have hb' : b < s.heap.objs.size := by
        have e' : b = e ∨ b = it := by simpa using hb
        rcases e' with z | z
        · rw [z]; exact hel
        · rw [z]; exact hil
      rw [upd_ne (Nat.ne_of_lt hb')]
      exact (hf b hb).1
  done := by
    intro X hP hw hK hc i pins s σ H E I hf st hg
    subst hP hw hK
    obtain ⟨⟨old, he⟩, hit, hne⟩ := st
    have hh : X.A.in1.handled = none := I.ok.hd hc
    obtain ⟨f0, f1, f2, f3, f4, f5⟩ := hf it (by simp)
    have D : Draws X.prog X.w X.A.in1 it [it] i (fun i v => False) (fun j h => j = i ∧ h.IsStrIter it ty x t i) := by
      refine ⟨fun _ _ st => let ⟨o, ho, _⟩ := st.2; ⟨o, ho⟩, fun _ _ _ st hk => let ⟨o, ho, r⟩ := st.2; ⟨st.1, o, hk it (by simp) o ho, r⟩, fun j s Q E hj st => absurd st.1 (Nat.ne_of_lt hj), fun s Q E st hE => ?_⟩
      have hx : x.cps[i]? = none := Array.getElem?_eq_none hg
      have st2 := st.2
      rcases hty with z | z
      · rw [z] at st2; exact wpAny_nextOf_ascii_end hh st2 hx hE
      · rw [z] at st2; exact wpAny_nextOf_wide_end hh st2 hx hE
    exact wpAny_pyNext_enum_endD D he ⟨rfl, hit⟩ fun h' eb => ⟨rfl, I.turned (t' := s.toks) (fun b o hb q => eb b o hb q) f0 f1 f3 f4 f5⟩
  self := fun A i s Q E st h => let ⟨⟨_, he⟩, _⟩ := st; wpAny_pyIter_enum he h
def iEnumS (ta : TA) : TI := fun σ H R => ta σ H fun vs H1 => ∃ x, vs = [.str x] ∧ R (ItsE x) H1
theorem pi_enumS {X : Cx} {e : Expr} {ta : TA} {p pos tpos : Pos} {elts : List Expr} {kk : Nat} (hg : Gl X "enumerate") (hm : X.mg "enumerate" = none) (ha : PA X [e] ta) (hs : starEach [e] X.env = [(false, eval e X.env)] := by rfl) :
    PI X (.Tuple elts kk tpos) (.Call (.Name "enumerate" p) [e] [] pos) (iEnumS ta) := by
  refine ⟨fun pins s σ H R I h => ?_⟩
  refine Call_ (ld_blt I hg hm boot_enumerate (PyProof.Rows.callWith_type1 (thn (ha.run pos pins s σ H _ I h) fun us s1 ⟨vs, H1, I1, r1, q1⟩ => ?_) hs rfl))
  obtain ⟨x, ex, q⟩ := q1
  subst ex
  cases r1 with
  | cons r rr =>
    cases rr
    obtain ⟨t, rfl⟩ := r
    refine call_enumerate_str fun h' he hit hsz hk => wpAny_pyIter_enum he ?_
    have I2 : Inv X pins σ H1 { s1 with heap := h' } := I1.kept (t' := s1.toks) hk
    refine ⟨s1.heap.objs.size + 1, [s1.heap.objs.size + 1, s1.heap.objs.size], _, _, H1, rfl, I2, turn_enumS (s1.heap.objs.size + 1) s1.heap.objs.size x t (strIterType x) ?_, ⟨⟨.none, he⟩, hit, Nat.succ_ne_self _⟩, fun b hb => ?_, q⟩
    · unfold strIterType
      split
      · exact .inl rfl
      · exact .inr rfl
    have e' : b = s1.heap.objs.size + 1 ∨ b = s1.heap.objs.size := by simpa using hb
    have hle : s1.heap.objs.size ≤ b := by
      rcases e' with z | z
      · rw [z]; exact Nat.le_add_right _ _
      · rw [z]; exact Nat.le_refl _
    exact I1.fpOk hle (I1.hok.fresh hle)
theorem walk_enumS {x : Str} : Walk (ItsE x) x.cps.size (fun _ => True) (fun i H v H' => ∃ T c, v = .ref T ∧ H T = none ∧ H' = upd H T (.tup [.int (i : Nat), .str ⟨#[c]⟩]) ∧ x.cps[i]? = some c) :=
  ⟨fun _ _ hi _ => hi, fun _ _ => Nat.le_refl _, fun _ _ _ _ _ _ y => y⟩
end Wn

namespace Wn
open PySem PySem.Spec PyProof.Rows L2
section
open AutoSeq1 (wpAny_loadPart')
theorem drawsTuple {prog : Program} {w : World} {A : Around} (hh : A.handled = none) (it l : Addr) (hne : l ≠ it) (items : Array Value) :
    Draws prog w A it [it, l] items.size (fun i v => items[i]? = some v) (fun i h => h.IsTupleIter it l i ∧ h.IsTuple l items) where
  live := fun _ _ st => let ⟨o, ho, _⟩ := st.1; ⟨o, ho⟩
  frame := fun _ _ _ st hk => ⟨st.1.at fun o e => hk it (by simp) o e, let ⟨o, ho, r⟩ := st.2; ⟨o, hk l (by simp) o ho, r⟩⟩
  item := fun i s Q E hi st hQ => by
    refine RZ.nextOf_tuple_item st.1 st.2 (x := items[i]) (by simp [hi]) fun h' hit' hs' => ?_
    exact hQ _ h' s.toks (by simp [hi]) ⟨hit', let ⟨o, ho, r⟩ := st.2; ⟨o, (hs'.2 l hne).trans ho, r⟩⟩ hs'
  done := fun s Q E st hE => RZ.nextOf_tuple_end hh st.1 st.2 (by simp) hE
theorem meets_enumerate_newT (l : Addr) (items : Array Value) (n : Nat) (dct : Option Addr) (sl : Array (Option Value)) :
    Meets (Builtin.«enumerate.__new__» ⟨[.type "enumerate", .ref l], []⟩) (fun _ R s => s.heap.get? l = some { cls := .type "tuple", dict := dct, data := .seq items n, slots := sl } ∧
      R (.ok (.ret (.ref (s.heap.push { cls := .type "tuple_iterator", data := .fields #[.ref l, .int 0 0] }).objs.size)))
        { s with heap := (s.heap.push { cls := .type "tuple_iterator", data := .fields #[.ref l, .int 0 0] }).push { cls := .type "enumerate", data := .fields #[.none, .bool false, .ref s.heap.objs.size, rawInt 0, .none, .none] } }) :=
  .of_wp fun prog w A R s h => by
    obtain ⟨hp, g, d, tk, os⟩ := s; obtain ⟨hl, h⟩ := h
    have hsub := sub_enumerate
    have hL : Heap.IsTuple (Shared.heap ⟨hp, g, d, tk, os⟩) l items := ⟨_, hl, rfl, n, rfl⟩
    wp_walk using wpAny_loadPart' hl
    refine wpAny_stack_any fun st => wpAny_pure ?_
    split
    · rename_i c _ _ _ _ _
      cases (c == Value.type "enumerate")
      · wp_walk using wpAny_loadPart' hl, wpAny_pyIter_tuple hL
        exact ⟨_, rfl, h⟩
      · wp_walk using wpAny_loadPart' hl, wpAny_pyIter_tuple hL
        exact ⟨_, rfl, h⟩
    · wp_walk using wpAny_loadPart' hl, wpAny_pyIter_tuple hL
      exact ⟨_, rfl, h⟩
theorem call_enumerate_tuple {prog : Program} {w : World} {A : Around} {E : Value → Shared → Prop} {s : Shared} {l : Addr} {items : Array Value} {Q : Value → Shared → Prop} (hL : s.heap.IsTuple l items)
    (h : ∀ h', IsEnum h' (s.heap.objs.size + 1) s.heap.objs.size 0 .none → h'.IsTupleIter s.heap.objs.size l 0 → h'.objs.size = s.heap.objs.size + 2 →
      (∀ b o, s.heap.get? b = some o → h'.get? b = some o) → Q (.ref (s.heap.objs.size + 1)) { s with heap := h' }) :
    wpAny (model prog w) A (call (.type "enumerate") [.ref l]) Q E s := by
  obtain ⟨⟨c, dct, dt, sl⟩, hl, hc, n, hd⟩ := hL
  replace hc : c = .type "tuple" := hc
  replace hd : dt = .seq items n := hd
  subst hc hd
  refine callType_new F.called_enumerate (by decide) (F.typeCall_enumerate_1 _) (F.newCall_enumerate_1 _) (fun obj => F.args_object_init_2 obj _) F.entry_enumerate_new
    (meets_enumerate_newT l items n dct sl) ⟨hl, ?_⟩
  have hz : (s.heap.push { cls := .type "tuple_iterator", data := .fields #[.ref l, .int 0 0] }).objs.size = s.heap.objs.size + 1 := Heap.size_push ..
  show _ ∧ _
  rw [hz]
  have he : IsEnum ((s.heap.push { cls := .type "tuple_iterator", data := .fields #[.ref l, .int 0 0] }).push
      { cls := .type "enumerate", data := .fields #[.none, .bool false, .ref s.heap.objs.size, rawInt 0, .none, .none] }) (s.heap.objs.size + 1) s.heap.objs.size 0 .none := by
    have := Heap.get?_push_size (s.heap.push { cls := .type "tuple_iterator", data := .fields #[.ref l, .int 0 0] })
      (o := { cls := .type "enumerate", data := .fields #[.none, .bool false, .ref s.heap.objs.size, rawInt 0, .none, .none] }) rfl
    rw [hz] at this; exact this
  refine ⟨⟨_, he, rfl⟩, h _ he ⟨_, Heap.get?_push_of_some _ (Heap.get?_push_size _ rfl), rfl, rfl⟩ (by rw [Heap.size_push, hz]) fun b o x => Heap.get?_push_of_some _ (Heap.get?_push_of_some _ x)⟩
end
/-- enumerate of a tuple: each item in a new pair -/
def IttE (K : PySem.W.Frag) (a : Addr) : It :=
  ⟨fun i H => ∃ (xs : List V) (x : V), SqT K H a xs ∧ xs[i]? = some x, fun i H v H' => ∃ T x, v = .ref T ∧ H T = none ∧ H' = upd H T (.tup [.int (i : Nat), x]) ∧ ∀ xs, SqT K H a xs → xs[i]? = some x, fun i H => ∃ xs : List V, SqT K H a xs ∧ xs.length ≤ i⟩
theorem turn_enumT {P : Program} {w : World} {K : PySem.W.Frag} {elts : List Expr} {kk : Nat} {tpos : Pos} (a e it : Addr) :
    Turn P w K (.Tuple elts kk tpos) (IttE K a) [e, it] e (fun i h => (∃ old, IsEnum h e it ((i : Nat) : Int) old) ∧ h.IsTupleIter it a i ∧ e ≠ it) where
  mem := by simp
  obj := fun i h st b hb => by
    obtain ⟨⟨old, he⟩, ⟨o, ho, hc, hd⟩, _⟩ := st
    have e' : b = e ∨ b = it := by simpa using hb
    rcases e' with z | z
    · rw [z]; exact ⟨_, he, fun v q => nomatch q⟩
    · rw [z]; exact ⟨o, ho, fun v q => by rw [hd] at q; cases q⟩
  keep := fun i h h' st k => let ⟨⟨old, he⟩, hi, hne⟩ := st; ⟨⟨old, k e (by simp) _ he⟩, hi.at fun o q => k it (by simp) o q, hne⟩
  item := by
    intro X hP hw hK hc i pins s σ H E I hf st hg
    subst hP hw hK
    obtain ⟨⟨old, he⟩, hit, hne⟩ := st
    obtain ⟨xs, x, hq, hx⟩ := hg
    obtain ⟨its, rv, p, hz⟩ := I.tuple hq
    obtain ⟨u, hu, ru⟩ := rv.get hx
    have hh : X.A.in1.handled = none := I.ok.hd hc
    have hel : e < s.heap.objs.size := Heap.lt_size he
    have hil : it < s.heap.objs.size := by obtain ⟨_, q, _⟩ := hit; exact Heap.lt_size q
    have p' : s.heap.IsTuple a its.toArray := p
    have hai : a ≠ it := fun z => by
      obtain ⟨o, ho, hc1, _⟩ := hit
      obtain ⟨o2, ho2, hc2, _⟩ := p'
      rw [z, ho] at ho2
      cases ho2
      rw [hc1] at hc2
      exact absurd hc2 (by decide)
    have hae : a ≠ e := fun z => by
      have he' : s.heap.get? e = _ := he
      obtain ⟨o2, ho2, hc2, _⟩ := p'
      rw [z, he'] at ho2
      cases ho2
      have hc3 : Value.type "enumerate" = Value.type "tuple" := hc2
      exact absurd hc3 (by decide)
    have D := drawsTuple (prog := X.prog) (w := X.w) (A := X.A.in1) hh it a hai its.toArray
    refine wpAny_pyNext_enum_itemD D he ⟨hit, p'⟩ (by have := (List.getElem?_eq_some_iff.mp hu).1; simpa using this) hne (by simp [hne, Ne.symm hae]) fun v h' tk hv ho hit' hT hsz hk => ?_
    obtain rfl : v = u := by
      have hv : its.toArray[i]? = some v := hv
      rw [List.getElem?_toArray, hu] at hv
      exact (Option.some.inj hv).symm
    refine ⟨_, rfl, wpAny_letOwnedTupleGo_enum (s := { s with heap := h', toks := tk + 1 }) ho fun h'' he' sb => ?_⟩
    have hT2 : h''.get? s.heap.objs.size = some { cls := .type "tuple", data := .seq #[.int i tk, v] } := (sb.2 _ (Nat.ne_of_gt hel)).trans hT
    have new : ObjOk X.prog X.w (upd H s.heap.objs.size (.tup [.int (i : Nat), x])) h'' s.heap.objs.size (.tup [.int (i : Nat), x]) :=
      ⟨by show 2 ≤ sizeLine; decide, [.int i tk, v], .cons ⟨_, rfl⟩ (.cons ru .nil), ⟨_, hT2, rfl, _, rfl⟩⟩
    have I1 : Inv X pins σ (upd H s.heap.objs.size (.tup [.int (i : Nat), x])) { s with heap := h'', toks := tk + 1 } :=
      I.turnedNew (ch := [e, it]) (fun b ob hb q => (sb.2 b (fun z => hb (by simp [z]))).trans (hk b ob (fun z => hb (by simp [z])) (fun z => hb (by simp [z])) q)) hf (Nat.le_refl _) new
    refine ⟨.ref s.heap.objs.size, _, I1, rfl, ⟨_, x, rfl, I.hok.fresh (Nat.le_refl _), rfl, fun ys hy => by rw [I.tuple_inj hy hq]; exact hx⟩, ⟨⟨v, ?_⟩, hit'.1.at fun o q => (sb.2 it (Ne.symm hne)).trans q, hne⟩, fun b hb => ?_⟩
    · have e1 : ((i + 1 : Nat) : Int) = (i : Int) + 1 := by omega
      rw [e1]; exact he'
    · have hb' : b < s.heap.objs.size := by
        have e' : b = e ∨ b = it := by simpa using hb
        rcases e' with z | z
        · rw [z]; exact hel
        · rw [z]; exact hil
      rw [upd_ne (Nat.ne_of_lt hb')]
      exact (hf b hb).1
  done := by
    intro X hP hw hK hc i pins s σ H E I hf st hg
    subst hP hw hK
    obtain ⟨⟨old, he⟩, hit, hne⟩ := st
    obtain ⟨xs, hq, hx⟩ := hg
    obtain ⟨its, rv, p, hz⟩ := I.tuple hq
    have hh : X.A.in1.handled = none := I.ok.hd hc
    obtain ⟨f0, f1, f2, f3, f4, f5⟩ := hf it (by simp)
    have hl := rv.length
    have p' : s.heap.IsTuple a its.toArray := p
    have D : Draws X.prog X.w X.A.in1 it [it, a] i (fun i v => False) (fun j h => j = i ∧ h.IsTupleIter it a i ∧ h.IsTuple a its.toArray) := by
      refine ⟨fun _ _ st => let ⟨o, ho, _⟩ := st.2.1; ⟨o, ho⟩, fun _ _ _ st hk => ⟨st.1, st.2.1.at fun o e => hk it (by simp) o e, let ⟨o, ho, r⟩ := st.2.2; ⟨o, hk a (by simp) o ho, r⟩⟩, fun j s Q E hj st => absurd st.1 (Nat.ne_of_lt hj), fun s Q E st hE => ?_⟩
      exact RZ.nextOf_tuple_end hh st.2.1 st.2.2 (by simp; omega) hE
    exact wpAny_pyNext_enum_endD D he ⟨rfl, hit, p'⟩ fun h' eb => ⟨rfl, I.turned (t' := s.toks) (fun b o hb q => eb b o hb q) f0 f1 f3 f4 f5⟩
  self := fun A i s Q E st h => let ⟨⟨_, he⟩, _⟩ := st; wpAny_pyIter_enum he h
def iEnumT (K : PySem.W.Frag) (ta : TA) : TI := fun σ H R => ta σ H fun vs H1 => ∃ a xs, vs = [.ref a] ∧ SqT K H1 a xs ∧ R (IttE K a) H1
theorem pi_enumT {X : Cx} {e : Expr} {ta : TA} {p pos tpos : Pos} {elts : List Expr} {kk : Nat} (hg : Gl X "enumerate") (hm : X.mg "enumerate" = none) (ha : PA X [e] ta) (hs : starEach [e] X.env = [(false, eval e X.env)] := by rfl) :
    PI X (.Tuple elts kk tpos) (.Call (.Name "enumerate" p) [e] [] pos) (iEnumT X.K ta) := by
  refine ⟨fun pins s σ H R I h => ?_⟩
  refine Call_ (ld_blt I hg hm boot_enumerate (PyProof.Rows.callWith_type1 (thn (ha.run pos pins s σ H _ I h) fun us s1 ⟨vs, H1, I1, r1, q1⟩ => ?_) hs rfl))
  obtain ⟨a, xs, ex, hq, q⟩ := q1
  subst ex
  cases r1 with
  | cons r rr =>
    cases rr
    cases r
    obtain ⟨its, rv, p', hz⟩ := I1.tuple hq
    refine call_enumerate_tuple p' fun h' he hit hsz hk => wpAny_pyIter_enum he ?_
    have I2 : Inv X pins σ H1 { s1 with heap := h' } := I1.kept (t' := s1.toks) hk
    refine ⟨s1.heap.objs.size + 1, [s1.heap.objs.size + 1, s1.heap.objs.size], _, _, H1, rfl, I2, turn_enumT a (s1.heap.objs.size + 1) s1.heap.objs.size, ⟨⟨.none, he⟩, hit, Nat.succ_ne_self _⟩, fun b hb => ?_, q⟩
    have e' : b = s1.heap.objs.size + 1 ∨ b = s1.heap.objs.size := by simpa using hb
    have hle : s1.heap.objs.size ≤ b := by
      rcases e' with z | z
      · rw [z]; exact Nat.le_add_right _ _
      · rw [z]; exact Nat.le_refl _
    exact I1.fpOk hle (I1.hok.fresh hle)
theorem walk_enumT {K : PySem.W.Frag} {a : Addr} {xs : List V} : Walk (IttE K a) xs.length (fun H => SqT K H a xs) (fun i H v H' => ∃ T x, v = .ref T ∧ H T = none ∧ H' = upd H T (.tup [.int (i : Nat), x]) ∧ xs[i]? = some x) :=
  ⟨fun i H hi g => ⟨xs, xs[i], g, List.getElem?_eq_getElem hi⟩, fun H g => ⟨xs, g, Nat.le_refl _⟩, fun i H v H' hi g y => by
    obtain ⟨T, x, e1, e2, e3, e4⟩ := y
    exact ⟨T, x, e1, e2, e3, e4 xs g⟩⟩
/-- str of a number or a text -/
theorem call_strU {X : Cx} : CallR X (.type "str") (fun xs H Q => (∃ i : Int, xs = [.int i] ∧ i.natAbs.log2 < 1920 ∧ Q (.str (toString i)) H) ∨ ∃ a, xs = [.str a] ∧ Q (.str a) H) := by
  intro pins s σ H xs us Q I r h
  rcases h with h | h
  · exact call_str_int pins s σ H xs us Q I r h
  · exact SkE.call_str_str pins s σ H xs us Q I r h
/-- a text no times or once -/
theorem op_rep_str {X : Cx} : OpR X (binaryOp .Mult) (fun x y H Q => ∃ (a : Str) (k : Int), x = .str a ∧ y = .int k ∧ ((k = 0 ∧ Q (.str Str.empty) H) ∨ (k = 1 ∧ Q (.str a) H))) := by
  intro pins s σ H x y v u Q I rx ry h
  obtain ⟨a, k, rfl, rfl, h⟩ := h
  obtain ⟨t, rfl⟩ := rx
  obtain ⟨t', rfl⟩ := ry
  rcases h with ⟨rfl, q⟩ | ⟨rfl, q⟩
  · exact PySem.P.mul_str_none (by decide) (by decide) ⟨.str Str.empty, H, I.tok _, ⟨_, rfl⟩, q⟩
  · refine PySem.P.mul_str (by decide) (fun _ h => absurd h (by simp)) (fun _ h => absurd h (by simp)) ?_
    rw [if_neg (by decide), if_pos (by simp)]
    exact ⟨.str a, H, I, ⟨_, rfl⟩, q⟩
end Wn

namespace Wn
open PySem L2
/-! ### == of data without truths is sameness -/
mutual
def nob : PyData → Bool
  | .none | .int _ | .str _ => true
  | .bool _ | .dict _ => false
  | .list xs | .tuple xs => nobs xs
def nobs : List PyData → Bool
  | [] => true
  | x :: xs => nob x && nobs xs
end
mutual
theorem eqv_nob : ∀ (d e : PyData), nob d = true → nob e = true → (PyData.eqv d e = true ↔ d = e)
  | .none, .none, _, _ => ⟨fun _ => rfl, fun _ => rfl⟩
  | .int i, .int j, _, _ => by
    show (i == j) = true ↔ _
    rw [beq_iff_eq, PyData.int.injEq]
  | .str i, .str j, _, _ => by
    show (i == j) = true ↔ _
    rw [beq_iff_eq, PyData.str.injEq]
  | .list xs, .list ys, h1, h2 => by
    show PyData.eqvAll xs ys = true ↔ _
    rw [eqv_nobs xs ys h1 h2, PyData.list.injEq]
  | .tuple xs, .tuple ys, h1, h2 => by
    show PyData.eqvAll xs ys = true ↔ _
    rw [eqv_nobs xs ys h1 h2, PyData.tuple.injEq]
  | .bool _, _, h, _ => by cases h
  | .dict _, _, h, _ => by cases h
  | .none, .bool _, _, h | .int _, .bool _, _, h | .str _, .bool _, _, h | .list _, .bool _, _, h | .tuple _, .bool _, _, h => by cases h
  | .none, .dict _, _, h | .int _, .dict _, _, h | .str _, .dict _, _, h | .list _, .dict _, _, h | .tuple _, .dict _, _, h => by cases h
  | .none, .int _, _, _ | .none, .str _, _, _ | .none, .list _, _, _ | .none, .tuple _, _, _ => ⟨(fun h => by cases h), (fun h => by cases h)⟩
  | .int _, .none, _, _ | .int _, .str _, _, _ | .int _, .list _, _, _ | .int _, .tuple _, _, _ => ⟨(fun h => by cases h), (fun h => by cases h)⟩
  | .str _, .none, _, _ | .str _, .int _, _, _ | .str _, .list _, _, _ | .str _, .tuple _, _, _ => ⟨(fun h => by cases h), (fun h => by cases h)⟩
  | .list _, .none, _, _ | .list _, .int _, _, _ | .list _, .str _, _, _ | .list _, .tuple _, _, _ => ⟨(fun h => by cases h), (fun h => by cases h)⟩
  | .tuple _, .none, _, _ | .tuple _, .int _, _, _ | .tuple _, .str _, _, _ | .tuple _, .list _, _, _ => ⟨(fun h => by cases h), (fun h => by cases h)⟩
theorem eqv_nobs : ∀ (ds es : List PyData), nobs ds = true → nobs es = true → (PyData.eqvAll ds es = true ↔ ds = es)
  | [], [], _, _ => ⟨fun _ => rfl, fun _ => rfl⟩
  | d :: ds, e :: es, h1, h2 => by
    unfold nobs at h1 h2
    rw [Bool.and_eq_true] at h1 h2
    show (PyData.eqv d e && PyData.eqvAll ds es) = true ↔ _
    rw [Bool.and_eq_true, eqv_nob d e h1.1 h2.1, eqv_nobs ds es h1.2 h2.2, List.cons.injEq]
  | [], _ :: _, _, _ => ⟨(fun h => by cases h), (fun h => by cases h)⟩
  | _ :: _, [], _, _ => ⟨(fun h => by cases h), (fun h => by cases h)⟩
end
theorem nobs_of : ∀ {ds : List PyData}, (∀ d ∈ ds, nob d = true) → nobs ds = true
  | [], _ => rfl
  | d :: ds, h => by
    show (nob d && nobs ds) = true
    rw [h d List.mem_cons_self, nobs_of fun x hx => h x (List.mem_cons_of_mem _ hx)]
    rfl
theorem nobs_map {α : Type} {f : α → PyData} {l : List α} (h : ∀ x, nob (f x) = true) : nobs (l.map f) = true := nobs_of fun d hd => by
  obtain ⟨x, _, rfl⟩ := List.mem_map.mp hd
  exact h x
theorem lay_of : ∀ {ds : List PyData}, (∀ d ∈ ds, d.canLay0 = true) → PyData.canLayAll0 ds = true
  | [], _ => rfl
  | d :: ds, h => by
    show (PyData.canLay0 d && PyData.canLayAll0 ds) = true
    rw [h d List.mem_cons_self, lay_of fun x hx => h x (List.mem_cons_of_mem _ hx)]
    rfl
theorem dep_of {B : Nat} : ∀ {ds : List PyData}, (∀ d ∈ ds, d.depth ≤ B) → PyData.depthAll ds ≤ B
  | [], _ => Nat.zero_le _
  | d :: ds, h => by
    have h1 := h d List.mem_cons_self
    have h2 := dep_of fun x hx => h x (List.mem_cons_of_mem _ hx)
    unfold PyData.depthAll
    omega
/-- shaped, by parts: layable, not deeper than n -/
def Shp (n : Nat) (d : PyData) : Prop := d.canLay0 = true ∧ d.depth ≤ n
theorem Shp.ok {n : Nat} {d : PyData} (h : Shp n d) (hn : n ≤ 64) : SeqAt.shaped d = true := by
  unfold SeqAt.shaped
  rw [h.1, decide_eq_true (Nat.le_trans h.2 hn)]
  rfl
theorem Shp.int {n : Nat} {i : Int} : Shp n (.int i) := ⟨rfl, Nat.zero_le _⟩
theorem Shp.bool {n : Nat} {b : Bool} : Shp n (.bool b) := ⟨rfl, Nat.zero_le _⟩
theorem Shp.none {n : Nat} : Shp n .none := ⟨rfl, Nat.zero_le _⟩
theorem Shp.tup {n : Nat} {ds : List PyData} (h : ∀ d ∈ ds, Shp n d) : Shp (n + 1) (.tuple ds) := ⟨lay_of fun d hd => (h d hd).1, Nat.succ_le_succ (dep_of fun d hd => (h d hd).2)⟩
theorem Shp.lst {n : Nat} {ds : List PyData} (h : ∀ d ∈ ds, Shp n d) : Shp (n + 1) (.list ds) := ⟨lay_of fun d hd => (h d hd).1, Nat.succ_le_succ (dep_of fun d hd => (h d hd).2)⟩
theorem Shp.map {n : Nat} {α : Type} {f : α → PyData} {l : List α} (h : ∀ x, Shp n (f x)) : ∀ d ∈ l.map f, Shp n d := fun d hd => by
  obtain ⟨x, _, rfl⟩ := List.mem_map.mp hd
  exact h x
end Wn

namespace Wn
open PySem L2 PySem.Spec PyProof.Rows HT
/-! ### t[::-1], t[i::-1] of a tuple -/
def revLen (n : Nat) : Option Int → Nat
  | none => n
  | some v => ((if v < 0 then max (v + (n : Int)) (-1) else min v ((n : Int) - 1)) + 1).toNat
theorem revLen_le (n : Nat) (lo : Option Int) : revLen n lo ≤ n := by
  cases lo with
  | none => exact Nat.le_refl _
  | some v =>
    show ((if v < 0 then max (v + (n : Int)) (-1) else min v ((n : Int) - 1)) + 1).toNat ≤ n
    split <;> omega
theorem fm_congr {α β : Type} {f g : α → Option β} : ∀ {l : List α}, (∀ x ∈ l, f x = g x) → l.filterMap f = l.filterMap g
  | [], _ => rfl
  | x :: l, h => by
    rw [List.filterMap_cons, List.filterMap_cons, h x List.mem_cons_self, fm_congr fun y hy => h y (List.mem_cons_of_mem _ hy)]
section
variable {prog : Program} {w : World} {A : Around} {E : Value → Shared → Prop} {s : Shared}
theorem rev_adjust (lo : Option Int) (n : Nat) : Builtin.Slice.sliceAdjust lo none (-1) (n : Int) = (((revLen n lo : Nat) : Int) - 1, -1) := by
  have h1 : ((-1 : Int) < 0) := by omega
  unfold Builtin.Slice.sliceAdjust
  simp only [h1, if_true]
  refine Prod.ext ?_ rfl
  cases lo with
  | none => rfl
  | some v =>
    show (if v < 0 then max (v + (n : Int)) (-1) else min v ((n : Int) - 1)) = (((((if v < 0 then max (v + (n : Int)) (-1) else min v ((n : Int) - 1)) + 1).toNat : Nat) : Int)) - 1
    split <;> omega
theorem rev_places (k : Nat) : Builtin.Slice.slicePlaces ((k : Int) - 1) (-1) (-1) = k := by
  unfold Builtin.Slice.slicePlaces
  have h1 : ¬ ((-1 : Int) > 0) := by omega
  rw [if_neg h1, show (- -1 : Int) = 1 by decide]
  simp only [Int.ediv_one]
  split <;> omega
theorem rev_applied {sl : Addr} {vl vs : Value} {lo : Option Int} {n : Nat} {Q : Int × Int × Nat → Shared → Prop} (hs : s.heap.IsSliceOf sl vl .none vs) (pl : IsPart vl lo) (ps : IsPart vs (some (-1)))
    (h : Q (((revLen n lo : Nat) : Int) - 1, -1, revLen n lo) s) : wpAny (model prog w) A (Builtin.Slice.sliceApplied (.ref sl) (pure (n : Int))) Q E s := by
  obtain ⟨os, hos, hcs, hds⟩ := id hs
  unfold Builtin.Slice.sliceApplied Builtin.Slice.sliceFields
  refine wpAny_bind (wpAny_bind (wpAny_field hos hds (x := vl) rfl (wpAny_bind (wpAny_field hos hds (x := .none) rfl (wpAny_bind (wpAny_field hos hds (x := vs) rfl (wpAny_pure ?_)))))))
  refine wpAny_bind (slicePart_ ps ?_)
  show wpAny _ _ (if ((-1 : Int) == 0) = true then _ else _) _ _ s
  rw [if_neg (by decide)]
  refine wpAny_bind (slicePart_ pl (wpAny_bind (slicePart_ .none (wpAny_bind (wpAny_pure ?_)))))
  show wpAny _ _ (match Builtin.Slice.sliceAdjust lo none (-1) (n : Int) with | (lo, hi) => pure (lo, (-1 : Int), Builtin.Slice.slicePlaces lo hi (-1))) _ _ s
  rw [rev_adjust lo n]
  show wpAny _ _ (pure (((revLen n lo : Nat) : Int) - 1, (-1 : Int), Builtin.Slice.slicePlaces (((revLen n lo : Nat) : Int) - 1) (-1) (-1))) _ _ s
  rw [rev_places]
  exact wpAny_pure h
theorem rev_pick (xs : Array Value) (k : Nat) (hk : k ≤ xs.size) : ((List.range k).filterMap fun (m : Nat) => xs[(((k : Int) - 1) + (m : Int) * (-1)).toNat]?).toArray = (xs.toList.take k).reverse.toArray := by
  congr 1
  have e : (List.range k).filterMap (fun (m : Nat) => xs[(((k : Int) - 1) + (m : Int) * (-1)).toNat]?) = ((List.range k).map fun m => k - 1 - m).filterMap (xs[·]?) := by
    rw [List.filterMap_map]
    refine fm_congr fun m hm => ?_
    have hm := List.mem_range.mp hm
    show xs[_]? = xs[k - 1 - m]?
    congr 1
    omega
  rw [e, PySem.W.krv_range, List.filterMap_reverse]
  congr 1
  have := pick_run xs 0 k
  rw [List.filterMap_map] at this
  have e2 : ((fun x => xs[x]?) ∘ fun x => 0 + x) = fun m => xs[m]? := by
    funext m
    show xs[0 + m]? = xs[m]?
    rw [Nat.zero_add]
  rw [e2, List.drop_zero] at this
  exact this
theorem getItem_tuple_rev {t sl : Addr} {items : Array Value} {vl vs : Value} {lo : Option Int} {Q : Value → Shared → Prop} (ht : IsTup s.heap t items) (hs : s.heap.IsSliceOf sl vl .none vs) (pl : IsPart vl lo) (ps : IsPart vs (some (-1)))
    (h : Q (.ref s.heap.objs.size) { s with heap := s.heap.push { cls := .type "tuple", data := .seq (items.toList.take (revLen items.size lo)).reverse.toArray } })
    (hsz : items.size ≤ sizeLine) : wpAny (model prog w) A (getItem (.ref t) (.ref sl)) Q E s := by
  have hk := revLen_le items.size lo
  have htake : sizeOk (.seq (items.toList.take (revLen items.size lo)).reverse.toArray) := by
    show (items.toList.take (revLen items.size lo)).reverse.toArray.size ≤ sizeLine
    rw [List.size_toArray, List.length_reverse, List.length_take, Array.length_toList]
    omega
  obtain ⟨os, hos, hcs, hds⟩ := id hs
  have hTs : s.TypeIs (.ref sl) "slice" := ⟨os, hos, hcs⟩
  unfold getItem
  try with_reducible refine wpAny_holding ?_
  first | refine wpAny_bind (wpAny_pure ?_) | skip
  refine wpAny_bind (wpAny_sequenceKey ht.typeIs (by decide) ?_)
  refine wpAny_bind (wpAny_callSpecial?_slot (name := Str.ofString "__getitem__") ht.typeIs PyProof.Rows.slot_tuple_getitem
    (wpAny_call_entry PyProof.Rows.slot_tuple_getitem ht.typeIs entry_tuple_getitem ?_ (args_tuple_getitem _ _)))
  show wpAny _ _ (Builtin.Tuple.tupleItemsOf (.ref t) >>= _) _ _ s
  refine wpAny_bind (tupleItemsOf_ ht ?_)
  refine wpAny_bind (wpAny_typeOf hTs ?_)
  rw [if_pos (by decide)]
  refine wpAny_bind (rev_applied hs pl ps ?_)
  have hno : ¬ (((((revLen items.size lo : Nat) : Int) - 1) == 0 && (-1 : Int) == 1 && (revLen items.size lo) == items.size) = true) := by
    rw [show ((-1 : Int) == 1) = false by decide, Bool.and_false, Bool.false_and]
    exact Bool.false_ne_true
  show wpAny _ _ (if ((((revLen items.size lo : Nat) : Int) - 1) == 0 && (-1 : Int) == 1 && (revLen items.size lo) == items.size) = true then _ else _) _ _ s
  rw [if_neg hno, rev_pick _ _ hk]
  first
    | exact wpAny_bind (m := Builtin.Tuple.tupleExact _) (wpAny_newObj_type (wpAny_pure ⟨_, rfl, wpAny_pure h⟩) htake)
    | exact wpAny_bind (m := Builtin.Tuple.tupleExact _) (wpAny_newObj_type (wpAny_bind (wpAny_pure (wpAny_pure ⟨_, rfl, wpAny_pure h⟩))) htake)
    | exact wpAny_bind (wpAny_bind (m := Builtin.Tuple.tupleExact _) (wpAny_newObj_type (wpAny_pure (wpAny_pure ⟨_, rfl, wpAny_pure h⟩)) htake))
    | exact wpAny_bind (wpAny_bind (m := Builtin.Tuple.tupleExact _) (wpAny_newObj_type (wpAny_pure ⟨_, rfl, wpAny_pure h⟩) htake))
end
section
variable {X : Cx} {K : PySem.W.Frag}
def tRevT (K : PySem.W.Frag) (te : TE) (tl : TO) : TE := fun σ H Q => te σ H fun x H1 => tl σ H1 fun lo H2 => ∃ a xs, x = .ref a ∧ SqT K H2 a xs ∧ ∀ p, H2 p = none → Q (.ref p) (upd H2 p (.tup (xs.take (revLen xs.length lo)).reverse))
theorem pe_revT {e : Expr} {lo : Option Expr} {te : TE} {tl : TO} {k : Nat} {p1 p2 p3 pos : Pos} (hK : X.K = K) (he : PE X e te) (hl : PO X lo tl) : PE X (.Subscript e (.Slice lo none (some (.UnaryOp .USub (.Constant (.int 1) k p1) p2)) p3) pos) (tRevT K te tl) := by
  subst hK
  refine ⟨fun pins s σ H Q I h => ?_⟩
  refine Subscript_ (thn (he.run pins s σ H _ I h) fun v s1 ⟨x, H1, I1, r1, q1⟩ => ?_)
  have hst : PO X (some (.UnaryOp .USub (.Constant (.int 1) k p1) p2)) (tPart (tUn (rU fun i => .int (-i)) (tC (.int 1)))) := po_some (pe_un un_neg pe_int)
  refine wpAny_Slice (thn (hl.run pins s1 σ H1 _ I1 q1) fun vl s2 ⟨l, H2, I2, pl, q2⟩ => ?_)
  obtain ⟨a, xs, ex, hx, q⟩ := q2
  subst ex
  cases r1
  refine thn (po_none.run pins s2 σ H2 (fun o H3 => o = none ∧ H3 = H2) I2 ⟨rfl, rfl⟩) fun vu s3 ⟨u, H3, I3, pu, eu, e3⟩ => ?_
  subst eu e3
  refine thn (hst.run pins s3 σ H3 (fun o H4 => o = some (-1) ∧ H4 = H3) I3 ⟨1, rfl, -1, rfl, rfl, rfl⟩) fun vs s4 ⟨o, H4, I4, ps, eo, e4⟩ => ?_
  subst eo e4
  cases pu
  have I5 : Inv X pins σ H4 { s4 with heap := s4.heap.push { cls := .type "slice", data := .fields #[vl, .none, vs] } } := I4.kept (t' := s4.toks) fun b ob q => Heap.get?_push_of_some _ q
  obtain ⟨its, r, ht, hz⟩ := I5.tuple hx
  have hlen : its.toArray.size = xs.length := by rw [List.size_toArray]; exact r.length.symm
  show wpAny (model X.prog X.w) X.A (subscriptTail e (.Slice lo none (some (.UnaryOp .USub (.Constant (.int 1) k p1) p2)) p3) (.ref a) (.ref s4.heap.objs.size)) (EP X pins σ Q) X.xe { s4 with heap := s4.heap.push { cls := .type "slice", data := .fields #[vl, .none, vs] } }
  refine tail_any (ops := [.ref a, .ref s4.heap.objs.size]) ht.typeIs (PyProof.Rows.slot_tuple_getitem.lookup) ?_ (by with_unfolding_all rfl)
  refine getItem_tuple_rev ht (Heap.IsSliceOf.new _ vl .none vs) pl ps ?_ (by rw [hlen]; exact hz)
  rw [hlen]
  refine ⟨.ref _, _, I5.laid (t' := s4.toks) (o := .tup (xs.take (revLen xs.length l)).reverse) (fun b ob q => Heap.get?_push_of_some _ q) (Nat.le_refl _) ?_, rfl, q _ (I5.hok.fresh (Nat.le_refl _))⟩
  refine ⟨by rw [List.length_reverse, List.length_take]; omega, _, ?_, IsTup.new _ _⟩
  have := r.take (revLen xs.length l)
  exact this.reverse
end
end Wn

namespace Wn
open PySem L2
/-! ### slices and sums of tuples, whatever they are -/
theorem SqT.sm {K : PySem.W.Frag} {H H' : Hp} {a : Addr} {xs : List V} (h : SqT K H a xs) (e : Same H H') : SqT K H' a xs := SqT.tk h (TK.of e)
section
variable {α : Type}
def cutL (xs : List α) (lo hi : Option Int) : List α := (xs.drop (HT.sIx xs.length 0 lo)).take (HT.sIx xs.length xs.length hi - HT.sIx xs.length 0 lo)
theorem cutL_all (xs : List α) : cutL xs none none = xs := by
  unfold cutL
  rw [HT.sIx_none, HT.sIx_none, List.drop_zero, Nat.sub_zero, List.take_length]
theorem cutL_to (xs : List α) (k : Nat) : cutL xs none (some (k : Int)) = xs.take k := by
  unfold cutL
  rw [HT.sIx_nat, HT.sIx_none, List.drop_zero, Nat.sub_zero]
  by_cases hk : k ≤ xs.length
  · rw [Nat.min_eq_left hk]
  · rw [Nat.min_eq_right (by omega), List.take_of_length_le (Nat.le_refl _), List.take_of_length_le (by omega)]
theorem cutL_from (xs : List α) (k : Nat) : cutL xs (some (k : Int)) none = xs.drop k := by
  unfold cutL
  rw [HT.sIx_nat, HT.sIx_none]
  by_cases hk : k ≤ xs.length
  · rw [Nat.min_eq_left hk, List.take_of_length_le (by rw [List.length_drop]; exact Nat.le_refl _)]
  · rw [Nat.min_eq_right (by omega), List.drop_of_length_le (Nat.le_refl _), List.drop_of_length_le (by omega), List.take_nil]
theorem cutL_mid (xs : List α) (a b : Nat) : cutL xs (some (a : Int)) (some (b : Int)) = (xs.drop a).take (b - a) := by
  unfold cutL
  rw [HT.sIx_nat, HT.sIx_nat]
  by_cases h : a ≤ xs.length
  · rw [Nat.min_eq_left h]
    by_cases h2 : b ≤ xs.length
    · rw [Nat.min_eq_left h2]
    · rw [Nat.min_eq_right (by omega), List.take_of_length_le (by rw [List.length_drop]; exact Nat.le_refl _), List.take_of_length_le (by rw [List.length_drop]; omega)]
  · rw [show min a xs.length = xs.length by omega, List.drop_of_length_le (Nat.le_refl _), List.drop_of_length_le (show xs.length ≤ a by omega), List.take_nil, List.take_nil]
theorem cutL_butlast (xs : List α) : cutL xs none (some (-1)) = xs.dropLast := by
  unfold cutL
  have e : HT.sIx xs.length xs.length (some (-1)) = xs.length - 1 := by
    unfold HT.sIx
    dsimp only
    rw [if_pos (show (-1 : Int) < 0 by decide)]
    omega
  rw [e, HT.sIx_none, List.drop_zero, Nat.sub_zero, List.dropLast_eq_take]
theorem cutL_last (xs : List α) : cutL xs (some (-1)) none = xs.drop (xs.length - 1) := by
  unfold cutL
  have e : HT.sIx xs.length 0 (some (-1)) = xs.length - 1 := by
    unfold HT.sIx
    dsimp only
    rw [if_pos (show (-1 : Int) < 0 by decide)]
    omega
  rw [e, HT.sIx_none, List.take_of_length_le (by rw [List.length_drop]; exact Nat.le_refl _)]
theorem cutL_map {β : Type} (f : α → β) (xs : List α) (lo hi : Option Int) : cutL (xs.map f) lo hi = (cutL xs lo hi).map f := by
  unfold cutL
  rw [List.length_map, List.map_take, List.map_drop]
theorem cutL_mem {xs : List α} {lo hi : Option Int} {x : α} (h : x ∈ cutL xs lo hi) : x ∈ xs := List.mem_of_mem_drop (List.mem_of_mem_take h)
theorem cutL_len (xs : List α) (lo hi : Option Int) : (cutL xs lo hi).length ≤ xs.length := by
  unfold cutL
  rw [List.length_take, List.length_drop]
  omega
end
theorem cutV_L (xs : List V) (lo hi : Option Int) : cutV xs lo hi = cutL xs lo hi := rfl
section
variable {K : PySem.W.Frag} {H H' : Hp} {a b : Addr} {xs ys : List V} {ds es : List PyData} {lo hi : Option Int} {Q : VK}
theorem slA_sq (h : SqT K H a xs) (q : ∀ (H' : Hp) (x : Addr), Same H H' → SqT K H' x (cutL xs lo hi) → Q (.ref x) H') : rSlA K (.ref a) lo hi H Q := by
  refine ⟨a, xs, rfl, h, fun hw => ?_, fun hw p hp => ?_⟩
  · refine q H a (L2.Same.refl _) ?_
    have e : cutL xs lo hi = xs := by
      unfold cutL
      rw [hw.1, hw.2, List.drop_zero, Nat.sub_zero, List.take_length]
    rw [e]
    exact h
  · exact q _ p ((L2.Same.refl _).new hp) (SqT.of upd_same)
theorem catA_sq (ha : SqT K H a xs) (hb : SqT K H b ys) (hl : xs.length + ys.length ≤ 1000000) (q : ∀ (H' : Hp) (x : Addr), Same H H' → SqT K H' x (xs ++ ys) → Q (.ref x) H') : rCatA K (.ref a) (.ref b) H Q := by
  refine ⟨a, b, xs, ys, rfl, rfl, ha, hb, Nat.le_trans hl (by decide), fun e => ?_, fun _ e => ?_, fun _ _ p hp => ?_⟩
  · subst e
    exact q H b (L2.Same.refl _) hb
  · subst e
    exact q H a (L2.Same.refl _) (by rw [List.append_nil]; exact ha)
  · exact q _ p ((L2.Same.refl _).new hp) (SqT.of upd_same)
/-- a tuple of data -/
def TupAt (K : PySem.W.Frag) (H : Hp) (a : Addr) (ds : List PyData) : Prop := Rp K H (.tuple ds) (.ref a)
theorem TupAt.inv (h : TupAt K H a ds) : ∃ xs, SqT K H a xs ∧ RpL K H ds xs := by
  unfold TupAt Rp at h
  obtain ⟨b, xs, e, h1, h2⟩ := h
  cases e
  exact ⟨xs, h1, h2⟩
theorem TupAt.sm (h : TupAt K H a ds) (s : Same H H') : TupAt K H' a ds := Rp.tk (TK.of s) _ _ h
theorem TupAt.tk (h : TupAt K H a ds) (s : TK H H') : TupAt K H' a ds := Rp.tk s _ _ h
theorem RpL.cut (h : RpL K H ds xs) : RpL K H (cutL ds lo hi) (cutL xs lo hi) := by
  unfold cutL
  rw [RpL.len _ _ h]
  exact RpL.take _ (RpL.drop _ h)
theorem slA_tup (h : TupAt K H a ds) (q : ∀ (H' : Hp) (x : Addr), Same H H' → TupAt K H' x (cutL ds lo hi) → Q (.ref x) H') : rSlA K (.ref a) lo hi H Q := by
  obtain ⟨xs, hx, rx⟩ := h.inv
  exact slA_sq hx fun H' x s h' => q H' x s (Rp.tupS h' (RpL.tk (TK.of s) _ _ rx.cut))
theorem catA_tup (ha : TupAt K H a ds) (hb : TupAt K H b es) (hl : ds.length + es.length ≤ 1000000) (q : ∀ (H' : Hp) (x : Addr), Same H H' → TupAt K H' x (ds ++ es) → Q (.ref x) H') : rCatA K (.ref a) (.ref b) H Q := by
  obtain ⟨xs, hx, rx⟩ := ha.inv
  obtain ⟨ys, hy, ry⟩ := hb.inv
  refine catA_sq hx hy (by rw [RpL.len _ _ rx, RpL.len _ _ ry]; exact hl) fun H' x s h' => q H' x s (Rp.tupS h' (RpL.tk (TK.of s) _ _ (RpL.app rx ry)))
/-! ### the same of things of any kind -/
theorem DpAll.app : ∀ {xs ys : List V} {ds es : List PyData}, DpAll K H xs ds → DpAll K H ys es → DpAll K H (xs ++ ys) (ds ++ es)
  | _, _, _, _, .nil, h => h
  | _, _, _, _, .cons h1 h2, h => .cons h1 (DpAll.app h2 h)
theorem DpAll.take : ∀ (k : Nat) {xs : List V} {ds : List PyData}, DpAll K H xs ds → DpAll K H (xs.take k) (ds.take k)
  | 0, _, _, _ => .nil
  | k + 1, _, _, .nil => .nil
  | k + 1, _, _, .cons h1 h2 => .cons h1 (DpAll.take k h2)
theorem DpAll.drop : ∀ (k : Nat) {xs : List V} {ds : List PyData}, DpAll K H xs ds → DpAll K H (xs.drop k) (ds.drop k)
  | 0, _, _, h => h
  | k + 1, _, _, .nil => .nil
  | k + 1, _, _, .cons h1 h2 => DpAll.drop k h2
theorem DpAll.len' : ∀ {vs : List V} {ds : List PyData}, DpAll K H vs ds → vs.length = ds.length
  | _, _, .nil => rfl
  | _, _, .cons _ h => by rw [List.length_cons, List.length_cons, DpAll.len' h]
theorem DpAll.cut (h : DpAll K H xs ds) : DpAll K H (cutL xs lo hi) (cutL ds lo hi) := by
  unfold cutL
  rw [DpAll.len' h]
  exact DpAll.take _ (DpAll.drop _ h)
theorem DpAll.rev : ∀ {xs : List V} {ds : List PyData}, DpAll K H xs ds → DpAll K H xs.reverse ds.reverse
  | _, _, .nil => .nil
  | _, _, .cons h1 h2 => by
    rw [List.reverse_cons, List.reverse_cons]
    exact DpAll.app (DpAll.rev h2) (.cons h1 .nil)
end
end Wn
namespace Wn
open PySem L2
/-- a part of a tuple that isn't the whole: a new one -/
theorem slA_new {K : PySem.W.Frag} {H : Hp} {a : Addr} {xs : List V} {lo hi : Option Int} {Q : VK} (h : SqT K H a xs) (hw : ¬ (HT.sIx xs.length 0 lo = 0 ∧ HT.sIx xs.length xs.length hi = xs.length))
    (q : ∀ (H' : Hp) (x : Addr), Same H H' → H x = none → H' x = some (.tup (cutL xs lo hi)) → Q (.ref x) H') : rSlA K (.ref a) lo hi H Q :=
  ⟨a, xs, rfl, h, fun z => absurd z hw, fun _ p hp => q _ p ((L2.Same.refl _).new hp) hp upd_same⟩
theorem slA_2of4 {K : PySem.W.Frag} {H : Hp} {a : Addr} {x1 x2 x3 x4 : V} {Q : VK} (h : SqT K H a [x1, x2, x3, x4])
    (q : ∀ (H' : Hp) (x : Addr), Same H H' → H x = none → H' x = some (.tup [x1, x2]) → Q (.ref x) H') : rSlA K (.ref a) none (some 2) H Q :=
  slA_new h (fun z => absurd z.2 (by show ¬ (2 : Nat) = 4; decide)) fun H' x s n e => q H' x s n (by
    have e2 : cutL [x1, x2, x3, x4] none (some 2) = [x1, x2] := cutL_to _ 2
    rw [e2] at e
    exact e)
end Wn

set_option maxHeartbeats 800000
namespace Wn
open PySem L2
set_option pp.maxSteps 700
set_option pp.deepTerms false
local macro_rules | `(tactic| walk_at "h") => `(tactic| first | with_reducible assumption | (with_reducible exact upd_same) | (with_reducible apply g_upd; (walk_at "neq"); (walk_at "h")) | (with_reducible apply g_same; (with_reducible assumption); (walk_at "h")) | (with_reducible apply g_kp; (with_reducible assumption); (walk_at "nin"); (walk_at "h")) | (with_reducible apply g_tk; (with_reducible assumption); (walk_at "h")))
local macro_rules | `(tactic| walk_at "neq") => `(tactic| first | with_reducible assumption | (with_reducible apply Ne.symm; with_reducible assumption) | (with_reducible apply ne_upd; (with_reducible assumption)) | (with_reducible apply Ne.symm; with_reducible apply ne_upd; with_reducible assumption) | (with_reducible apply ne_fr; (with_reducible assumption); (walk_at "h")) | (with_reducible apply ne_fr'; (with_reducible assumption); (walk_at "h")) | (with_reducible apply ne_kd; (walk_at "h"); (walk_at "h"); (with_unfolding_all (intro z; cases z))))
local macro_rules | `(tactic| walk_at "nin") => `(tactic| first | (with_reducible exact nin0) | with_reducible assumption | (with_reducible apply ninc; (walk_at "neq"); (walk_at "nin")))
local macro_rules | `(tactic| walk_at "none") => `(tactic| first | with_reducible assumption | (with_reducible apply n_upd; (with_reducible assumption)) | (with_reducible apply n_same; (with_reducible assumption); (walk_at "none")) | (with_reducible apply n_kp; (with_reducible assumption); (walk_at "nin"); (walk_at "none")))
local macro_rules | `(tactic| walk_at "mem") => `(tactic| first | (with_reducible exact List.mem_cons_self) | (with_reducible apply List.mem_cons_of_mem; (walk_at "mem")))
local macro_rules | `(tactic| walk_at "am") => `(tactic| first | (with_reducible exact am0) | (with_reducible apply am1; (first | (apply Or.inl; walk_at "mem") | (apply Or.inr; walk_at "none")); (walk_at "am")))
local macro_rules | `(tactic| walk_at "tk") => `(tactic| first | (with_reducible exact TK.refl _) | with_reducible assumption | (with_reducible apply t_tk; (with_reducible assumption); (walk_at "tk")) | (with_reducible apply t_same; (with_reducible assumption); (walk_at "tk")) | (with_reducible apply t_new; (with_reducible assumption); (walk_at "tk")) | (with_reducible apply t_wr; (walk_at "h"); (with_unfolding_all rfl); (walk_at "tk")))
local macro_rules | `(tactic| walk_at "same") => `(tactic| first | (with_reducible exact L2.Same.refl _) | with_reducible assumption | (with_reducible apply s_same; (with_reducible assumption); (walk_at "same")) | (with_reducible apply s_new; (with_reducible assumption); (walk_at "same")) | (with_reducible apply s_wrn; (walk_at "none"); (walk_at "same")))
local macro_rules | `(tactic| walk_at "kp") => `(tactic| first | (with_reducible exact Kp.refl _ _) | with_reducible assumption | (with_reducible apply k_same; (with_reducible assumption); (walk_at "kp")) | (with_reducible apply k_kp; (with_reducible assumption); (walk_at "kp")) | (with_reducible apply k_kpm; (with_reducible assumption); (walk_at "am"); (walk_at "kp")) | (with_reducible apply k_new; (with_reducible assumption); (walk_at "kp")) | (with_reducible apply k_wr; (walk_at "mem"); (walk_at "kp")) | (with_reducible apply k_wrn; (walk_at "none"); (walk_at "kp")))
local macro_rules | `(tactic| walk_at "rp") => `(tactic| first | with_reducible assumption | (with_reducible exact Rp.int) | (with_reducible exact Rp.str) | (with_reducible exact Rp.none) | (with_reducible exact Rp.bool) | (with_reducible apply Rp.tk'; (with_reducible assumption); (walk_at "tk")) | (with_reducible apply Rp.tup; (walk_at "h"); (walk_at "rpl")))
local macro_rules | `(tactic| walk_at "rpl") => `(tactic| first | with_reducible assumption | (with_reducible exact RpL.nil) | (with_reducible apply RpL.tk'; (with_reducible assumption); (walk_at "tk")) | (with_reducible apply RpL.cons; (walk_at "rp"); (walk_at "rpl")))
local macro_rules | `(tactic| walk_at "g") => `(tactic| repeat (first | refine ⟨_, rfl, ?_⟩ | refine ⟨_, _, rfl, rfl, ?_⟩ | refine ⟨rfl, _, rfl, ?_⟩ | refine ⟨_, _, rfl, rfl, (by first | decide | omega), ?_⟩))
abbrev sLetter : Stmt := top 9
abbrev sIsRow : Stmt := top 10
/-! ### the tables of ways.py -/
def keysOf (z : Str) : List Nat := if z = ("sent" : Str) then [2, 3, 4] else if z = ("wrapped" : Str) then [2, 4, 6] else if z = ("heard" : Str) then [2, 4, 5] else if z = ("dropped" : Str) then [3, 5, 6] else [3, 4, 5]
def wordsOf (z : Str) : List Nat := if z = ("sent" : Str) then [6] else if z = ("wrapped" : Str) then [3] else if z = ("heard" : Str) then [6] else if z = ("dropped" : Str) then [2, 4] else []
def kindAt (z : Str) : Option Nat := if z = ("wrapped" : Str) then some 3 else if z = ("dropped" : Str) then some 4 else none
def nsV (l : List Nat) : List V := l.map fun (n : Nat) => V.int n
structure PW (K : PySem.W.Frag) (w : World) (mg : Str → Option Value) : Prop where
  kinds : ∃ a, mg "KINDS" = some (.ref a) ∧ ∀ H, SqT K H a [.str "l", .str "u", .str "a", .str "f"]
  count : ∃ t, mg "COUNT" = some (.int 4 t)
  sizes : ∃ (a : Addr) (es : Array DictEntry) (n : Nat) (T : Str → Tok), mg "SIZES" = some (.ref a) ∧ KDict K w a es n ∧ ∀ z, PySem.W.nsIn K a z = some ((formsOf z).map fun fs => Value.int ((fs.length + 1 : Nat) : Int) (T z))
  letters : ∃ (a : Addr) (es : Array DictEntry) (n : Nat) (T : Str → Addr), mg "LETTERS" = some (.ref a) ∧ KDict K w a es n ∧ (∀ z, PySem.W.nsIn K a z = some ((formsOf z).map fun _ => Value.ref (T z))) ∧ ∀ z, (formsOf z).isSome = true → ∀ H, SqT K H (T z) (nsV (keysOf z))
  words : ∃ (a : Addr) (es : Array DictEntry) (n : Nat) (T : Str → Addr), mg "WORDS" = some (.ref a) ∧ KDict K w a es n ∧ (∀ z, PySem.W.nsIn K a z = some ((formsOf z).map fun _ => Value.ref (T z))) ∧ ∀ z, (formsOf z).isSome = true → ∀ H, SqT K H (T z) (nsV (wordsOf z))
  kindat : ∃ (a : Addr) (es : Array DictEntry) (n : Nat) (T : Str → Tok), mg "KIND_AT" = some (.ref a) ∧ KDict K w a es n ∧ ∀ z, PySem.W.nsIn K a z = some ((kindAt z).map fun k => Value.int (k : Int) (T z))
structure PWb (mg : Str → Option Value) : Prop where
  isinstance : mg "isinstance" = none
  str : mg "str" = none
  tuple : mg "tuple" = none
  len : mg "len" = none
  all : mg "all" = none
  any : mg "any" = none
  zip : mg "zip" = none
  range : mg "range" = none
  enumerate : mg "enumerate" = none
theorem ite_nn {x : V} (h : x ≠ .non) {a b : Prop} (q : a) : if (!decide (x = .non)) = true then a else b := by
  rw [decide_eq_false h]
  exact q
theorem two {A Y G : Prop} (h1 : (A → Y) → G) (h2 : A → Y) : G := h1 h2
def keyD (k : Int × Int × Int) : List PyData := [.int k.1, .int k.2.1, .int k.2.2]
def spLetter (K : PySem.W.Frag) : Sp := fun vs H Q _ => ∃ (a : Addr) (r : Wy), vs = [.ref a] ∧ SqT K H a r.v ∧ (r.kindOk = true → ∀ H' b, Same H H' → TupAt K H' b (keyD r.key) → Q (.ref b) H') ∧ (r.kindOk = false → Q .non H)
def spRowW (K : PySem.W.Frag) : Sp := fun vs H Q _ => ∃ (v : V) (d : PyData), vs = [v] ∧ Dk K H v d ∧ ∀ H', Same H H' → Q (.bl (wayRow d)) H'
def Sg.isW : Sg → Bool
  | .t => true
  | .k => true
  | _ => false
def Sg.isO : Sg → Bool
  | .o => true
  | _ => false
theorem sg_at {z : Str} {fs : List Sg} (e : formsOf z = some fs) {j : Nat} {g : Sg} (h : fs[j]? = some g) : (decide ((j + 1) ∈ wordsOf z) = g.isW) ∧ (decide (z = ("sent" : Str) ∧ j + 1 = 5) = g.isO) := by
  rcases formsOf_cases e with ⟨rfl, rfl⟩ | ⟨rfl, rfl⟩ | ⟨rfl, rfl⟩ | ⟨rfl, rfl⟩ | ⟨rfl, rfl⟩ <;>
    rcases j with _ | _ | _ | _ | _ | _ | _ | _ | _ | j <;> first | (simp at h; done) | (simp at h; subst h; exact ⟨by decide, by decide⟩)
theorem ok_ok0 {g : Sg} {d : PyData} (h : g.ok d = true) : g.ok0 d = true := by
  cases g
  · exact h
  · cases d <;> exact h
  · cases d <;> exact h
  · cases d <;> first | rfl | cases h
def noneB : PyData → Bool
  | .none => true
  | _ => false
theorem okW_eq {g : Sg} {d : PyData} (h : g.isW = true) : g.ok0 d = decide (tyN d = "str") := by
  cases g with
  | n => cases h
  | o => cases h
  | t => cases d <;> rfl
  | k => cases d <;> rfl
theorem okN_eq {g : Sg} {d : PyData} (h : g.isW = false) : g.ok0 d = (cntD d || (g.isO && noneB d)) := by
  cases g with
  | n => cases d <;> simp [Sg.ok0, cntD, Sg.isO]
  | o => cases d <;> simp [Sg.ok0, cntD, Sg.isO, noneB]
  | t => cases h
  | k => cases h
theorem wy_forms (r : Wy) : ∃ fs, formsOf r.w = some fs ∧ fs.length = r.pd.length := by
  cases r <;> exact ⟨_, rfl, rfl⟩
theorem wy_vals {K : PySem.W.Frag} {H : Hp} {r : Wy} {xs : List V} (h : DkAll K H xs (.str r.w :: r.pd)) : xs = r.v := by
  have oo : ∀ {v : V} {o : Option Int}, Dk K H v (oD o) → v = oV o := fun {v o} h => by
    cases o with
    | none => exact h.inv_none
    | some i => exact h.inv_int
  cases r with
  | sent b r s n o t =>
    obtain ⟨v0, _, rfl, h0, h⟩ := h.inv_cons
    obtain ⟨v1, _, rfl, h1, h⟩ := h.inv_cons
    obtain ⟨v2, _, rfl, h2, h⟩ := h.inv_cons
    obtain ⟨v3, _, rfl, h3, h⟩ := h.inv_cons
    obtain ⟨v4, _, rfl, h4, h⟩ := h.inv_cons
    obtain ⟨v5, _, rfl, h5, h⟩ := h.inv_cons
    obtain ⟨v6, _, rfl, h6, h⟩ := h.inv_cons
    rw [h.inv_nil, h0.inv_str, h1.inv_int, h2.inv_int, h3.inv_int, h4.inv_int, oo h5, h6.inv_str]
    rfl
  | wrap b r k s o n p q c =>
    obtain ⟨v0, _, rfl, h0, h⟩ := h.inv_cons
    obtain ⟨v1, _, rfl, h1, h⟩ := h.inv_cons
    obtain ⟨v2, _, rfl, h2, h⟩ := h.inv_cons
    obtain ⟨v3, _, rfl, h3, h⟩ := h.inv_cons
    obtain ⟨v4, _, rfl, h4, h⟩ := h.inv_cons
    obtain ⟨v5, _, rfl, h5, h⟩ := h.inv_cons
    obtain ⟨v6, _, rfl, h6, h⟩ := h.inv_cons
    obtain ⟨v7, _, rfl, h7, h⟩ := h.inv_cons
    obtain ⟨v8, _, rfl, h8, h⟩ := h.inv_cons
    obtain ⟨v9, _, rfl, h9, h⟩ := h.inv_cons
    rw [h.inv_nil, h0.inv_str, h1.inv_int, h2.inv_int, h3.inv_str, h4.inv_int, h5.inv_int, h6.inv_int, h7.inv_int, h8.inv_int, h9.inv_int]
    rfl
  | heard b r h' s n t =>
    obtain ⟨v0, _, rfl, h0, h⟩ := h.inv_cons
    obtain ⟨v1, _, rfl, h1, h⟩ := h.inv_cons
    obtain ⟨v2, _, rfl, h2, h⟩ := h.inv_cons
    obtain ⟨v3, _, rfl, h3, h⟩ := h.inv_cons
    obtain ⟨v4, _, rfl, h4, h⟩ := h.inv_cons
    obtain ⟨v5, _, rfl, h5, h⟩ := h.inv_cons
    obtain ⟨v6, _, rfl, h6, h⟩ := h.inv_cons
    rw [h.inv_nil, h0.inv_str, h1.inv_int, h2.inv_int, h3.inv_int, h4.inv_int, h5.inv_int, h6.inv_str]
    rfl
  | drop b y r k s n =>
    obtain ⟨v0, _, rfl, h0, h⟩ := h.inv_cons
    obtain ⟨v1, _, rfl, h1, h⟩ := h.inv_cons
    obtain ⟨v2, _, rfl, h2, h⟩ := h.inv_cons
    obtain ⟨v3, _, rfl, h3, h⟩ := h.inv_cons
    obtain ⟨v4, _, rfl, h4, h⟩ := h.inv_cons
    obtain ⟨v5, _, rfl, h5, h⟩ := h.inv_cons
    obtain ⟨v6, _, rfl, h6, h⟩ := h.inv_cons
    rw [h.inv_nil, h0.inv_str, h1.inv_int, h2.inv_str, h3.inv_int, h4.inv_str, h5.inv_int, h6.inv_int]
    rfl
  | pass b g r s n x y z =>
    obtain ⟨v0, _, rfl, h0, h⟩ := h.inv_cons
    obtain ⟨v1, _, rfl, h1, h⟩ := h.inv_cons
    obtain ⟨v2, _, rfl, h2, h⟩ := h.inv_cons
    obtain ⟨v3, _, rfl, h3, h⟩ := h.inv_cons
    obtain ⟨v4, _, rfl, h4, h⟩ := h.inv_cons
    obtain ⟨v5, _, rfl, h5, h⟩ := h.inv_cons
    obtain ⟨v6, _, rfl, h6, h⟩ := h.inv_cons
    obtain ⟨v7, _, rfl, h7, h⟩ := h.inv_cons
    obtain ⟨v8, _, rfl, h8, h⟩ := h.inv_cons
    rw [h.inv_nil, h0.inv_str, h1.inv_int, h2.inv_int, h3.inv_int, h4.inv_int, h5.inv_int, h6.inv_int, h7.inv_int, h8.inv_int]
    rfl
theorem Dk.row {K : PySem.W.Frag} {H : Hp} {v : V} {r : Wy} (h : Dk K H v r.d) : ∃ a, v = .ref a ∧ SqT K H a r.v := by
  obtain ⟨a, xs, rfl, ha, hx⟩ := h.inv_tup
  rw [wy_vals hx] at ha
  exact ⟨a, rfl, ha⟩
theorem inV_ns {n : Nat} {l : List Nat} : inV (.int (n : Int)) (nsV l) = decide (n ∈ l) := by
  unfold inV nsV
  rw [Bool.eq_iff_iff, List.any_eq_true, decide_eq_true_eq]
  constructor
  · rintro ⟨v, hv, e⟩
    obtain ⟨k, hk, rfl⟩ := List.mem_map.mp hv
    have e : ((k : Int) == (n : Int)) = true := e
    rw [beq_iff_eq] at e
    have : k = n := by omega
    exact this ▸ hk
  · intro h
    exact ⟨_, List.mem_map.mpr ⟨n, h, rfl⟩, show ((n : Int) == (n : Int)) = true from beq_self_eq_true _⟩
theorem inV_kind (z : Str) : inV (.str z) [.str "l", .str "u", .str "a", .str "f"] = kindB z := by
  have q : ∀ y : Str, (y == z) = decide (z = y) := fun y => by rw [Bool.eq_iff_iff, beq_iff_eq, decide_eq_true_eq]; exact eq_comm
  show ((("l" : Str) == z) || ((("u" : Str) == z) || ((("a" : Str) == z) || ((("f" : Str) == z) || false)))) = _
  rw [q, q, q, q, Bool.or_false]
  rfl
theorem kind_at (r : Wy) : match kindAt r.w with
    | none => r.kindOk = true
    | some k => ∃ z, atI r.v (k : Int) = some (.str z) ∧ r.kindOk = kindB z := by
  cases r with
  | sent => exact rfl
  | heard => exact rfl
  | pass => exact rfl
  | wrap b r k s o n p q c => exact ⟨k, atI_nat (j := 3) rfl, rfl⟩
  | drop b y r k s n => exact ⟨k, atI_nat (j := 4) rfl, rfl⟩
def kl (k : Int × Int × Int) : List Int := [k.1, k.2.1, k.2.2]
theorem key_at (r : Wy) : ∀ (j b : Nat), (keysOf r.w)[j]? = some b → ∃ i, (kl r.key)[j]? = some i ∧ atI r.v (b : Int) = some (.int i) := by
  cases r <;> intro j b h <;> rcases j with _ | _ | _ | j <;> first | (cases h; exact ⟨_, rfl, atI_nat rfl⟩) | cases h
theorem keys_map (r : Wy) : (keysOf r.w).map (fun b : Nat => (atI r.v (b : Int)).getD .non) = (kl r.key).map V.int := by
  cases r <;> rfl

section
variable {P : Program} {w : World} {K : PySem.W.Frag} {mg : Str → Option Value} {base : Heap}
theorem scLetter : FnScope ["row", "at"] ["row"] (defScope sLetter) := ⟨rfl, rfl, rfl, by decide +kernel, rfl, by decide +kernel, by decide +kernel⟩
theorem ok_letter {f : Addr} {fd : FuncData} (F : Fun K "letter_of" "letter_of" sLetter f fd) (B : PWb mg) (T : PW K w mg) : FnOk P w K mg base CX0 1 f fd ["row"] (spLetter K) := by
  obtain ⟨aN, mKINDS, hN⟩ := T.kinds
  obtain ⟨aL, esL, nL, TL, mLETTERS, DL, eL, hL⟩ := T.letters
  obtain ⟨aK, esK, nK, TKk, mKINDAT, DK, eK⟩ := T.kindat
  refine F.ok scLetter (fun vs H Q E h => ?_) (fun cdv A outer s H vs Q E hr h => ?_)
  · obtain ⟨a, r, rfl, _⟩ := h
    rfl
  · obtain ⟨a, r, rfl, ha, kt, kf⟩ := h
    refine ⟨_, (pss_cons (ps_if (PW.pt (pw_or (pt_cmpR (op_notIn_kd DL) (pe_ix (ixT (K := K) rfl) (pv 0) pe_int (fun _ _ => rfl)) (pe_glob (v := .ref aL) (by rfl) mLETTERS rfl) (by rfl)) (pw_or1 (PW.pt (pw_and (pt_cmpR (op_in_kd DK) (pe_ix (ixT (K := K) rfl) (pv 0) pe_int (fun _ _ => rfl)) (pe_glob (v := .ref aK) (by rfl) mKINDAT rfl) (by rfl)) (pw_and1 (pt_cmpR (notInSeqK (K := K) rfl) (pe_ix (ixT (K := K) rfl) (pv 0) (pe_ix ix_kdict (pe_glob (v := .ref aK) (by rfl) mKINDAT rfl) (pe_ix (ixT (K := K) rfl) (pv 0) pe_int (fun _ _ => rfl)) (fun _ _ => rfl)) (fun _ _ => rfl)) (pe_glob (v := .ref aN) (by rfl) mKINDS rfl) (by rfl))))))))
       (pss_one (ps_ret pe_non))
       pss_nil)
       (pss_one (ps_ret (pe_callTy (tupOfK (K := K) rfl) (by rfl) B.tuple PyProof.Rows.boot_tuple (pa_cons (pe_lc (own := [("at", 1)]) (g := (gName 1)) (tt := tYes) rfl scLetter.nd (pi_tup (pe_ix ix_kdict (pe_glob (v := .ref aL) (by rfl) mLETTERS rfl) (pe_ix (ixT (K := K) rfl) (pv 0) pe_int (fun _ _ => rfl)) (fun _ _ => rfl))) (blkOk_by (N := ["row", "at"]) (sc := defScope sLetter) (by decide +kernel))
       (fun _ _ _ _ _ => (pg_name (i := 1) scLetter.nd rfl (Or.inl rfl))) (fun _ _ _ _ _ => pts_nil) (fun _ _ _ _ _ => (pe_ix (ixT (K := K) rfl) (pv 0) (pv 1) (fun _ _ => rfl)))) pa_nil))))), ?_⟩
    obtain ⟨fs, ef, _⟩ := wy_forms r
    have a0 : atI r.v 0 = some (.str r.w) := atI_nat (j := 0) rfl
    have eL1 := eL r.w
    rw [ef] at eL1
    have hL1 := hL r.w (by rw [ef]; rfl)
    have ek := eK r.w
    have ka := kind_at r
    refine ⟨_, rfl, a, _, 0, _, rfl, rfl, ha, a0, r.w, _, rfl, rfl, eL1, _, rfl, iteF ?_⟩
    apply two (A := r.kindOk = true)
    · intro hY
      refine ⟨_, rfl, a, _, 0, _, rfl, rfl, ha, a0, r.w, _, rfl, rfl, ek, ?_⟩
      cases ec : kindAt r.w with
      | none =>
        rw [ec] at ka
        exact ⟨_, rfl, iteF (hY ka)⟩
      | some m =>
        rw [ec] at ka ek
        obtain ⟨z, az, ez⟩ := ka
        refine ⟨_, rfl, iteT ?_⟩
        refine ⟨_, rfl, _, rfl, a, _, 0, _, rfl, rfl, ha, a0, aK, r.w, .int m, rfl, rfl, ⟨esK, nK, _, DK.at_, DK.lit, ek, ⟨_, rfl⟩⟩, a, _, m, _, rfl, rfl, ha, az, aN, _, rfl, .inr (hN H), rfl, rfl, _, rfl, ?_⟩
        show (if (!inV _ _) = true then _ else _)
        rw [inV_kind]
        cases hk : kindB z with
        | true => exact iteF (hY (ez.trans hk))
        | false => exact iteT (kf (ez.trans hk))
    · intro hk
      have kt := kt hk
      refine ⟨_, rfl, a, _, 0, _, rfl, rfl, ha, a0, aL, r.w, .ref (TL r.w), rfl, rfl, ⟨esL, nL, _, DL.at_, DL.lit, eL1, rfl⟩, ?_⟩
      refine ⟨TL r.w, rfl, ⟨_, hL1 H⟩, fun D nD => ?_⟩
      refine comp_ls (L := keysOf r.w) ((walk_tup (K := K) (a := TL r.w) (xs := nsV (keysOf r.w))).cast (List.length_map _)) (fun H' s' => hL1 H') (fun _ => true) (fun b => (atI r.v (b : Int)).getD .non) nD (by cases r <;> exact Nat.le_of_ble_eq_true rfl) ?_ ?_
      · rintro j b v H' H'' Q' N' hj s' ⟨rfl, hv⟩ hQ hN
        unfold nsV at hv
        rw [List.getElem?_map, hj] at hv
        cases hv
        refine ⟨rfl, tYes_t (iteT ?_)⟩
        obtain ⟨i, _, e⟩ := key_at r j b hj
        rw [e] at hQ
        exact ⟨_, rfl, _, rfl, a, _, _, _, rfl, rfl, SqT.sm ha s', e, hQ rfl _ (L2.Same.refl _)⟩
      · intro H' s' hD
        rw [filter_all, keys_map] at hD
        refine ⟨D, _, rfl, .inl ⟨.inl (.inl hD), fun l n_l => ?_⟩⟩
        obtain ⟨H2, e_H2, s2, r2⟩ := new_any n_l
        rw [← e_H2]
        clear e_H2
        exact kt H2 l (s'.trans s2) (Rp.tupS (SqT.of r2) (RpL.cons Rp.int (RpL.cons Rp.int (RpL.cons Rp.int RpL.nil))))
theorem scIsRow : FnScope ["thing", "word", "at"] ["thing"] (defScope sIsRow) := ⟨rfl, rfl, rfl, by decide +kernel, rfl, by decide +kernel, by decide +kernel⟩
theorem ok_isrowW {f : Addr} {fd : FuncData} (F : Fun K "is_row" "is_row" sIsRow f fd) (B : PWb mg) (T : PW K w mg) (cW : Cd P w K mg base 1 "is_whole" ["thing"] (spWholeK K)) (cL : Cd P w K mg base 1 "letter_of" ["row"] (spLetter K)) : FnOk P w K mg base CX0 2 f fd ["thing"] (spRowW K) := by
  obtain ⟨aS, esS, nS, TS, mSIZES, DS, eS⟩ := T.sizes
  obtain ⟨aW, esW, nW, TW, mWORDS, DW, eW, hW⟩ := T.words
  obtain ⟨fW, fdW, GW, mW, kW, bW⟩ := cW
  obtain ⟨fL, fdL, GL, mL, kL, bL⟩ := cL
  refine F.ok scIsRow (fun vs H Q E h => ?_) (fun cdv A outer s H vs Q E hr h => ?_)
  · obtain ⟨v, d, rfl, _⟩ := h
    rfl
  · obtain ⟨v, d, rfl, hd, k⟩ := h
    have hr1 : Room 1 _ := hr.mono (by decide)
    refine ⟨_, (pss_cons (ps_if (PW.pt (pw_or (pt_not (pt_val (pe_callB (isiK (K := K) rfl) (by rfl) B.isinstance (by decide +kernel) (pa_cons (pv 0) (pa_cons (pe_bltn (v := .ty "tuple") (by rfl) B.tuple PyProof.Rows.boot_tuple rfl) pa_nil))))) (pw_or (pt_cmpR op_eq (pe_callB (lenK (K := K) rfl) (by rfl) B.len PySem.boot_len (pa_cons (pv 0) pa_nil)) pe_int (nomark _)) (pw_or (pt_not (pt_val (pe_callB (isiK (K := K) rfl) (by rfl) B.isinstance (by decide +kernel) (pa_cons (pe_ix (ixT (K := K) rfl) (pv 0) pe_int (fun _ _ => rfl)) (pa_cons (pe_bltn (v := .ty "str") (by rfl) B.str PyProof.Rows.boot_str rfl) pa_nil))))) (pw_or1 (pt_cmpR (op_notIn_kd DS) (pe_ix (ixT (K := K) rfl) (pv 0) pe_int (fun _ _ => rfl)) (pe_glob (v := .ref aS) (by rfl) mSIZES rfl) (by rfl)))))))
       (pss_one (ps_ret pe_bl))
       pss_nil)
       (pss_cons (ps_set (i := 1) scIsRow.nd rfl (Or.inl rfl) (pe_ix (ixT (K := K) rfl) (pv 0) pe_int (fun _ _ => rfl)))
       (pss_cons (ps_if (pt_cmpR op_ne (pe_callB (lenK (K := K) rfl) (by rfl) B.len PySem.boot_len (pa_cons (pv 0) pa_nil)) (pe_ix ix_kdict (pe_glob (v := .ref aS) (by rfl) mSIZES rfl) (pv 1) (fun _ _ => rfl)) (nomark _))
       (pss_one (ps_ret pe_bl))
       pss_nil)
       (pss_cons (ps_for PassesOwn.never rfl (pi_range2 rfl B.range (pa_cons pe_int (pa_cons (pe_callB (lenK (K := K) rfl) (by rfl) B.len PySem.boot_len (pa_cons (pv 0) pa_nil)) pa_nil))) (pg_name (i := 2) scIsRow.nd rfl (Or.inl rfl))
       (pss_one (ps_if (pt_cmpR (inSeqK (K := K) rfl) (pv 2) (pe_ix ix_kdict (pe_glob (v := .ref aW) (by rfl) mWORDS rfl) (pv 1) (fun _ _ => rfl)) (by rfl))
       (pss_one (ps_if (pt_not (pt_val (pe_callB (isiK (K := K) rfl) (by rfl) B.isinstance (by decide +kernel) (pa_cons (pe_ix (ixT (K := K) rfl) (pv 0) (pv 2) (fun _ _ => rfl)) (pa_cons (pe_bltn (v := .ty "str") (by rfl) B.str PyProof.Rows.boot_str rfl) pa_nil)))))
       (pss_one (ps_ret pe_bl))
       pss_nil))
       (pss_one (ps_if (PW.pt (pw_or (pt_not (pt_val (pe_call GW hr1 rfl mW kW bW .nil pass0 (pa_cons (pe_ix (ixT (K := K) rfl) (pv 0) (pv 2) (fun _ _ => rfl)) pa_nil)))) (pw_or1 (pt_cmpR op_lt (pe_ix (ixT (K := K) rfl) (pv 0) (pv 2) (fun _ _ => rfl)) pe_int (nomark _)))))
       (pss_one (ps_if (PW.pt (pw_or (pt_cmpR op_ne (pv 1) pe_str (nomark _)) (pw_or (pt_cmpR op_ne (pv 2) pe_int (nomark _)) (pw_or1 (pt_cmp (pc_notN (pe_ix (ixT (K := K) rfl) (pv 0) (pv 2) (fun _ _ => rfl))))))))
       (pss_one (ps_ret pe_bl))
       pss_nil))
       pss_nil)))))
       (pss_one (ps_ret (pe_cmp (pc_notN (pe_call GL hr1 rfl mL kL bL .nil pass0 (pa_cons (pv 0) pa_nil))) rfl))))))), ?_⟩
    have no : ∀ H', Same H H' → wayRow d = false → Q (.bl false) H' := fun H' s e => by
      have z := k H' s
      rwa [e] at z
    have no0 : wayRow d = false → Q (.bl false) H := no H (L2.Same.refl _)
    refine ⟨_, rfl, _, _, _, _, _, rfl, .ty _, hd.ty, kit_tuple d, _, rfl, iteNP (fun c => no0 ?_) (fun c => ?_)⟩
    · cases hd <;> first | rfl | exact absurd rfl c
    obtain ⟨es, rfl⟩ : ∃ es, d = .tuple es := by
      cases hd with
      | tup h1 h2 => exact ⟨_, rfl⟩
      | _ => simp [tyN] at c
    obtain ⟨a, xs, rfl, ha, hx⟩ := hd.inv_tup
    have lx := hx.len
    refine ⟨_, rfl, _, xs.length, rfl, .inr ⟨_, ha, rfl⟩, rfl, _, rfl, iteI (fun e0 => no0 ?_) (fun e0 => ?_)⟩
    · have : es = [] := List.length_eq_zero_iff.mp (by rw [← lx]; omega)
      rw [this]
      rfl
    obtain ⟨d0, ds, rfl⟩ : ∃ d0 ds, es = d0 :: ds := by
      cases es with
      | nil => exact absurd (by rw [lx]; rfl) e0
      | cons x y => exact ⟨x, y, rfl⟩
    obtain ⟨x0, ys, rfl, h0, hy⟩ := hx.inv_cons
    have a0 : atI (x0 :: ys) 0 = some x0 := atI_nat (j := 0) rfl
    refine ⟨_, rfl, a, _, 0, _, rfl, rfl, ha, a0, _, _, _, _, _, rfl, .ty _, h0.ty, kit_str d0, _, rfl, iteNP (fun cs => no0 ?_) (fun cs => ?_)⟩
    · cases d0 <;> first | rfl | exact absurd rfl cs
    obtain ⟨z, rfl⟩ : ∃ z, d0 = .str z := by
      cases h0 with
      | str z => exact ⟨z, rfl⟩
      | _ => simp [tyN] at cs
    cases h0
    have eS1 := eS z
    refine ⟨_, rfl, a, _, 0, _, rfl, rfl, ha, a0, z, _, rfl, rfl, eS1, ?_⟩
    cases ef : formsOf z with
    | none =>
      refine ⟨_, rfl, iteT (no0 ?_)⟩
      show (match formsOf z with | some fs => _ | none => false) = false
      rw [ef]
    | some fs =>
    have ew : wayRow (.tuple (.str z :: ds)) = (decide (ds.length = fs.length) && ((fs.zip ds).all fun p => p.1.ok p.2)) := by
      show (match formsOf z with | some fs => _ | none => false) = _
      rw [ef]
    have ew0 : wayRow0 (.tuple (.str z :: ds)) = (decide (ds.length = fs.length) && ((fs.zip ds).all fun p => p.1.ok0 p.2)) := by
      show (match formsOf z with | some fs => _ | none => false) = _
      rw [ef]
    rw [ef] at eS1
    refine ⟨_, rfl, iteF ?_⟩
    refine ⟨_, rfl, a, _, 0, _, rfl, rfl, ha, a0, ?_⟩
    dsimp only [gName, List.set]
    refine ⟨_, rfl, _, (V.str z :: ys).length, rfl, .inr ⟨_, ha, rfl⟩, _, rfl, aS, z, .int ((fs.length + 1 : Nat) : Int), rfl, rfl, ⟨esS, nS, _, DS.at_, DS.lit, eS1, ⟨_, rfl⟩⟩, rfl, _, rfl, iteNI (fun e1 => no0 ?_) (fun e1 => ?_)⟩
    · rw [ew, decide_eq_false, Bool.false_and]
      intro e2
      refine e1 ?_
      rw [List.length_cons, hy.len, e2]
    have el : ds.length = fs.length := by
      rw [← hy.len]
      rw [List.length_cons] at e1
      omega
    rw [decide_eq_true el, Bool.true_and] at ew ew0
    have lf : fs.length ≤ 9 := by
      rcases formsOf_cases ef with ⟨_, rfl⟩ | ⟨_, rfl⟩ | ⟨_, rfl⟩ | ⟨_, rfl⟩ | ⟨_, rfl⟩ <;> exact Nat.le_of_ble_eq_true rfl
    have eW1 := eW z
    rw [ef] at eW1
    have hW1 := hW z (by rw [ef]; rfl)
    have ly := hy.len
    refine ⟨_, rfl, _, (V.str z :: ys).length, rfl, .inr ⟨_, ha, rfl⟩, 1, (V.str z :: ys).length, rfl, ⟨by decide, by decide, by rw [List.length_cons]; omega, by rw [List.length_cons]; omega⟩, ?_⟩
    rw [show (((V.str z :: ys).length : Nat) - (1 : Int)).toNat = fs.length by rw [List.length_cons]; omega]
    refine for_range (lo := 1) (n := fs.length) (fun i σ H' => ∃ v2 : Option V, σ = [some (.ref a), some (.str z), v2] ∧ H' = H ∧ ∀ j g d, j < i → fs[j]? = some g → ds[j]? = some d → g.ok0 d = true) ⟨_, rfl, rfl, fun j g d h => absurd h (Nat.not_lt_zero _)⟩ ?_ ?_
    · rintro i σ H' hi ⟨v2, rfl, rfl, ih⟩
      have eg := List.getElem?_eq_getElem hi
      have ed := List.getElem?_eq_getElem (show i < ds.length by omega)
      generalize fs[i] = g at eg
      generalize ds[i] = d at ed
      obtain ⟨x, ex, hxd⟩ := hy.get ed
      obtain ⟨w1, w2⟩ := sg_at ef eg
      have ei : (1 : Int) + (i : Nat) = ((i + 1 : Nat) : Int) := by omega
      have ax : atI (V.str z :: ys) ((i + 1 : Nat) : Int) = some x := atI_nat (j := i + 1) (by rw [List.getElem?_cons_succ]; exact ex)
      have bad : g.ok0 d = false → wayRow (.tuple (.str z :: ds)) = false := fun e => by
        rw [ew, List.all_eq_false]
        have hz : (fs.zip ds)[i]? = some (g, d) := List.getElem?_zip_eq_some.mpr ⟨eg, ed⟩
        refine ⟨(g, d), List.mem_of_getElem? hz, fun e2 => ?_⟩
        rw [ok_ok0 e2] at e
        cases e
      have good : g.ok0 d = true → ∀ j g d, j < i + 1 → fs[j]? = some g → ds[j]? = some d → g.ok0 d = true := fun e j g' d' hj e1 e2 => by
        by_cases hj2 : j < i
        · exact ih j g' d' hj2 e1 e2
        · have : j = i := by omega
          subst this
          rw [eg] at e1
          rw [ed] at e2
          cases e1
          cases e2
          exact e
      rw [ei]
      dsimp only [gName, List.set]
      refine ⟨_, rfl, _, rfl, aW, z, .ref (TW z), rfl, rfl, ⟨esW, nW, _, DW.at_, DW.lit, eW1, rfl⟩, TW z, _, rfl, .inr (hW1 _), rfl, ?_, ?_⟩
      · unfold nsV
        rw [List.all_map]
        exact List.all_eq_true.mpr fun _ _ => rfl
      refine ⟨_, rfl, ?_⟩
      show (if inV _ _ = true then _ else _)
      rw [inV_ns, w1]
      cases hg : g.isW with
      | true =>
        refine iteT ?_
        refine ⟨_, rfl, _, rfl, a, _, _, _, rfl, rfl, ha, ax, _, _, _, _, _, rfl, .ty _, hxd.ty, kit_str d, _, rfl, iteNP (fun c => no0 (bad ?_)) (fun c => ⟨_, rfl, rfl, good ?_⟩)⟩
        · rw [okW_eq hg, decide_eq_false c]
        · rw [okW_eq hg, decide_eq_true c]
      | false =>
        refine iteF ?_
        have eo := okN_eq (d := d) hg
        apply two (A := cntD d = false)
        · intro hY
          refine ⟨_, rfl, _, rfl, a, _, _, _, rfl, rfl, ha, ax, x, d, rfl, hxd, _, rfl, ?_⟩
          cases hi : (isIntD d).isSome with
          | false =>
            refine iteT (hY ?_)
            cases d <;> first | rfl | cases hi
          | true =>
            obtain ⟨q, rfl⟩ := isIntD_some hi
            obtain rfl := hxd.inv_int
            refine iteF ?_
            refine ⟨_, rfl, _, rfl, a, _, _, _, rfl, rfl, ha, ax, _, _, rfl, rfl, _, rfl, iteP (fun c => hY ?_) (fun c => ⟨_, rfl, rfl, good ?_⟩)⟩
            · exact decide_eq_false (by omega)
            · rw [eo]
              show (decide (0 ≤ q) || _) = true
              rw [decide_eq_true (by omega), Bool.true_or]
        · intro hc
          rw [hc, Bool.false_or] at eo
          refine iteT ?_
          refine ⟨_, rfl, rfl, _, rfl, iteNS' (fun c => no0 (bad ?_)) fun c => ?_⟩
          · rw [eo, ← w2, decide_eq_false (fun h => c h.1), Bool.false_and]
          refine ⟨_, rfl, rfl, _, rfl, iteNI (fun c2 => no0 (bad ?_)) fun c2 => ?_⟩
          · rw [eo, ← w2, decide_eq_false (fun h => c2 (by omega)), Bool.false_and]
          rw [decide_eq_true ⟨c, by omega⟩] at w2
          rw [← w2, Bool.true_and] at eo
          refine ⟨_, rfl, _, rfl, a, _, _, _, rfl, rfl, ha, ax, ?_⟩
          cases hn : noneB d with
          | true =>
            rw [hn] at eo
            have : d = .none := by cases d <;> first | rfl | cases hn
            subst this
            obtain rfl := hxd.inv_none
            exact ⟨_, rfl, iteF ⟨_, rfl, rfl, good eo⟩⟩
          | false =>
            rw [hn] at eo
            have : x ≠ .non := fun e => by
              subst e
              cases hxd
              cases hn
            exact ⟨_, rfl, ite_nn this (no0 (bad eo))⟩
    · rintro σ H' ⟨v2, rfl, rfl, ih⟩
      have e0 : wayRow0 (.tuple (.str z :: ds)) = true := by
        rw [ew0, List.all_eq_true]
        rintro ⟨g, d⟩ hm
        obtain ⟨j, hj, e⟩ := List.mem_iff_getElem.mp hm
        have e : (fs.zip ds)[j]? = some (g, d) := by rw [List.getElem?_eq_getElem hj, e]
        obtain ⟨e1, e2⟩ := List.getElem?_zip_eq_some.mp e
        exact ih j g d (by have := (List.getElem?_eq_some_iff.mp e1).1; exact this) e1 e2
      obtain ⟨r, hr, er⟩ := row0_inv e0
      rw [er] at hd k e0
      obtain ⟨b, eb, hb⟩ := hd.row
      cases eb
      have kk := wayRow_kind r e0
      refine ⟨_, rfl, a, r, rfl, hb, fun hk H2 b s2 _ => ?_, fun hk => ?_⟩
      · rw [kk, hk] at k
        exact k H2 s2
      · rw [kk, hk] at k
        exact k _ (L2.Same.refl _)
end
end Wn

namespace Wn
open PySem L2 PySem.Spec PyProof.Rows
/-! ### repr of things with empty dicts deep within -/
/-- texts with numbers -/
def flatD : List (PyData × PyData) → Bool
  | [] => true
  | (.str _, .int _) :: r => flatD r
  | _ => false
mutual
def okQ : PyData → Bool
  | .dict ds => flatD ds
  | .list xs => okQs xs
  | .tuple xs => okQs xs
  | _ => true
def okQs : List PyData → Bool
  | [] => true
  | x :: xs => okQ x && okQs xs
end
section
variable {X : Cx} {pins : List (Addr × Obj)} {σ : L2.St} {H : Hp} {s : Shared}
theorem flat_reads {h : Heap} {H : Hp} : ∀ {kvs : List (Key × V)} {ds : List (PyData × PyData)} {vs : List (Key × Value)} {es : List DictEntry}, DkKV X.K H kvs ds → flatD ds = true → KV kvs vs → Pairs (mixKind X.prog X.w) es vs →
    ReadsAll h (es.map (·.key)) (ds.map (·.1)) [] ∧ ReadsAll h (es.map (·.val)) (ds.map (·.2)) []
  | [], [], vs, es, _, _, r, p => by
    cases r
    cases p
    exact ⟨.nil, .nil⟩
  | kv :: kvs, d :: ds, vs, es, q, f, r, p => by
    cases q with
    | @cons k v _ d' _ h1 h2 =>
    cases r with
    | @cons _ x _ _ r1 r2 =>
    cases p with
    | @cons e _ _ _ p1 p2 p3 =>
    cases h1 with
    | int i =>
      obtain ⟨q1, q2⟩ := flat_reads (h := h) h2 f r2 p3
      obtain ⟨e1, e2⟩ := r1
      obtain ⟨t, e2⟩ : ∃ t, x.2 = .int i t := e2
      have e1 : (Sum.inr k : Key) = x.1 := e1
      have p1 : keyIs x.1 e.key = true := p1
      rw [← e1] at p1
      rcases keyIs_shape p1 with ⟨j, t', z, _⟩ | ⟨y, t', z, w⟩
      · cases z
      · cases z
        refine ⟨?_, ?_⟩
        · show ReadsAll h (e.key :: _) _ []
          rw [w]
          exact .cons (as := []) (bs := []) (.str k t') q1
        · show ReadsAll h (e.val :: _) _ []
          rw [p2, e2]
          exact .cons (as := []) (bs := []) (.int i t) q2
    | _ => cases f
theorem dict_reads (I : Inv X pins σ H s) {a : Addr} {kvs : List (Key × V)} {ds : List (PyData × PyData)} (h : H a = some (.dK kvs)) (q : DkKV X.K H kvs ds) (f : flatD ds = true) : (a == sysModules) = false ∧ Reads s.heap (.ref a) (.dict ds) [a] := by
  obtain ⟨_, hm, vs, kv, o, es, ep, ho, hx, hd, _, pr, _⟩ := dk_of I.hok h
  obtain ⟨q1, q2⟩ := flat_reads (h := s.heap) q f kv pr
  exact ⟨hm, .dict (as := []) (bs := []) ho hx.1 hd q1 q2⟩
mutual
theorem readsQ (I : Inv X pins σ H s) : ∀ (d : PyData) (v : V) (u : Value), Dk X.K H v d → RelV v u → okQ d = true → ∃ as, Reads s.heap u d as
  | .none, _, _, h, r, _ => by
    cases h
    cases r
    exact ⟨_, .none⟩
  | .bool b, _, _, h, r, _ => by
    cases h
    cases r
    exact ⟨_, .bool b⟩
  | .int i, _, _, h, r, _ => by
    cases h
    obtain ⟨t, rfl⟩ := r
    exact ⟨_, .int i t⟩
  | .str x, _, _, h, r, _ => by
    cases h
    obtain ⟨t, rfl⟩ := r
    exact ⟨_, .str x t⟩
  | .list ds, _, _, h, r, ok => by
    cases h with
    | lst h1 h2 =>
      cases r
      obtain ⟨its, rv, ⟨o, n, ho, hc, _, hd⟩, _⟩ := I.list h1
      obtain ⟨as, hr⟩ := readsQs I ds _ its h2 rv ok
      exact ⟨_, .list ho hc hd hr⟩
  | .tuple ds, _, _, h, r, ok => by
    cases h with
    | tup h1 h2 =>
      cases r
      obtain ⟨its, rv, ⟨o, ho, hc, n, hd⟩, _⟩ := I.tuple h1
      obtain ⟨as, hr⟩ := readsQs I ds _ its h2 rv ok
      exact ⟨_, .tuple ho hc hd hr⟩
  | .dict ds, _, _, h, r, ok => by
    cases h with
    | dct h1 h2 =>
      cases r
      exact ⟨_, (dict_reads I h1 h2 ok).2⟩
theorem readsQs (I : Inv X pins σ H s) : ∀ (ds : List PyData) (vs : List V) (us : List Value), DkAll X.K H vs ds → Vals vs us → okQs ds = true → ∃ as, ReadsAll s.heap us ds as
  | [], _, _, h, r, _ => by
    cases h
    cases r
    exact ⟨_, .nil⟩
  | d :: ds, _, _, h, r, ok => by
    cases h with
    | cons h1 h2 =>
      cases r with
      | cons r1 r2 =>
        have ok : (okQ d && okQs ds) = true := ok
        rw [Bool.and_eq_true] at ok
        obtain ⟨as, q1⟩ := readsQ I d _ _ h1 r1 ok.1
        obtain ⟨bs, q2⟩ := readsQs I ds _ _ h2 r2 ok.2
        exact ⟨_, .cons q1 q2⟩
end
abbrev RpK (X : Cx) (s : Shared) (bs : List Addr) (n : Nat) (u : Value) (t : Str) : Prop := ReadAtMost s.heap n bs ∧ ReprK X.prog X.w bs s.heap n u t
theorem shows_len {xs : List PyData} : (PyData.shownAll xs).length = xs.length := by
  induction xs with
  | nil => rfl
  | cons x xs ih => show (PyData.shownAll xs).length + 1 = _; rw [ih]; rfl
mutual
theorem reprQ (I : Inv X pins σ H s) : ∀ (d : PyData) (v : V) (u : Value), Dk X.K H v d → RelV v u → okQ d = true → d.showable = true → d.shown.length ≤ sizeLine → ∃ bs, RpK X s bs d.depth u d.shown
  | .none, v, u, h, r, ok, sh, sz => by
    obtain ⟨as, q⟩ := readsQ I _ v u h r ok
    exact ReprK.of_reads q sh (PyData.noDict_hsm rfl) sz
  | .bool b, v, u, h, r, ok, sh, sz => by
    obtain ⟨as, q⟩ := readsQ I _ v u h r ok
    exact ReprK.of_reads q sh (PyData.noDict_hsm rfl) sz
  | .int i, v, u, h, r, ok, sh, sz => by
    obtain ⟨as, q⟩ := readsQ I _ v u h r ok
    exact ReprK.of_reads q sh (PyData.noDict_hsm rfl) sz
  | .str x, v, u, h, r, ok, sh, sz => by
    obtain ⟨as, q⟩ := readsQ I _ v u h r ok
    exact ReprK.of_reads q sh (PyData.noDict_hsm rfl) sz
  | .dict ds, v, u, h, r, ok, sh, sz => by
    cases h with
    | dct h1 h2 =>
      cases r
      obtain ⟨hm, q⟩ := dict_reads I h1 h2 ok
      refine ReprK.of_reads q sh (fun _ z => ?_) sz
      have z := List.mem_singleton.mp z
      rw [← z] at hm
      simp at hm
  | .list ds, v, u, h, r, ok, sh, sz => by
    obtain ⟨as0, q0⟩ := readsQ I _ v u h r ok
    cases h with
    | lst h1 h2 =>
      cases r
      have sz' : (listText (PyData.shownAll ds)).length ≤ sizeLine := by rw [PyData.shown] at sz; exact sz
      have sh' : PyData.showableAll ds = true := by rw [PyData.showable] at sh; exact sh
      obtain ⟨its, rv, ⟨o, n, ho, hc, _, hd⟩, _⟩ := I.list h1
      obtain ⟨bs, hb, hk⟩ := reprQs I ds _ its h2 rv ok sh' fun t ht => Nat.le_trans (listText_mem_le ht) sz'
      have na := not_mem_of_deeper q0 (show PyData.depthAll ds < (PyData.list ds).depth by simp only [PyData.depth]; omega) hb
      refine ⟨_ :: bs, ReadAtMost.cons q0 (by simp only [PyData.depth]; omega) hb, ?_⟩
      rw [PyData.depth, PyData.shown]
      cases its with
      | nil =>
        cases rv
        have e0 := h2.len
        cases ds with
        | cons x xs => cases e0
        | nil => exact ReprK.listEmpty ho hc hd
      | cons y l => exact ReprK.list ho hc hd na (by have := hk.length_eq; simpa using this) fun i z e => hk.item i z (by simpa using e)
  | .tuple ds, v, u, h, r, ok, sh, sz => by
    obtain ⟨as0, q0⟩ := readsQ I _ v u h r ok
    cases h with
    | tup h1 h2 =>
      cases r
      have sz' : (tupleText (PyData.shownAll ds)).length ≤ sizeLine := by rw [PyData.shown] at sz; exact sz
      have sh' : PyData.showableAll ds = true := by rw [PyData.showable] at sh; exact sh
      obtain ⟨its, rv, ⟨o, ho, hc, n, hd⟩, _⟩ := I.tuple h1
      obtain ⟨bs, hb, hk⟩ := reprQs I ds _ its h2 rv ok sh' fun t ht => Nat.le_trans (tupleText_mem_le ht) sz'
      have na := not_mem_of_deeper q0 (show PyData.depthAll ds < (PyData.tuple ds).depth by simp only [PyData.depth]; omega) hb
      refine ⟨_ :: bs, ReadAtMost.cons q0 (by simp only [PyData.depth]; omega) hb, ?_⟩
      rw [PyData.depth, PyData.shown]
      exact ReprK.tuple ho hc hd na hk
theorem reprQs (I : Inv X pins σ H s) : ∀ (ds : List PyData) (vs : List V) (us : List Value), DkAll X.K H vs ds → Vals vs us → okQs ds = true → PyData.showableAll ds = true → (∀ t ∈ PyData.shownAll ds, t.length ≤ sizeLine) →
    ∃ bs, ReadAtMost s.heap (PyData.depthAll ds) bs ∧ ReprAllK X.prog X.w bs s.heap (PyData.depthAll ds) us (PyData.shownAll ds)
  | [], _, _, h, r, _, _, _ => by
    cases h
    cases r
    exact ⟨[], (fun b hb => by cases hb), .nil⟩
  | d :: ds, _, _, h, r, ok, sh, sz => by
    cases h with
    | cons h1 h2 =>
      cases r with
      | cons r1 r2 =>
        have ok : (okQ d && okQs ds) = true := ok
        rw [Bool.and_eq_true] at ok
        rw [PyData.showableAll, Bool.and_eq_true] at sh
        rw [PyData.shownAll] at sz ⊢
        obtain ⟨b1, g1, k1⟩ := reprQ I d _ _ h1 r1 ok.1 sh.1 (sz _ List.mem_cons_self)
        obtain ⟨b2, g2, k2⟩ := reprQs I ds _ _ h2 r2 ok.2 sh.2 fun t ht => sz t (List.mem_cons_of_mem _ ht)
        have l1 : d.depth ≤ PyData.depthAll (d :: ds) := by rw [PyData.depthAll]; exact Nat.le_max_left _ _
        have l2 : PyData.depthAll ds ≤ PyData.depthAll (d :: ds) := by rw [PyData.depthAll]; exact Nat.le_max_right _ _
        exact ⟨b1 ++ b2, (g1.mono l1).append (g2.mono l2), .cons ((k1.more fun b hb => List.mem_append_left _ hb).level_le l1) (k2.more_le (fun b hb => List.mem_append_right _ hb) l2)⟩
end
end
section
variable {X : Cx}
/-- repr of such a thing, where no repr is under way -/
def rReprQ (K : PySem.W.Frag) : List V → Hp → VK → Prop := fun xs H Q => ∃ (x : V) (d : PyData), xs = [x] ∧ Dk K H x d ∧ okQ d = true ∧ d.showable = true ∧ d.depth ≤ 60 ∧ d.shown.length ≤ sizeLine ∧ Q (.str d.shown) H
theorem call_reprQ (hg : X.A.guards = some []) (hu : X.A.units + 64 < cLine) : CallR X (.builtin "repr") (rReprQ X.K) := by
  intro pins s σ H xs us Q I r h
  obtain ⟨x, d, rfl, hd, ok, sh, dep, sz, q⟩ := h
  obtain ⟨u, rfl, rx⟩ := vals1 r
  have fin : ∀ (h' : Heap) (t tk : Tok), (∀ b o, s.heap.get? b = some o → h'.get? b = some o) → EP X pins σ Q (.str d.shown t) { s with heap := h', toks := tk } := fun h' t tk hk => ⟨.str d.shown, H, I.kept hk, ⟨t, rfl⟩, q⟩
  have same : ∀ b o, s.heap.get? b = some o → s.heap.get? b = some o := fun _ _ e => e
  have hin : X.A.in1.units = X.A.units + 1 := rfl
  cases hd with
  | non =>
    obtain rfl : u = .none := rx
    exact PySem.P.repr_of_none (fin s.heap _ _ same)
  | bl b =>
    obtain rfl : u = .bool b := rx
    exact PySem.P.repr_of_bool (fin s.heap _ _ same)
  | int i =>
    obtain ⟨t, rfl⟩ : ∃ t, u = .int i t := rx
    exact PySem.P.repr_of_int (by simpa [PyData.showable] using sh) (fin s.heap _ _ same)
  | str z =>
    obtain ⟨t, rfl⟩ : ∃ t, u = .str z t := rx
    exact PySem.P.repr_of_str (fin s.heap _ _ same) (hsz := sz)
  | lst h1 h2 =>
    rename_i a vs ds
    obtain rfl : u = .ref a := rx
    obtain ⟨as0, q0⟩ := readsQ I _ _ _ (.lst h1 h2) rfl ok
    have sz' : (listText (PyData.shownAll ds)).length ≤ sizeLine := by rw [PyData.shown] at sz; exact sz
    have sh' : PyData.showableAll ds = true := by rw [PyData.showable] at sh; exact sh
    have dep' : PyData.depthAll ds + 1 ≤ 60 := by simp only [PyData.depth] at dep; omega
    obtain ⟨its, rv, ⟨o, n, ho, hc, _, ht⟩, _⟩ := I.list h1
    obtain ⟨bs, hb, hk⟩ := reprQs I ds _ its h2 rv ok sh' fun t ht => Nat.le_trans (listText_mem_le ht) sz'
    have na := not_mem_of_deeper q0 (show PyData.depthAll ds < (PyData.list ds).depth by simp only [PyData.depth]; omega) hb
    rw [PyData.shown] at fin
    refine call_repr_slot (by omega) ⟨o, ho, hc⟩ F.slot_list_repr.toG ?_
    cases its with
    | nil =>
      cases rv
      cases ds with
      | cons x xs => cases h2
      | nil => exact call_list_repr_empty ⟨o, ho, hc⟩ ho ht ⟨_, _, rfl, fin s.heap _ _ same⟩
    | cons y l => exact call_list_reprK ho hc ht na (by have := hk.length_eq; simpa using this) (fun i z e => hk.item i z (by simpa using e)) (A := X.A.in1) hg (fun b _ => Clear.nil b) (by rw [hin]; omega) same (fun h' t tk hk' => ⟨_, _, rfl, fin h' t tk hk'⟩) sz'
  | tup h1 h2 =>
    rename_i a vs ds
    obtain rfl : u = .ref a := rx
    obtain ⟨as0, q0⟩ := readsQ I _ _ _ (.tup h1 h2) rfl ok
    have sz' : (tupleText (PyData.shownAll ds)).length ≤ sizeLine := by rw [PyData.shown] at sz; exact sz
    have sh' : PyData.showableAll ds = true := by rw [PyData.showable] at sh; exact sh
    have dep' : PyData.depthAll ds + 1 ≤ 60 := by simp only [PyData.depth] at dep; omega
    obtain ⟨its, rv, ⟨o, ho, hc, n, ht⟩, _⟩ := I.tuple h1
    obtain ⟨bs, hb, hk⟩ := reprQs I ds _ its h2 rv ok sh' fun t ht => Nat.le_trans (tupleText_mem_le ht) sz'
    have na := not_mem_of_deeper q0 (show PyData.depthAll ds < (PyData.tuple ds).depth by simp only [PyData.depth]; omega) hb
    rw [PyData.shown] at fin
    refine call_repr_slot (by omega) ⟨o, ho, hc⟩ F.slot_tuple_repr ?_
    exact call_tuple_reprK ho hc ht na hk (A := X.A.in1) hg (fun b _ => Clear.nil b) (by rw [hin]; omega) same (fun h' t tk hk' => ⟨_, _, rfl, fin h' t tk hk'⟩) sz'
  | dct h1 h2 =>
    rename_i a kvs ds
    obtain rfl : u = .ref a := rx
    obtain ⟨hm, q⟩ := dict_reads I h1 h2 ok
    refine repr_of_reads' q sh (fun _ z => ?_) hg (by omega) same (fun h' t tk hk => fin h' t tk hk) (hsz := sz)
    have z := List.mem_singleton.mp z
    rw [← z] at hm
    simp at hm
end
end Wn

namespace Wn
open PySem L2 PySem.Spec PyProof.Rows
/-! ### the heap but for one address; bounds of things -/
def hid (M : List Addr) (H : Hp) : Hp := fun a => if a ∈ M then none else H a
section
variable {M : List Addr} {a : Addr} {H H' : Hp} {o : HO} {K : PySem.W.Frag}
theorem hid_sub : Same (hid M H) H := fun a o h => by
  unfold hid at h
  split at h
  · cases h
  · exact h
theorem hid_same (s : Same H H') : Same (hid M H) (hid M H') := fun a o h => by
  unfold hid at h ⊢
  split at h
  · cases h
  · rename_i n
    rw [if_neg n]
    exact s _ _ h
theorem hid_kp (s : Kp M H H') : Same (hid M H) (hid M H') := fun a o h => by
  unfold hid at h ⊢
  split at h
  · cases h
  · rename_i n
    rw [if_neg n]
    exact s _ _ n h
theorem hid_at (n : a ∉ M) (h : H a = some o) : hid M H a = some o := by
  unfold hid
  rw [if_neg n]
  exact h
theorem hid_ne (h : hid M H a = some o) : a ∉ M := fun e => by
  unfold hid at h
  rw [if_pos e] at h
  cases h
/-- the hidden ones are lists -/
def LstM (M : List Addr) (H : Hp) : Prop := ∀ d ∈ M, ∃ zs, H d = some (.lst zs)
theorem SqT.hid {xs : List V} (h : SqT K H a xs) (l : LstM M H) : SqT K (hid M H) a xs := by
  have n : ∀ o, H a = some o → (∀ zs, o ≠ .lst zs) → a ∉ M := fun o e z m => by
    obtain ⟨zs, g⟩ := l a m
    rw [e] at g
    exact z zs (Option.some.inj g)
  rcases h with (h | ⟨o, h⟩) | h
  · exact .inl (.inl (hid_at (n _ h fun zs => HO.noConfusion) h))
  · exact .inl (.inr ⟨o, hid_at (n _ h fun zs => HO.noConfusion) h⟩)
  · exact .inr h
end
theorem new_ne {d a : Addr} {H H' : Hp} {o : HO} (hd : H d = some o) (s : Same H H') (n : H' a = none) : a ≠ d := fun e => by
  rw [e, s _ _ hd] at n
  cases n
def flatG (M : Nat) : List (PyData × PyData) → Bool
  | [] => true
  | (.str x, .int i) :: r => PyData.strOk x && decide (i.natAbs ≤ M) && flatG M r
  | _ => false
theorem flatG_inv {M : Nat} {p : PyData × PyData} {r : List (PyData × PyData)} (h : flatG M (p :: r) = true) : ∃ x i, p = (.str x, .int i) ∧ PyData.strOk x = true ∧ i.natAbs ≤ M ∧ flatG M r = true := by
  unfold flatG at h
  split at h
  · rename_i e
    cases e
  · rename_i e
    cases e
    rw [Bool.and_eq_true, Bool.and_eq_true] at h
    exact ⟨_, _, rfl, h.1.1, of_decide_eq_true h.1.2, h.2⟩
  · cases h
theorem flatG_mono {M N : Nat} (h : M ≤ N) : ∀ {ds : List (PyData × PyData)}, flatG M ds = true → flatG N ds = true
  | [], _ => rfl
  | p :: r, g => by
    obtain ⟨x, i, rfl, h1, h2, h3⟩ := flatG_inv g
    show (PyData.strOk x && decide (i.natAbs ≤ N) && flatG N r) = true
    rw [h1, decide_eq_true (Nat.le_trans h2 h), flatG_mono h h3]
    rfl
theorem flatG_D {M : Nat} : ∀ {ds : List (PyData × PyData)}, flatG M ds = true → flatD ds = true
  | [], _ => rfl
  | p :: r, g => by
    obtain ⟨x, i, rfl, h1, h2, h3⟩ := flatG_inv g
    exact flatG_D (ds := r) h3
mutual
/-- dicts within only empty ones; numbers, signs, texts bounded -/
def gq (M : Nat) : PyData → Bool
  | .none | .bool _ => true
  | .int i => decide (i.natAbs ≤ M)
  | .str x => PyData.strOk x
  | .list xs | .tuple xs => gqs M xs
  | .dict ds => flatG M ds
def gqs (M : Nat) : List PyData → Bool
  | [] => true
  | x :: xs => gq M x && gqs M xs
end
theorem gqs_all {M : Nat} : ∀ {xs : List PyData}, gqs M xs = true ↔ ∀ x ∈ xs, gq M x = true
  | [] => ⟨(fun _ x h => by cases h), fun _ => rfl⟩
  | x :: xs => by
    show (gq M x && gqs M xs) = true ↔ _
    rw [Bool.and_eq_true, gqs_all, List.forall_mem_cons]
mutual
theorem gq_mono {M N : Nat} (h : M ≤ N) : ∀ {d : PyData}, gq M d = true → gq N d = true
  | .none, _ => rfl
  | .bool _, _ => rfl
  | .int i, g => decide_eq_true (Nat.le_trans (of_decide_eq_true g) h)
  | .str _, g => g
  | .list xs, g => gqs_mono h g
  | .tuple xs, g => gqs_mono h g
  | .dict ds, g => flatG_mono (ds := ds) h g
theorem gqs_mono {M N : Nat} (h : M ≤ N) : ∀ {ds : List PyData}, gqs M ds = true → gqs N ds = true
  | [], _ => rfl
  | x :: xs, g => by
    have g : (gq M x && gqs M xs) = true := g
    rw [Bool.and_eq_true] at g
    show (gq N x && gqs N xs) = true
    rw [gq_mono h g.1, gqs_mono h g.2]
    rfl
end
mutual
theorem gq_okQ {M : Nat} : ∀ {d : PyData}, gq M d = true → okQ d = true
  | .none, _ => rfl
  | .bool _, _ => rfl
  | .int i, g => rfl
  | .str _, g => rfl
  | .list xs, g => gqs_okQ (xs := xs) g
  | .tuple xs, g => gqs_okQ (xs := xs) g
  | .dict ds, g => flatG_D (ds := ds) g
theorem gqs_okQ {M : Nat} : ∀ {xs : List PyData}, gqs M xs = true → okQs xs = true
  | [], _ => rfl
  | x :: xs, g => by
    have g : (gq M x && gqs M xs) = true := g
    rw [Bool.and_eq_true] at g
    show (okQ x && okQs xs) = true
    rw [gq_okQ g.1, gqs_okQ g.2]
    rfl
end
theorem log2_10 {n k : Nat} (h : n ≤ 10 ^ k) (hk : k ≤ 200) : n.log2 < 1920 := by
  by_cases hx : n = 0
  · rw [hx]
    decide
  · have h2 : n ≤ 10 ^ 200 := Nat.le_trans h (Nat.pow_le_pow_right (by decide) hk)
    have h3 : (10 : Nat) ^ 200 < 2 ^ 700 := by decide +kernel
    have := (Nat.log2_lt hx).mpr (Nat.lt_of_le_of_lt h2 h3)
    omega
theorem flatG_show {M : Nat} (hM : M ≤ 10 ^ 30) : ∀ {ds : List (PyData × PyData)}, flatG M ds = true → PyData.showableKv ds = true
  | [], _ => rfl
  | p :: r, g => by
    obtain ⟨x, i, rfl, h1, h2, h3⟩ := flatG_inv g
    have e : (PyData.int i).showable = true := decide_eq_true (log2_10 (Nat.le_trans h2 hM) (by decide))
    unfold PyData.showableKv
    rw [e, flatG_show hM h3]
    rfl
mutual
theorem gq_show {M : Nat} (hM : M ≤ 10 ^ 30) : ∀ {d : PyData}, gq M d = true → d.showable = true
  | .none, _ => rfl
  | .bool _, _ => rfl
  | .int i, g => decide_eq_true (log2_10 (Nat.le_trans (of_decide_eq_true g) hM) (by decide))
  | .str _, g => rfl
  | .list xs, g => gqs_show hM (xs := xs) g
  | .tuple xs, g => gqs_show hM (xs := xs) g
  | .dict ds, g => flatG_show hM (ds := ds) g
theorem gqs_show {M : Nat} (hM : M ≤ 10 ^ 30) : ∀ {xs : List PyData}, gqs M xs = true → PyData.showableAll xs = true
  | [], _ => rfl
  | x :: xs, g => by
    have g : (gq M x && gqs M xs) = true := g
    rw [Bool.and_eq_true] at g
    unfold PyData.showableAll
    rw [gq_show hM g.1, gqs_show hM g.2]
    rfl
end
theorem int_leaf {M : Nat} (hM : M < 10 ^ 31) {i : Int} (g : i.natAbs ≤ M) : (PyData.int i).leavesShort 32 = true := by
  have := int_text_length_le10 (a := i) (k := 31) (by decide) (Nat.lt_of_le_of_lt g hM)
  refine decide_eq_true ?_
  show (Str.ofString (toString i)).length ≤ 32
  rw [PySem.ofString_length]
  exact this
theorem str_leaf {x : Str} (g : PyData.strOk x = true) : (PyData.str x).leavesShort 32 = true := by
  have g : x.cps.all (· < 0x110000) = true := g
  unfold PyData.leavesShort
  rw [List.all_eq_true]
  rw [← Array.all_toList, List.all_eq_true] at g
  intro c hc
  have := of_decide_eq_true (g c hc)
  exact decide_eq_true (by omega)
theorem flatG_leaf {M : Nat} (hM : M < 10 ^ 31) : ∀ {ds : List (PyData × PyData)}, flatG M ds = true → PyData.leavesShortKv 32 ds = true
  | [], _ => rfl
  | p :: r, g => by
    obtain ⟨x, i, rfl, h1, h2, h3⟩ := flatG_inv g
    unfold PyData.leavesShortKv
    rw [str_leaf h1, int_leaf hM h2, flatG_leaf hM h3]
    rfl
mutual
theorem gq_leaf {M : Nat} (hM : M < 10 ^ 31) : ∀ {d : PyData}, gq M d = true → d.leavesShort 32 = true
  | .none, _ => rfl
  | .bool _, _ => rfl
  | .int i, g => by
    have := int_text_length_le10 (a := i) (k := 31) (by decide) (Nat.lt_of_le_of_lt (of_decide_eq_true g) hM)
    refine decide_eq_true ?_
    show (Str.ofString (toString i)).length ≤ 32
    rw [PySem.ofString_length]; exact this
  | .str x, g => by
    have g : x.cps.all (· < 0x110000) = true := g
    unfold PyData.leavesShort
    rw [List.all_eq_true]
    rw [← Array.all_toList, List.all_eq_true] at g
    intro c hc
    have := of_decide_eq_true (g c hc)
    exact decide_eq_true (by omega)
  | .list xs, g => by
    unfold PyData.leavesShort
    exact gqs_leaf hM (xs := xs) g
  | .tuple xs, g => by
    unfold PyData.leavesShort
    exact gqs_leaf hM (xs := xs) g
  | .dict ds, g => by
    unfold PyData.leavesShort
    exact flatG_leaf hM (ds := ds) g
theorem gqs_leaf {M : Nat} (hM : M < 10 ^ 31) : ∀ {xs : List PyData}, gqs M xs = true → PyData.leavesShortAll 32 xs = true
  | [], _ => rfl
  | x :: xs, g => by
    have g : (gq M x && gqs M xs) = true := g
    rw [Bool.and_eq_true] at g
    unfold PyData.leavesShortAll
    rw [gq_leaf hM g.1, gqs_leaf hM g.2]
    rfl
end
mutual
/-- the longest list or tuple within -/
def wid : PyData → Nat
  | .list xs | .tuple xs => max xs.length (wids xs)
  | _ => 0
def wids : List PyData → Nat
  | [] => 0
  | x :: xs => max (wid x) (wids xs)
end
theorem wids_le {n : Nat} : ∀ {xs : List PyData}, wids xs ≤ n ↔ ∀ x ∈ xs, wid x ≤ n
  | [] => ⟨(fun _ x h => by cases h), fun _ => Nat.zero_le _⟩
  | x :: xs => by
    rw [List.forall_mem_cons, ← wids_le (xs := xs)]
    show max (wid x) (wids xs) ≤ n ↔ _
    omega
theorem wid_t {xs : List PyData} {n : Nat} : wid (.tuple xs) ≤ n ↔ xs.length ≤ n ∧ ∀ x ∈ xs, wid x ≤ n := by
  rw [← wids_le]
  show max xs.length (wids xs) ≤ n ↔ _
  omega
structure GQ (M N B W : Nat) (d : PyData) : Prop where
  g : gq M d = true
  n : d.depth ≤ N
  b : d.bulk ≤ B
  w : wid d ≤ W
theorem GQ.mono {M N B W M' N' B' W' : Nat} {d : PyData} (h : GQ M N B W d) (h1 : M ≤ M') (h2 : N ≤ N') (h3 : B ≤ B') (h4 : W ≤ W') : GQ M' N' B' W' d := ⟨gq_mono h1 h.g, Nat.le_trans h.n h2, Nat.le_trans h.b h3, Nat.le_trans h.w h4⟩
/-- what repr asks of a thing -/
theorem GQ.rep {M N B W : Nat} {d : PyData} (h : GQ M N B W d) (hM : M ≤ 10 ^ 30) (hN : N ≤ 60) (hB : B ≤ 490000) : okQ d = true ∧ d.showable = true ∧ d.depth ≤ 60 ∧ d.shown.length ≤ sizeLine := by
  refine ⟨gq_okQ h.g, gq_show hM h.g, Nat.le_trans h.n hN, ?_⟩
  have := PyData.shown_le_bulk 32 (by decide) d (gq_leaf (Nat.lt_of_le_of_lt hM (by decide)) h.g)
  have hb := h.b
  rw [sizeLine_eq]
  omega
/-! ### bulk, depth of lists -/
theorem bulk_app : ∀ (xs ys : List PyData), PyData.bulkAll (xs ++ ys) = PyData.bulkAll xs + PyData.bulkAll ys
  | [], ys => by
    show _ = 0 + _
    rw [Nat.zero_add]
    rfl
  | x :: xs, ys => by
    show PyData.bulk x + 1 + PyData.bulkAll (xs ++ ys) = PyData.bulk x + 1 + PyData.bulkAll xs + _
    rw [bulk_app xs ys]
    omega
theorem bulk_rev : ∀ (xs : List PyData), PyData.bulkAll xs.reverse = PyData.bulkAll xs
  | [] => rfl
  | x :: xs => by
    rw [List.reverse_cons, bulk_app, bulk_rev xs]
    show _ + (PyData.bulk x + 1 + 0) = PyData.bulk x + 1 + _
    omega
theorem bulk_split (xs : List PyData) (i : Nat) : PyData.bulkAll (xs.take i) + PyData.bulkAll (xs.drop i) = PyData.bulkAll xs := by
  rw [← bulk_app, List.take_append_drop]
theorem bulk_len : ∀ (xs : List PyData), xs.length ≤ PyData.bulkAll xs
  | [] => Nat.le_refl _
  | x :: xs => by
    have := bulk_len xs
    show xs.length + 1 ≤ PyData.bulk x + 1 + PyData.bulkAll xs
    omega
theorem depthAll_le {n : Nat} : ∀ {xs : List PyData}, PyData.depthAll xs ≤ n ↔ ∀ x ∈ xs, x.depth ≤ n
  | [] => ⟨(fun _ x h => by cases h), fun _ => Nat.zero_le _⟩
  | x :: xs => by
    rw [List.forall_mem_cons, ← depthAll_le (xs := xs)]
    show max x.depth (PyData.depthAll xs) ≤ n ↔ _
    omega
theorem depth_tup {xs : List PyData} : (PyData.tuple xs).depth = PyData.depthAll xs + 1 := by simp only [PyData.depth] <;> omega
theorem depth_lst {xs : List PyData} : (PyData.list xs).depth = PyData.depthAll xs + 1 := by simp only [PyData.depth] <;> omega
mutual
theorem Rp.dkh {K : PySem.W.Frag} {M : List Addr} {H : Hp} (l : LstM M H) : ∀ (D : PyData) {v : V}, Rp K H D v → Dk K (hid M H) v D
  | .none, v, h => by
    unfold Rp at h
    subst h
    exact .non
  | .bool b, v, h => by
    unfold Rp at h
    subst h
    exact .bl b
  | .int i, v, h => by
    unfold Rp at h
    subst h
    exact .int i
  | .str x, v, h => by
    unfold Rp at h
    subst h
    exact .str x
  | .tuple ds, v, h => by
    unfold Rp at h
    obtain ⟨a, xs, rfl, h1, h2⟩ := h
    exact .tup (SqT.hid h1 l) (RpL.dkh l ds h2)
  | .list _, v, h => by
    unfold Rp at h
    exact h.elim
  | .dict _, v, h => by
    unfold Rp at h
    exact h.elim
theorem RpL.dkh {K : PySem.W.Frag} {M : List Addr} {H : Hp} (l : LstM M H) : ∀ (ds : List PyData) {xs : List V}, RpL K H ds xs → DkAll K (hid M H) xs ds
  | [], xs, h => by
    unfold RpL at h
    subst h
    exact .nil
  | d :: ds, xs, h => by
    unfold RpL at h
    obtain ⟨v, r, rfl, h1, h2⟩ := h
    exact .cons (Rp.dkh l d h1) (RpL.dkh l ds h2)
end
end Wn

namespace Wn
open PySem L2
/-! ### right ways, made row by row -/
theorem monoF_snoc : ∀ {a x : Int} {l : List Int}, monoF a l = true → a ≤ x → (∀ y ∈ l, y ≤ x) → monoF a (l ++ [x]) = true
  | a, x, [], _, h, _ => by
    show (decide (a ≤ x) && true) = true
    rw [decide_eq_true h]
    rfl
  | a, x, c :: l, m, h, g => by
    have m : (decide (a ≤ c) && monoF c l) = true := m
    rw [Bool.and_eq_true] at m
    show (decide (a ≤ c) && monoF c (l ++ [x])) = true
    rw [m.1, monoF_snoc m.2 (g c List.mem_cons_self) (fun y hy => g y (List.mem_cons_of_mem _ hy))]
    rfl
def ledStep (a : List Wp) (w : Wp) : Bool := decide (w.2.2.1 < 4) && (!w.2.2.2 || ledOn a w)
theorem ledOk_snoc : ∀ {a ws : List Wp} {w : Wp}, ledOk a (ws ++ [w]) = (ledOk a ws && ledStep (a ++ ws) w)
  | a, [], w => by
    show (ledStep a w && true) = (true && ledStep (a ++ []) w)
    rw [Bool.and_true, Bool.true_and, List.append_nil]
  | a, v :: ws, w => by
    show (ledStep a v && ledOk (a ++ [v]) (ws ++ [w])) = ((ledStep a v && ledOk (a ++ [v]) ws) && ledStep (a ++ v :: ws) w)
    rw [ledOk_snoc, Bool.and_assoc, List.append_assoc]
    rfl
abbrev Fe (e : PyData) : Prop := gq 1000 e = true ∧ e.bulk ≤ 20 ∧ e.depth = 0 ∧ wid e = 0
structure Mw (f : Wy) (tl : List Wy) (b place : Int) : Prop where
  sent : f.isSent = true
  ns : ∀ r ∈ tl, r.isSent = false
  key : ∀ r ∈ tl, r.key = f.key
  mono : monoF f.beat (tl.map Wy.beat) = true
  lf : f.beat ≤ b
  le : ∀ r ∈ tl, r.beat ≤ b
  hrd : ∀ r ∈ tl, heardOk f r = true
  fst : ∀ r ∈ tl, ∀ v, r.wr = some v → v.2.2.2 = false → v.1 = place
  led : ledOk [] (tl.filterMap Wy.wr) = true
  okf : f.ok0
  ok : ∀ r ∈ tl, r.ok0
  kind : ∀ r ∈ tl, r.kindOk = true
  gf : ∀ e ∈ PyData.str f.w :: f.pd, Fe e
  g : ∀ r ∈ tl, ∀ e ∈ PyData.str r.w :: r.pd, Fe e
theorem mem_snoc {α : Type} {x y : α} {l : List α} {P : α → Prop} (h : ∀ x ∈ l, P x) (hy : P y) (hx : x ∈ l ++ [y]) : P x := by
  rcases List.mem_append.mp hx with z | z
  · exact h x z
  · rw [List.mem_singleton.mp z]
    exact hy
theorem Mw.snoc {f : Wy} {tl : List Wy} {b place : Int} (h : Mw f tl b place) {r : Wy} (hb : b ≤ r.beat) (hs : r.isSent = false) (hk : r.key = f.key) (hh : heardOk f r = true) (hf : ∀ v, r.wr = some v → v.2.2.2 = false → v.1 = place)
    (hl : ∀ v, r.wr = some v → ledStep (tl.filterMap Wy.wr) v = true) (ho : r.ok0) (hkd : r.kindOk = true) (hg : ∀ e ∈ PyData.str r.w :: r.pd, Fe e) : Mw f (tl ++ [r]) r.beat place := by
  refine ⟨h.sent, fun x => mem_snoc h.ns hs, fun x => mem_snoc h.key hk, ?_, Int.le_trans h.lf hb, fun x => mem_snoc (fun x hx => Int.le_trans (h.le x hx) hb) (Int.le_refl _), fun x => mem_snoc h.hrd hh, fun x => mem_snoc h.fst hf, ?_, h.okf, fun x => mem_snoc h.ok ho, fun x => mem_snoc h.kind hkd, h.gf, fun x => mem_snoc h.g hg⟩
  · rw [List.map_append]
    refine monoF_snoc h.mono (Int.le_trans h.lf hb) fun y hy => ?_
    obtain ⟨x, hx, rfl⟩ := List.mem_map.mp hy
    exact Int.le_trans (h.le x hx) hb
  · rw [List.filterMap_append]
    cases e : r.wr with
    | none =>
      rw [show [r].filterMap Wy.wr = [] by rw [List.filterMap_cons, e]; rfl, List.append_nil]
      exact h.led
    | some v =>
      rw [show [r].filterMap Wy.wr = [v] by rw [List.filterMap_cons, e]; rfl, ledOk_snoc, h.led, List.nil_append, hl v e]
      rfl
theorem Mw.mono_b {f : Wy} {tl : List Wy} {b b' place : Int} (h : Mw f tl b place) (hb : b ≤ b') : Mw f tl b' place :=
  ⟨h.sent, h.ns, h.key, h.mono, Int.le_trans h.lf hb, fun r hr => Int.le_trans (h.le r hr) hb, h.hrd, h.fst, h.led, h.okf, h.ok, h.kind, h.gf, h.g⟩
theorem sent_wr {f : Wy} (h : f.isSent = true) : f.wr = none ∧ heardOk f f = true ∧ f.kindOk = true := by
  cases f with
  | sent => exact ⟨rfl, rfl, rfl⟩
  | _ => cases h
theorem Mw.way {f : Wy} {tl : List Wy} {b place : Int} (h : Mw f tl b place) : wayB (f :: tl) = true := by
  obtain ⟨e1, e2, _⟩ := sent_wr h.sent
  show (f.isSent && tl.all (fun r => !r.isSent) && (f :: tl).all (fun r => decide (r.key = f.key)) && monoB ((f :: tl).map Wy.beat) && (firstsOk ((f :: tl).filterMap Wy.wr) && ledOk [] ((f :: tl).filterMap Wy.wr)) && (f :: tl).all (heardOk f)) = true
  have a1 : (tl.all fun r => !r.isSent) = true := List.all_eq_true.mpr fun r hr => by rw [h.ns r hr]; rfl
  have a2 : ((f :: tl).all fun r => decide (r.key = f.key)) = true := List.all_eq_true.mpr fun r hr => by
    rcases List.mem_cons.mp hr with rfl | hr
    · exact decide_eq_true rfl
    · exact decide_eq_true (h.key r hr)
  have a3 : monoB ((f :: tl).map Wy.beat) = true := by
    rw [List.map_cons, monoB_F]
    exact h.mono
  have ew : (f :: tl).filterMap Wy.wr = tl.filterMap Wy.wr := by
    rw [List.filterMap_cons, e1]
  have a4 : firstsOk ((f :: tl).filterMap Wy.wr) = true := by
    rw [ew]
    have all : ∀ v ∈ (tl.filterMap Wy.wr).filter (fun w => !w.2.2.2), v.1 = place := fun v hv => by
      obtain ⟨hv, hf⟩ := List.mem_filter.mp hv
      obtain ⟨r, hr, er⟩ := List.mem_filterMap.mp hv
      exact h.fst r hr v er (by simpa using hf)
    unfold firstsOk
    split
    · rfl
    · rename_i w r e
      rw [e] at all
      rw [List.all_eq_true]
      intro v hv
      rw [decide_eq_true_eq, all v hv, all w List.mem_cons_self]
  have a5 : ledOk [] ((f :: tl).filterMap Wy.wr) = true := by
    rw [ew]
    exact h.led
  have a6 : (f :: tl).all (heardOk f) = true := List.all_eq_true.mpr fun r hr => by
    rcases List.mem_cons.mp hr with rfl | hr
    · exact e2
    · exact h.hrd r hr
  rw [h.sent, a1, a2, a3, a4, a5, a6]
  rfl
theorem Wy.d_inj {r s : Wy} (h : r.d = s.d) : r = s := by
  have oo : ∀ {o p : Option Int}, oD o = oD p → o = p := fun {o p} h => by
    cases o <;> cases p <;> first | rfl | cases h
    rfl
  cases r <;> cases s <;> first
    | (simp only [Wy.d, Wy.w, Wy.pd, PyData.tuple.injEq, List.cons.injEq, PyData.str.injEq, PyData.int.injEq, and_true] at h
       obtain ⟨_, h⟩ := h
       simp only [Wy.sent.injEq, Wy.wrap.injEq, Wy.heard.injEq, Wy.drop.injEq, Wy.pass.injEq]
       first | exact h | exact ⟨h.1, h.2.1, h.2.2.1, h.2.2.2.1, oo h.2.2.2.2.1, h.2.2.2.2.2⟩)
    | (exfalso; simp only [Wy.d, Wy.w, PyData.tuple.injEq, List.cons.injEq, PyData.str.injEq] at h; exact absurd h.1 (by decide))
theorem ds_inj : ∀ {rs ss : List Wy}, rs.map Wy.d = ss.map Wy.d → rs = ss
  | [], [], _ => rfl
  | [], _ :: _, h => by cases h
  | _ :: _, [], h => by cases h
  | r :: rs, s :: ss, h => by
    rw [List.map_cons, List.map_cons, List.cons.injEq] at h
    rw [Wy.d_inj h.1, ds_inj h.2]
/-- rows as such -/
noncomputable def rowsOf : PyData → Option (List Wy)
  | d => open Classical in if h : ∃ rs : List Wy, d = .tuple (rs.map Wy.d) ∧ (∀ r ∈ rs, r.ok0 ∧ r.kindOk = true) then some h.choose else none
theorem rowsOf_some {rs : List Wy} (h : ∀ r ∈ rs, r.ok0 ∧ r.kindOk = true) : rowsOf (.tuple (rs.map Wy.d)) = some rs := by
  have e : ∃ ss : List Wy, (PyData.tuple (rs.map Wy.d)) = .tuple (ss.map Wy.d) ∧ (∀ r ∈ ss, r.ok0 ∧ r.kindOk = true) := ⟨rs, rfl, h⟩
  unfold rowsOf
  rw [dif_pos e]
  have z := e.choose_spec.1
  rw [PyData.tuple.injEq] at z
  exact congrArg some (ds_inj z).symm
/-- the judge of any thing -/
noncomputable def wayJ (d : PyData) : Bool := match rowsOf d with
  | some rs => wayB rs
  | none => false
/-- a text of a row's form has it -/
theorem form_of {r : Wy} (h : r.ok0) : wayRow0 r.d = true := by
  have dt0 : ∀ {w : Str} {fs : List Sg} {ds : List PyData}, formsOf w = some fs → ds.length = fs.length → wayRow0 (.tuple (.str w :: ds)) = ((fs.zip ds).all fun p => p.1.ok0 p.2) := fun {w fs ds} e l => by
    show (match formsOf w with | some fs => decide (ds.length = fs.length) && ((fs.zip ds).all fun p => p.1.ok0 p.2) | none => false) = _
    rw [e]
    dsimp only
    rw [decide_eq_true l, Bool.true_and]
  have n0 : ∀ {i : Int}, 0 ≤ i → Sg.ok0 .n (.int i) = true := fun h => decide_eq_true h
  have oo : ∀ {o : Option Int}, oOk o → Sg.ok0 .o (oD o) = true := fun {o} h => by
    cases o with
    | none => rfl
    | some i => exact decide_eq_true (show (0 : Int) ≤ i from h)
  have al : ∀ {f : Sg} {d : PyData} {fs : List Sg} {ds : List PyData}, f.ok0 d = true → ((fs.zip ds).all fun p => p.1.ok0 p.2) = true → (((f :: fs).zip (d :: ds)).all fun p => p.1.ok0 p.2) = true := fun h1 h2 => by
    rw [List.zip_cons_cons, List.all_cons, h1, h2]
    rfl
  cases r with
  | sent b r s n o t =>
    obtain ⟨h1, h2, h3, h4, h5⟩ := h
    exact (dt0 (fs := [.n, .n, .n, .n, .o, .t]) rfl rfl).trans (al (n0 h1) (al (n0 h2) (al (n0 h3) (al (n0 h4) (al (oo h5) (al rfl rfl))))))
  | wrap b r k s o n p q c =>
    obtain ⟨h1, h2, h3, h4, h5, h6, h7, h8⟩ := h
    exact (dt0 (fs := [.n, .n, .k, .n, .n, .n, .n, .n, .n]) rfl rfl).trans (al (n0 h1) (al (n0 h2) (al rfl (al (n0 h3) (al (n0 h4) (al (n0 h5) (al (n0 h6) (al (n0 h7) (al (n0 h8) rfl)))))))))
  | heard b r h' s n t =>
    obtain ⟨h1, h2, h3, h4, h5⟩ := h
    exact (dt0 (fs := [.n, .n, .n, .n, .n, .t]) rfl rfl).trans (al (n0 h1) (al (n0 h2) (al (n0 h3) (al (n0 h4) (al (n0 h5) (al rfl rfl))))))
  | drop b y r k s n =>
    obtain ⟨h1, h2, h3, h4⟩ := h
    exact (dt0 (fs := [.n, .t, .n, .k, .n, .n]) rfl rfl).trans (al (n0 h1) (al rfl (al (n0 h2) (al rfl (al (n0 h3) (al (n0 h4) rfl))))))
  | pass b g r s n x y z =>
    obtain ⟨h1, h2, h3, h4, h5, h6, h7, h8⟩ := h
    exact (dt0 (fs := [.n, .n, .n, .n, .n, .n, .n, .n]) rfl rfl).trans (al (n0 h1) (al (n0 h2) (al (n0 h3) (al (n0 h4) (al (n0 h5) (al (n0 h6) (al (n0 h7) (al (n0 h8) rfl))))))))
/-- rows of any things: either all are rows, or one is none -/
theorem row_inv {D : PyData} (h : wayRow D = true) : ∃ r : Wy, r.ok0 ∧ r.kindOk = true ∧ D = r.d := by
  have h0 : wayRow0 D = true := by
    unfold wayRow at h
    unfold wayRow0
    split at h
    · rename_i w ds
      split at h
      · rename_i fs ef
        rw [Bool.and_eq_true] at h ⊢
        refine ⟨h.1, ?_⟩
        rw [List.all_eq_true] at h ⊢
        intro p hp
        have := h.2 p hp
        obtain ⟨g, d⟩ := p
        cases g
        · exact this
        · cases d <;> exact this
        · cases d <;> exact this
        · cases d <;> first | rfl | cases this
      · cases h
    · cases h
  obtain ⟨r, hr, rfl⟩ := row0_inv h0
  rw [wayRow_kind r h0] at h
  exact ⟨r, hr, h, rfl⟩
theorem rows_inv : ∀ {ds : List PyData}, ds.all wayRow = true → ∃ rs : List Wy, ds = rs.map Wy.d ∧ ∀ r ∈ rs, r.ok0 ∧ r.kindOk = true
  | [], _ => ⟨[], rfl, fun r h => by cases h⟩
  | d :: ds, h => by
    rw [List.all_cons, Bool.and_eq_true] at h
    obtain ⟨r, h1, h2, rfl⟩ := row_inv h.1
    obtain ⟨rs, rfl, h3⟩ := rows_inv h.2
    exact ⟨r :: rs, rfl, fun x hx => by
      rcases List.mem_cons.mp hx with rfl | hx
      · exact ⟨h1, h2⟩
      · exact h3 x hx⟩
theorem wayJ_no {d : PyData} (h : ∀ ds, d = .tuple ds → ds.all wayRow = false) : wayJ d = false := by
  unfold wayJ
  have : rowsOf d = none := by
    unfold rowsOf
    rw [dif_neg]
    rintro ⟨rs, rfl, hr⟩
    have z := h _ rfl
    have : (rs.map Wy.d).all wayRow = true := List.all_eq_true.mpr fun x hx => by
      obtain ⟨r, hr2, rfl⟩ := List.mem_map.mp hx
      rw [wayRow_kind r (form_of (hr r hr2).1)]
      exact (hr r hr2).2
    rw [this] at z
    cases z
  rw [this]
theorem wayJ_rows {rs : List Wy} (h : ∀ r ∈ rs, r.ok0 ∧ r.kindOk = true) : wayJ (.tuple (rs.map Wy.d)) = wayB rs := by
  unfold wayJ
  rw [rowsOf_some h]
end Wn

set_option maxHeartbeats 800000
namespace Wn
open PySem L2
set_option pp.maxSteps 700
set_option pp.deepTerms false
local macro_rules | `(tactic| walk_at "h") => `(tactic| first | with_reducible assumption | (with_reducible exact upd_same) | (with_reducible apply g_upd; (walk_at "neq"); (walk_at "h")) | (with_reducible apply g_same; (with_reducible assumption); (walk_at "h")) | (with_reducible apply g_kp; (with_reducible assumption); (walk_at "nin"); (walk_at "h")) | (with_reducible apply g_tk; (with_reducible assumption); (walk_at "h")))
local macro_rules | `(tactic| walk_at "neq") => `(tactic| first | with_reducible assumption | (with_reducible apply Ne.symm; with_reducible assumption) | (with_reducible apply ne_upd; (with_reducible assumption)) | (with_reducible apply Ne.symm; with_reducible apply ne_upd; with_reducible assumption) | (with_reducible apply ne_fr; (with_reducible assumption); (walk_at "h")) | (with_reducible apply ne_fr'; (with_reducible assumption); (walk_at "h")) | (with_reducible apply ne_kd; (walk_at "h"); (walk_at "h"); (with_unfolding_all (intro z; cases z))))
local macro_rules | `(tactic| walk_at "nin") => `(tactic| first | (with_reducible exact nin0) | with_reducible assumption | (with_reducible apply ninc; (walk_at "neq"); (walk_at "nin")))
local macro_rules | `(tactic| walk_at "none") => `(tactic| first | with_reducible assumption | (with_reducible apply n_upd; (with_reducible assumption)) | (with_reducible apply n_same; (with_reducible assumption); (walk_at "none")) | (with_reducible apply n_kp; (with_reducible assumption); (walk_at "nin"); (walk_at "none")))
local macro_rules | `(tactic| walk_at "mem") => `(tactic| first | (with_reducible exact List.mem_cons_self) | (with_reducible apply List.mem_cons_of_mem; (walk_at "mem")))
local macro_rules | `(tactic| walk_at "am") => `(tactic| first | (with_reducible exact am0) | (with_reducible apply am1; (first | (apply Or.inl; walk_at "mem") | (apply Or.inr; walk_at "none")); (walk_at "am")))
local macro_rules | `(tactic| walk_at "tk") => `(tactic| first | (with_reducible exact TK.refl _) | with_reducible assumption | (with_reducible apply t_tk; (with_reducible assumption); (walk_at "tk")) | (with_reducible apply t_same; (with_reducible assumption); (walk_at "tk")) | (with_reducible apply t_new; (with_reducible assumption); (walk_at "tk")) | (with_reducible apply t_wr; (walk_at "h"); (with_unfolding_all rfl); (walk_at "tk")))
local macro_rules | `(tactic| walk_at "same") => `(tactic| first | (with_reducible exact L2.Same.refl _) | with_reducible assumption | (with_reducible apply s_same; (with_reducible assumption); (walk_at "same")) | (with_reducible apply s_new; (with_reducible assumption); (walk_at "same")) | (with_reducible apply s_wrn; (walk_at "none"); (walk_at "same")))
local macro_rules | `(tactic| walk_at "kp") => `(tactic| first | (with_reducible exact Kp.refl _ _) | with_reducible assumption | (with_reducible apply k_same; (with_reducible assumption); (walk_at "kp")) | (with_reducible apply k_kp; (with_reducible assumption); (walk_at "kp")) | (with_reducible apply k_kpm; (with_reducible assumption); (walk_at "am"); (walk_at "kp")) | (with_reducible apply k_new; (with_reducible assumption); (walk_at "kp")) | (with_reducible apply k_wr; (walk_at "mem"); (walk_at "kp")) | (with_reducible apply k_wrn; (walk_at "none"); (walk_at "kp")))
local macro_rules | `(tactic| walk_at "rp") => `(tactic| first | with_reducible assumption | (with_reducible exact Rp.int) | (with_reducible exact Rp.str) | (with_reducible exact Rp.none) | (with_reducible exact Rp.bool) | (with_reducible apply Rp.tk'; (with_reducible assumption); (walk_at "tk")) | (with_reducible apply Rp.tup; (walk_at "h"); (walk_at "rpl")))
local macro_rules | `(tactic| walk_at "rpl") => `(tactic| first | with_reducible assumption | (with_reducible exact RpL.nil) | (with_reducible apply RpL.tk'; (with_reducible assumption); (walk_at "tk")) | (with_reducible apply RpL.cons; (walk_at "rp"); (walk_at "rpl")))
local macro_rules | `(tactic| walk_at "g") => `(tactic| repeat (first | refine ⟨_, rfl, ?_⟩ | refine ⟨_, _, rfl, rfl, ?_⟩ | refine ⟨rfl, _, rfl, ?_⟩ | refine ⟨_, _, rfl, rfl, (by first | decide | omega), ?_⟩))
abbrev sLedOn : Stmt := top 11
abbrev sWraps : Stmt := top 12
abbrev sHeardW : Stmt := top 13
abbrev sWay : Stmt := top 14
/-- rows where they lie -/
def WyAll (K : PySem.W.Frag) (H : Hp) (xs : List V) (rs : List Wy) : Prop := xs.length = rs.length ∧ ∀ (i : Nat) (r : Wy), rs[i]? = some r → ∃ a, xs[i]? = some (.ref a) ∧ SqT K H a r.v
theorem WyAll.sm {K : PySem.W.Frag} {H H' : Hp} {xs : List V} {rs : List Wy} (h : WyAll K H xs rs) (s : Same H H') : WyAll K H' xs rs := ⟨h.1, fun i r e => let ⟨a, e1, e2⟩ := h.2 i r e; ⟨a, e1, SqT.sm e2 s⟩⟩
theorem WyAll.take {K : PySem.W.Frag} {H : Hp} {xs : List V} {rs : List Wy} (h : WyAll K H xs rs) (n : Nat) : WyAll K H (xs.take n) (rs.take n) := ⟨by rw [List.length_take, List.length_take, h.1], fun i r e => by
  by_cases hi : i < n
  · rw [List.getElem?_take_of_lt hi] at e ⊢
    exact h.2 i r e
  · rw [List.getElem?_take, if_neg hi] at e
    cases e⟩
theorem WyAll.drop {K : PySem.W.Frag} {H : Hp} {xs : List V} {rs : List Wy} (h : WyAll K H xs rs) (n : Nat) : WyAll K H (xs.drop n) (rs.drop n) := ⟨by rw [List.length_drop, List.length_drop, h.1], fun i r e => by
  rw [List.getElem?_drop] at e ⊢
  exact h.2 _ r e⟩
theorem WyAll.of {K : PySem.W.Frag} {H : Hp} : ∀ {rs : List Wy} {xs : List V}, DkAll K H xs (rs.map Wy.d) → WyAll K H xs rs := fun {rs xs} h => ⟨by rw [h.len, List.length_map], fun i r e => by
  obtain ⟨v, e1, e2⟩ := h.get (i := i) (d := r.d) (by rw [List.getElem?_map, e]; rfl)
  obtain ⟨a, rfl, e3⟩ := e2.row
  exact ⟨a, e1, e3⟩⟩
theorem wr_at {r : Wy} {w : Wp} (h : r.wr = some w) : atI r.v 7 = some (.int w.1) ∧ atI r.v 8 = some (.int w.2.1) ∧ atI r.v 9 = some (.int w.2.2.1) ∧ ∃ k, atI r.v 3 = some (.str k) ∧ w.2.2.2 = isFk k := by
  cases r with
  | wrap b r k s o n p q c =>
    cases h
    exact ⟨atI_nat (j := 7) rfl, atI_nat (j := 8) rfl, atI_nat (j := 9) rfl, k, atI_nat (j := 3) rfl, rfl⟩
  | _ => cases h
/-- the wraps of rows that are wraps -/
def WrOf (rs : List Wy) (ws : List Wp) : Prop := rs.map Wy.wr = ws.map some
theorem WrOf.at {rs : List Wy} {ws : List Wp} (h : WrOf rs ws) {i : Nat} {w : Wp} (e : ws[i]? = some w) : ∃ r, rs[i]? = some r ∧ r.wr = some w := by
  have z : (rs.map Wy.wr)[i]? = some (some w) := by rw [h, List.getElem?_map, e]; rfl
  rw [List.getElem?_map] at z
  cases er : rs[i]? with
  | none => rw [er] at z; cases z
  | some r => rw [er] at z; exact ⟨r, rfl, Option.some.inj z⟩
theorem WrOf.len {rs : List Wy} {ws : List Wp} (h : WrOf rs ws) : rs.length = ws.length := by
  have := congrArg List.length h
  rwa [List.length_map, List.length_map] at this
theorem WrOf.take {rs : List Wy} {ws : List Wp} (h : WrOf rs ws) (n : Nat) : WrOf (rs.take n) (ws.take n) := by
  unfold WrOf
  rw [List.map_take, List.map_take, h]
theorem wrOf_filter : ∀ rs : List Wy, WrOf (rs.filter fun r => decide (r.w = ("wrapped" : Str))) (rs.filterMap Wy.wr)
  | [] => rfl
  | r :: rs => by
    have ih := wrOf_filter rs
    unfold WrOf at ih ⊢
    cases r with
    | wrap =>
      rw [List.filter_cons_of_pos (by rfl), List.filterMap_cons]
      show _ :: _ = _ :: _
      rw [ih]
      rfl
    | _ =>
      rw [List.filter_cons_of_neg (by intro h; exact nomatch (show (false : Bool) = true from h)), List.filterMap_cons]
      exact ih
def spLed (K : PySem.W.Frag) : Sp := fun vs H Q _ => ∃ (a l : Addr) (r : Wy) (w : Wp) (xs : List V) (rs : List Wy) (ws : List Wp), vs = [.ref a, .ref l] ∧ SqT K H a r.v ∧ r.wr = some w ∧ SqL K H l xs ∧ WyAll K H xs rs ∧ WrOf rs ws ∧ rs.length ≤ 1000 ∧
  ∀ H', Same H H' → Q (.bl (ledOn ws w)) H'
def spWraps (K : PySem.W.Frag) : Sp := fun vs H Q _ => ∃ (l : Addr) (xs : List V) (rs : List Wy) (ws : List Wp), vs = [.ref l] ∧ SqL K H l xs ∧ WyAll K H xs rs ∧ WrOf rs ws ∧ rs.length ≤ 1000 ∧ ∀ H', Same H H' → Q (.bl (firstsOk ws && ledOk [] ws)) H'
def spHeardW (K : PySem.W.Frag) : Sp := fun vs H Q _ => ∃ (a f : Addr) (r g : Wy), vs = [.ref a, .ref f] ∧ SqT K H a r.v ∧ SqT K H f g.v ∧ g.isSent = true ∧ r.w = ("heard" : Str) ∧ Q (.bl (heardOk g r)) H
def spWay (K : PySem.W.Frag) : Sp := fun vs H Q _ => ∃ (v : V) (d : PyData), vs = [v] ∧ Dk K H v d ∧ wid d ≤ 1000 ∧ ∀ H', Same H H' → Q (.bl (wayJ d)) H'
theorem atI_cons0 {x : V} {xs : List V} : atI (x :: xs) 0 = some x := atI_nat (j := 0) rfl
theorem zip_filter {α β : Type} {p : β → Bool} : ∀ {xs : List α} {ws : List β}, xs.length = ws.length → ((xs.zip ws).filter (fun u => p u.2)).map (·.2) = ws.filter p
  | [], [], _ => rfl
  | [], _ :: _, h => by cases h
  | _ :: _, [], h => by cases h
  | x :: xs, w :: ws, h => by
    have ih := zip_filter (p := p) (xs := xs) (ws := ws) (by simpa using h)
    rw [List.zip_cons_cons]
    cases e : p w with
    | true => rw [List.filter_cons_of_pos e, List.filter_cons_of_pos (by exact e), List.map_cons, ih]
    | false => rw [List.filter_cons_of_neg (by rw [e]; exact Bool.false_ne_true), List.filter_cons_of_neg (by rw [e]; exact Bool.false_ne_true), ih]
theorem ledOk_app2 : ∀ {a ws vs : List Wp}, ledOk a (ws ++ vs) = (ledOk a ws && ledOk (a ++ ws) vs)
  | a, [], vs => by rw [List.nil_append, List.append_nil]; exact (Bool.true_and _).symm
  | a, w :: ws, vs => by
    show (ledStep a w && ledOk (a ++ [w]) (ws ++ vs)) = ((ledStep a w && ledOk (a ++ [w]) ws) && ledOk (a ++ w :: ws) vs)
    rw [ledOk_app2, Bool.and_assoc, List.append_assoc]
    rfl
theorem ledOk_take {a ws : List Wp} {i : Nat} : ledOk a ws = (ledOk a (ws.take i) && ledOk (a ++ ws.take i) (ws.drop i)) := by
  rw [← ledOk_app2, List.take_append_drop]
theorem sent_w (r : Wy) : r.isSent = decide (r.w = ("sent" : Str)) := by
  cases r <;> rfl
theorem key_eqv {p q : Int × Int × Int} : PyData.eqv (.tuple (keyD p)) (.tuple (keyD q)) = decide (p = q) := by
  obtain ⟨p1, p2, p3⟩ := p
  obtain ⟨q1, q2, q3⟩ := q
  show ((p1 == q1) && ((p2 == q2) && ((p3 == q3) && true))) = _
  rw [Bool.eq_iff_iff]
  simp
theorem beat_at (r : Wy) : atI r.v 1 = some (.int r.beat) := by
  cases r <;> exact atI_nat (j := 1) rfl
theorem walk_zipW {K : PySem.W.Frag} {a b : Addr} {xs ys : List V} {n : Nat} (hn : n = min xs.length ys.length) : Walk (RZ.ItzT K a b) n (fun H => SqT K H a xs ∧ SqT K H b ys) (YPair (fun i => xs[i]?) (fun i => ys[i]?)) := by
  subst hn
  refine ⟨fun i _ hi q => ?_, fun _ q => ⟨xs, ys, q.1, q.2, by omega⟩, fun i H v H' _ q y => ?_⟩
  · have h1 : i < xs.length := by omega
    have h2 : i < ys.length := by omega
    exact ⟨xs, ys, xs[i], ys[i], q.1, q.2, by simp [h1], by simp [h2]⟩
  · obtain ⟨T, x, z, h1, h2, h3, h4, h5⟩ := y
    exact ⟨T, x, z, h1, h2, h3, h4 xs q.1, h5 ys q.2⟩
theorem heard_filter {f : Wy} (hf : f.isSent = true) : ∀ rs : List Wy, (rs.filter fun r => decide (r.w = ("heard" : Str))).all (id ∘ heardOk f) = rs.all (heardOk f)
  | [] => rfl
  | r :: rs => by
    have ih := heard_filter hf rs
    cases f with
    | sent b0 r0 s0 n0 o t =>
      cases r with
      | heard =>
        rw [List.filter_cons_of_pos (by rfl), List.all_cons, List.all_cons, ih]
        rfl
      | _ =>
        rw [List.filter_cons_of_neg (by intro h; exact nomatch (show (false : Bool) = true from h)), List.all_cons, ih]
        exact (Bool.true_and _).symm
    | _ => cases hf

section
variable {P : Program} {w : World} {K : PySem.W.Frag} {mg : Str → Option Value} {base : Heap}
theorem scLedOn : FnScope ["row", "ahead", "one"] ["row", "ahead"] (defScope sLedOn) := ⟨rfl, rfl, rfl, by decide +kernel, rfl, by decide +kernel, by decide +kernel⟩
theorem ok_ledon {f : Addr} {fd : FuncData} (F : Fun K "is_led_on" "is_led_on" sLedOn f fd) (B : PWb mg) : FnOk P w K mg base CX0 1 f fd ["row", "ahead"] (spLed K) := by
  refine F.ok scLedOn (fun vs H Q E h => ?_) (fun cdv A outer s H vs Q E hr h => ?_)
  · obtain ⟨a, l, r, w, xs, rs, ws, rfl, _⟩ := h
    rfl
  · obtain ⟨a, l, r, v, xs, rs, ws, rfl, ha, er, hl, hx, hw, le, k⟩ := h
    refine ⟨_, (pss_one (ps_ret (pe_callB (crAnyK (K := K) rfl rfl) (by rfl) B.any (by decide +kernel) (pa_cons (pe_lc (own := [("one", 2)]) (g := (gName 2)) (tt := tYes) rfl scLedOn.nd (pi_list (pv 1)) (blkOk_by (N := ["row", "ahead", "one"]) (sc := defScope sLedOn) (by decide +kernel))
       (fun _ _ _ _ _ => (pg_name (i := 2) scLedOn.nd rfl (Or.inl rfl))) (fun _ _ _ _ _ => pts_nil) (fun _ _ _ _ _ => (pe_and (pe_cmpR op_eq (pe_ix (ixT (K := K) rfl) (pv 2) pe_int (fun _ _ => rfl)) (pe_ix (ixT (K := K) rfl) (pv 0) pe_int (fun _ _ => rfl)) (nomark _)) (pe_one (pe_cmpR op_gt (pe_ix (ixT (K := K) rfl) (pv 2) pe_int (fun _ _ => rfl)) (pe_ix (ixT (K := K) rfl) (pv 0) pe_int (fun _ _ => rfl)) (nomark _)))))) pa_nil)))), ?_⟩
    obtain ⟨r7, r8, r9, _⟩ := wr_at er
    have lw := hw.len
    refine ⟨_, rfl, l, rfl, ⟨_, hl⟩, fun D nD => ?_⟩
    refine comp_ls (L := ws) ((walk_list (K := K) (a := l) (xs := xs)).cast (by rw [hx.1, lw])) (fun H' s' => SqL.sm hl s') (fun _ => true) (fun u => .bl (decide (u.2.1 = v.1) && decide (v.2.2.1 < u.2.2.1))) nD (by omega) ?_ ?_
    · rintro j u y H' H'' Q' N' hj s' ⟨rfl, hv⟩ hQ hN
      obtain ⟨r1, er1, ew1⟩ := hw.at hj
      obtain ⟨b, eb, hb⟩ := hx.2 j r1 er1
      rw [eb] at hv
      cases hv
      obtain ⟨_, q8, q9, _⟩ := wr_at ew1
      refine ⟨rfl, tYes_t (iteT ?_)⟩
      have hb' := SqT.sm hb s'
      have ha' := SqT.sm ha s'
      have hQ := hQ rfl H'' (L2.Same.refl _)
      refine ⟨_, rfl, b, _, _, _, rfl, rfl, hb', q8, _, rfl, a, _, _, _, rfl, rfl, ha', r7, rfl, _, rfl, iteI (fun c => ?_) (fun c => ?_)⟩
      · rw [decide_eq_true c, Bool.true_and] at hQ
        exact ⟨_, rfl, b, _, _, _, rfl, rfl, hb', q9, _, rfl, a, _, _, _, rfl, rfl, ha', r9, _, _, rfl, rfl, hQ⟩
      · rw [decide_eq_false c, Bool.false_and] at hQ
        exact hQ
    intro H1 s1 h1
    rw [filter_all] at h1
    refine ⟨D, ws.map (fun u => decide (u.2.1 = v.1) && decide (v.2.2.1 < u.2.2.1)), rfl, .inl (.inl (by rw [List.map_map]; exact h1)), ?_⟩
    rw [List.any_map]
    exact k H1 s1
theorem scWraps : FnScope ["rows", "firsts", "at", "row"] ["rows"] (defScope sWraps) := ⟨rfl, rfl, rfl, by decide +kernel, rfl, by decide +kernel, by decide +kernel⟩
theorem ok_wraps {f : Addr} {fd : FuncData} (F : Fun K "are_wraps" "are_wraps" sWraps f fd) (B : PWb mg) (T : PW K w mg) (cO : Cd P w K mg base 1 "is_led_on" ["row", "ahead"] (spLed K)) : FnOk P w K mg base CX0 2 f fd ["rows"] (spWraps K) := by
  obtain ⟨tC, mCOUNT⟩ := T.count
  obtain ⟨fO, fdO, GO, mO, kO, bO⟩ := cO
  refine F.ok scWraps (fun vs H Q E h => ?_) (fun cdv A outer s H vs Q E hr h => ?_)
  · obtain ⟨l, xs, rs, ws, rfl, _⟩ := h
    rfl
  · obtain ⟨l, xs, rs, ws, rfl, hl, hx, hw, le, k⟩ := h
    have hr1 : Room 1 _ := hr.mono (by decide)
    refine ⟨_, (pss_cons (ps_set (i := 1) scWraps.nd rfl (Or.inr rfl) (pe_lc (own := [("row", 3)]) (g := (gName 3)) (tt := _) rfl scWraps.nd (pi_list (pv 0)) (blkOk_by (N := ["rows", "firsts", "at", "row"]) (sc := defScope sWraps) (by decide +kernel))
       (fun _ _ _ _ _ => (pg_name (i := 3) scWraps.nd rfl (Or.inl rfl))) (fun _ _ _ _ _ => (pts_one (pt_cmpR op_ne (pe_ix (ixT (K := K) rfl) (pv 3) pe_int (fun _ _ => rfl)) pe_str (nomark _)))) (fun _ _ _ _ _ => (pv 3))))
       (pss_cons (ps_if (pt_val (pe_callB (crAnyK (K := K) rfl rfl) (by rfl) B.any (by decide +kernel) (pa_cons (pe_lc (own := [("row", 3)]) (g := (gName 3)) (tt := tYes) rfl scWraps.nd (pi_list (pv 1)) (blkOk_by (N := ["rows", "firsts", "at", "row"]) (sc := defScope sWraps) (by decide +kernel))
       (fun _ _ _ _ _ => (pg_name (i := 3) scWraps.nd rfl (Or.inl rfl))) (fun _ _ _ _ _ => pts_nil) (fun _ _ _ _ _ => (pe_cmpR op_ne (pe_ix (ixT (K := K) rfl) (pv 3) pe_int (fun _ _ => rfl)) (pe_ix (ixT (K := K) rfl) (pe_ix (ixL (K := K) rfl) (pv 1) pe_int (fun _ _ => rfl)) pe_int (fun _ _ => rfl)) (nomark _)))) pa_nil)))
       (pss_one (ps_ret pe_bl))
       pss_nil)
       (pss_cons (ps_for PassesOwn.never rfl (pi_enum (by rfl) B.enumerate (pa_cons (pv 0) pa_nil)) (pg_tup rfl (pgs_cons (pg_name (i := 2) scWraps.nd rfl (Or.inl rfl)) (pgs_cons (pg_name (i := 3) scWraps.nd rfl (Or.inl rfl)) pgs_nil)))
       (pss_one (ps_if (PW.pt (pw_or (pt_cmpR op_ge (pe_ix (ixT (K := K) rfl) (pv 3) pe_int (fun _ _ => rfl)) (pe_glob (v := .int 4) (by rfl) mCOUNT ⟨_, rfl⟩) (nomark _)) (pw_or1 (PW.pt (pw_and (pt_cmpR op_eq (pe_ix (ixT (K := K) rfl) (pv 3) pe_int (fun _ _ => rfl)) pe_str (nomark _)) (pw_and1 (pt_not (pt_val (pe_call GO hr1 rfl mO kO bO .nil pass0 (pa_cons (pv 3) (pa_cons (pe_slice (slL (K := K) rfl) (pv 0) po_none (po_some (pv 2))) pa_nil)))))))))))
       (pss_one (ps_ret pe_bl))
       pss_nil)))
       (pss_one (ps_ret pe_bl))))), ?_⟩
    have lw := hw.len
    refine ⟨_, rfl, l, rfl, ⟨_, hl⟩, fun D nD => ?_⟩
    have pairs : ∀ u ∈ xs.zip ws, ∃ (b : Addr) (r : Wy), u.1 = V.ref b ∧ SqT K H b r.v ∧ r.wr = some u.2 := fun u hu => by
      obtain ⟨j, hj⟩ := List.mem_iff_getElem?.mp hu
      obtain ⟨e1, e2⟩ := List.getElem?_zip_eq_some.mp hj
      obtain ⟨r1, er1, ew1⟩ := hw.at e2
      obtain ⟨b, eb, hb⟩ := hx.2 j r1 er1
      rw [eb] at e1
      exact ⟨b, r1, (Option.some.inj e1).symm, hb, ew1⟩
    have lz : (xs.zip ws).length = ws.length := by rw [List.length_zip, hx.1, lw, Nat.min_self]
    refine comp_ls (L := xs.zip ws) ((walk_list (K := K) (a := l) (xs := xs)).cast (by rw [lz, hx.1, lw])) (fun H' s' => SqL.sm hl s') (fun u => !u.2.2.2.2) (fun u => u.1) nD (by omega) ?_ ?_
    · rintro j u y H' H'' Q' N' hj s' ⟨rfl, hv⟩ hQ hN
      obtain ⟨b, r1, eu, hb, ew1⟩ := pairs u (List.mem_of_getElem? hj)
      obtain ⟨e1, e2⟩ := List.getElem?_zip_eq_some.mp hj
      rw [e1] at hv
      cases hv
      rw [eu] at hQ ⊢
      obtain ⟨_, _, _, kk, q3, ek⟩ := wr_at ew1
      rw [ek] at hQ hN
      refine ⟨rfl, _, rfl, b, _, _, _, rfl, rfl, SqT.sm hb s', q3, rfl, _, rfl, iteNS' (fun c => ?_) (fun c => ?_)⟩
      · exact ⟨_, rfl, hQ (by unfold isFk; rw [decide_eq_false c]; rfl) _ (L2.Same.refl _)⟩
      · exact hN (by unfold isFk; rw [decide_eq_true c]; rfl) _ (L2.Same.refl _)
    intro H1 s1 h1
    have zmem : ∀ u ∈ (xs.zip ws).filter (fun u => !u.2.2.2.2), ∃ (b : Addr) (r : Wy), u.1 = V.ref b ∧ SqT K H1 b r.v ∧ r.wr = some u.2 := fun u hu => by
      obtain ⟨b, r, e1, e2, e3⟩ := pairs u (List.mem_filter.mp hu).1
      exact ⟨b, r, e1, SqT.sm e2 s1, e3⟩
    have zsnd : ((xs.zip ws).filter (fun u => !u.2.2.2.2)).map (·.2) = ws.filter fun u => !u.2.2.2 := zip_filter (p := fun u : Wp => !u.2.2.2) (by rw [hx.1, lw])
    have lzs : ((xs.zip ws).filter (fun u => !u.2.2.2.2)).length ≤ 1000 := by
      have := List.length_filter_le (fun u : V × Wp => !u.2.2.2.2) (xs.zip ws)
      omega
    generalize (xs.zip ws).filter (fun u => !u.2.2.2.2) = zs at h1 zmem zsnd lzs
    dsimp only [gName, List.set, L2.start]
    refine ⟨_, rfl, D, rfl, ⟨_, SqL.of h1⟩, fun D2 nD2 => ?_⟩
    have h0 : ∀ z0 zr, zs = z0 :: zr → ∃ (b : Addr) (r : Wy), z0.1 = V.ref b ∧ SqT K H1 b r.v ∧ r.wr = some z0.2 ∧ atI (zs.map (·.1)) 0 = some (.ref b) := fun z0 zr e => by
      obtain ⟨b, r, e1, e2, e3⟩ := zmem z0 (by rw [e]; exact List.mem_cons_self)
      refine ⟨b, r, e1, e2, e3, ?_⟩
      rw [e, List.map_cons, e1]
      exact atI_cons0
    refine comp_ls (L := zs) ((walk_list (K := K) (a := D) (xs := zs.map (·.1))).cast (List.length_map _)) (fun H' s' => SqL.sm (SqL.of h1) s') (fun _ => true) (fun u => .bl (!decide (u.2.1 = (zs.map (·.2.1)).headD 0))) nD2 (by omega) ?_ ?_
    · rintro j u y H' H'' Q' N' hj s' ⟨rfl, hv⟩ hQ hN
      obtain ⟨b, r1, eu, hb, ew1⟩ := zmem u (List.mem_of_getElem? hj)
      rw [List.getElem?_map, hj] at hv
      cases hv
      dsimp only
      rw [eu]
      obtain ⟨z0, zr, ez⟩ : ∃ z0 zr, zs = z0 :: zr := by
        cases zs with
        | nil => cases hj
        | cons z0 zr => exact ⟨z0, zr, rfl⟩
      obtain ⟨b0, r0, _, hb0, ew0, at0⟩ := h0 z0 zr ez
      obtain ⟨q7, _⟩ := wr_at ew1
      obtain ⟨q70, _⟩ := wr_at ew0
      refine ⟨rfl, tYes_t (iteT ?_)⟩
      have hQ := hQ rfl H'' (L2.Same.refl _)
      rw [ez] at hQ
      refine ⟨_, rfl, b, _, _, _, rfl, rfl, SqT.sm hb s', q7, _, rfl, D, _, _, _, rfl, rfl, SqL.sm (SqL.of h1) s', at0, b0, _, _, _, rfl, rfl, SqT.sm hb0 s', q70, rfl, ?_⟩
      have ei : decide (V.int u.2.1 = V.int z0.2.1) = decide (u.2.1 = z0.2.1) := by rw [Bool.eq_iff_iff, decide_eq_true_eq, decide_eq_true_eq, V.int.injEq]
      rw [ei]
      exact hQ
    intro H2 s2 h2
    rw [filter_all] at h2
    refine ⟨D2, zs.map (fun u => !decide (u.2.1 = (zs.map (·.2.1)).headD 0)), rfl, .inl (.inl (by rw [List.map_map]; exact h2)), ?_⟩
    have ea : (zs.map (fun u => !decide (u.2.1 = (zs.map (·.2.1)).headD 0))).any id = !firstsOk ws := by
      unfold firstsOk
      rw [← zsnd]
      cases zs with
      | nil => rfl
      | cons z0 zr =>
        rw [List.any_map]
        show ((z0 :: zr).any fun u => !decide (u.2.1 = z0.2.1)) = !(((z0 :: zr).map (·.2)).all fun v => decide (v.1 = z0.2.1))
        rw [List.all_map, ← List.not_all_eq_any_not]
        rfl
    refine ⟨_, rfl, ?_⟩
    rw [ea]
    have s12 := s1.trans s2
    cases ef : firstsOk ws with
    | false =>
      rw [ef] at k
      exact iteT (k H2 s12)
    | true =>
    rw [ef, Bool.true_and] at k
    refine iteF ?_
    dsimp only [gName, List.set, tNext]
    refine ⟨_, rfl, l, xs, rfl, SqL.sm hl s12, ?_⟩
    refine for_it (walk_enum (K := K) (a := l) (xs := xs)) (fun i σ H' => ∃ (v2 v3 : Option V), σ = [some (.ref l), some (.ref D), v2, v3] ∧ Same H H' ∧ ledOk [] (ws.take i) = true) ⟨_, _, rfl, s12, rfl⟩ (fun i σ H' _ ⟨_, _, _, s, _⟩ => SqL.sm hl s) ?_ ?_
    · rintro i x σ H3 H3' hi ⟨v2, v3, rfl, s3, led⟩ ⟨t, x1, x2, rfl, nt, rfl, e1, e2⟩
      cases e1
      have hiw : i < ws.length := by rw [hx.1, lw] at hi; exact hi
      have ewi := List.getElem?_eq_getElem hiw
      have etk : ws.take (i + 1) = ws.take i ++ [ws[i]] := List.take_succ_eq_append_getElem hiw
      have efull : ∀ b, ledStep (ws.take i) ws[i] = b → ledOk [] (ws.take (i + 1)) = b := fun b e => by
        rw [etk, ledOk_snoc, led, Bool.true_and, List.nil_append, e]
      have bad : ledStep (ws.take i) ws[i] = false → ledOk [] ws = false := fun e => by
        have z := ledOk_take (i := i + 1) (ws := ws) (a := [])
        rw [efull _ e, Bool.false_and] at z
        exact z
      generalize ws[i] = u at *
      obtain ⟨r1, er1, ew1⟩ := hw.at ewi
      obtain ⟨b, eb, hb⟩ := hx.2 i r1 er1
      obtain rfl : V.ref b = x2 := Option.some.inj (eb.symm.trans e2)
      obtain ⟨q7, q8, q9, kk, q3, ek⟩ := wr_at ew1
      obtain ⟨G1, eG1, s4, hT⟩ := new_any (o := .tup [.int (i : Int), .ref b]) nt
      rw [← eG1]
      clear eG1
      have s04 := s3.trans s4
      have hb4 := SqT.sm hb s04
      refine ⟨t, _, rfl, SqT.of hT, rfl, _, _, rfl, _, _, rfl, rfl, ?_⟩
      refine ⟨_, rfl, b, _, _, _, rfl, rfl, hb4, q9, _, _, rfl, rfl, _, rfl, iteP (fun c => ?_) (fun c => ?_)⟩
      · rw [bad (by unfold ledStep; rw [decide_eq_false (by omega), Bool.false_and])] at k
        exact k G1 s04
      have ls : ledStep (ws.take i) u = (!isFk kk || ledOn (ws.take i) u) := by
        unfold ledStep
        rw [decide_eq_true (by omega), Bool.true_and, ek]
      have fin : ∀ (H' : Hp) (v2 v3 : Option V), Same G1 H' → ledStep (ws.take i) u = true → ∃ (v2' v3' : Option V), [some (V.ref l), some (.ref D), v2, v3] = [some (V.ref l), some (.ref D), v2', v3'] ∧ Same H H' ∧ ledOk [] (ws.take (i + 1)) = true := fun H' v2 v3 s e => ⟨_, _, rfl, s04.trans s, efull _ e⟩
      refine ⟨_, rfl, b, _, _, _, rfl, rfl, hb4, q3, rfl, _, rfl, iteS (fun c => ?_) (fun c => ?_)⟩
      · have ls : ledStep (ws.take i) u = ledOn (ws.take i) u := by
          rw [ls]
          unfold isFk
          rw [decide_eq_true c]
          rfl
        refine ⟨_, rfl, _, rfl, ?_⟩
        dsimp only [tNoPart]
        refine ⟨_, rfl, _, rfl, l, xs, rfl, SqL.sm hl s04, fun p n_p => ?_⟩
        obtain ⟨G2, e_G2, s5, r5⟩ := new_any n_p
        rw [← e_G2]
        clear e_G2
        rw [cutV_L, cutL_to] at r5
        refine ⟨b, p, r1, u, xs.take i, rs.take i, ws.take i, rfl, SqT.sm hb4 s5, ew1, SqL.of r5, (hx.sm (s04.trans s5)).take i, hw.take i, by rw [List.length_take]; omega, fun G3 s6 => ?_⟩
        refine ⟨_, rfl, ?_⟩
        cases el : ledOn (ws.take i) u with
        | true => exact iteF (fin G3 _ _ (s5.trans s6) (ls.trans el))
        | false =>
          rw [bad (ls.trans el)] at k
          exact iteT (k G3 (s04.trans (s5.trans s6)))
      · exact fin G1 _ _ (L2.Same.refl _) (by rw [ls]; unfold isFk; rw [decide_eq_false c]; rfl)
    · rintro σ H3 ⟨v2, v3, rfl, s3, led⟩
      rw [hx.1, lw, List.take_length] at led
      rw [led] at k
      exact k H3 s3
theorem scHeardW : FnScope ["row", "first"] ["row", "first"] (defScope sHeardW) := ⟨rfl, rfl, rfl, by decide +kernel, rfl, by decide +kernel, by decide +kernel⟩
theorem ok_heardW {f : Addr} {fd : FuncData} (F : Fun K "is_heard" "is_heard" sHeardW f fd) : FnOk P w K mg base CX0 1 f fd ["row", "first"] (spHeardW K) := by
  refine F.ok scHeardW (fun vs H Q E h => ?_) (fun cdv A outer s H vs Q E hr h => ?_)
  · obtain ⟨a, f, r, g, rfl, _⟩ := h
    rfl
  · obtain ⟨a, f, r, g, rfl, ha, hf, es, ew, k⟩ := h
    refine ⟨_, (pss_cons (ps_if (pt_cmpR op_ne (pe_ix (ixT (K := K) rfl) (pv 0) pe_int (fun _ _ => rfl)) (pe_ix (ixT (K := K) rfl) (pv 1) pe_int (fun _ _ => rfl)) (nomark _))
       (pss_one (ps_ret pe_bl))
       pss_nil)
       (pss_one (ps_ret (pe_or (pe_cmpR (eqDK (K := K) rfl hr.units) (pe_ix (ixT (K := K) rfl) (pv 0) pe_int (fun _ _ => rfl)) (pe_ix (ixT (K := K) rfl) (pv 1) pe_int (fun _ _ => rfl)) (nomark _)) (pe_one (pe_and (pe_cmp (pc_isN (pe_ix (ixT (K := K) rfl) (pv 1) pe_int (fun _ _ => rfl))) rfl) (pe_one (pe_cmpR op_ne (pe_ix (ixT (K := K) rfl) (pv 0) pe_int (fun _ _ => rfl)) (pe_ix (ixT (K := K) rfl) (pv 1) pe_int (fun _ _ => rfl)) (nomark _))))))))), ?_⟩
    cases g with
    | sent b0 r0 s0 n0 o t =>
      cases r with
      | heard b1 r1 h1 s1 n1 t1 =>
        have at6 : atI (Wy.v (.heard b1 r1 h1 s1 n1 t1)) 6 = some (.str t1) := atI_nat (j := 6) rfl
        have at3 : atI (Wy.v (.heard b1 r1 h1 s1 n1 t1)) 3 = some (.int h1) := atI_nat (j := 3) rfl
        have f6 : atI (Wy.v (.sent b0 r0 s0 n0 o t)) 6 = some (.str t) := atI_nat (j := 6) rfl
        have f5 : atI (Wy.v (.sent b0 r0 s0 n0 o t)) 5 = some (oV o) := atI_nat (j := 5) rfl
        have f3 : atI (Wy.v (.sent b0 r0 s0 n0 o t)) 3 = some (.int s0) := atI_nat (j := 3) rfl
        have k : Q (.bl (decide (t1 = t) && (decide (oV o = V.int h1) || decide (o = none) && decide (h1 ≠ s0)))) H := k
        refine ⟨_, rfl, a, _, _, _, rfl, rfl, ha, at6, _, rfl, f, _, _, _, rfl, rfl, hf, f6, rfl, _, rfl, iteNS' (fun c => ?_) (fun c => ?_)⟩
        · rw [decide_eq_false c, Bool.false_and] at k
          exact k
        rw [decide_eq_true c, Bool.true_and] at k
        have ho : Rp K H (oD o) (oV o) := by cases o <;> first | exact Rp.none | exact Rp.int
        have eo : PyData.eqv (.int h1) (oD o) = decide (oV o = V.int h1) := by
          cases o with
          | none => rfl
          | some i =>
            show (h1 == i) = decide (V.int i = V.int h1)
            rw [Bool.eq_iff_iff, beq_iff_eq, decide_eq_true_eq, V.int.injEq]
            exact eq_comm
        refine ⟨_, rfl, a, _, _, _, rfl, rfl, ha, at3, _, rfl, f, _, _, _, rfl, rfl, hf, f5, .int h1, oD o, Rp.dp _ _ Rp.int, Rp.dp _ _ ho, rfl, by cases o <;> rfl, ?_⟩
        rw [eo]
        refine ⟨_, rfl, ?_⟩
        cases e1 : decide (oV o = V.int h1) with
        | true =>
          rw [e1, Bool.true_or] at k
          exact iteT k
        | false =>
          rw [e1, Bool.false_or] at k
          refine iteF ⟨_, rfl, f, _, _, _, rfl, rfl, hf, f5, _, rfl, ?_⟩
          cases o with
          | some i =>
            exact iteF k
          | none =>
            refine iteT ⟨_, rfl, a, _, _, _, rfl, rfl, ha, at3, _, rfl, f, _, _, _, rfl, rfl, hf, f3, rfl, ?_⟩
            have e3 : (!decide (V.int h1 = V.int s0)) = (decide ((none : Option Int) = none) && decide (h1 ≠ s0)) := by
              rw [Bool.eq_iff_iff]
              simp
            rw [e3]
            exact k
      | sent => exact absurd (show ("sent" : Str) = ("heard" : Str) from ew) (by decide)
      | wrap => exact absurd (show ("wrapped" : Str) = ("heard" : Str) from ew) (by decide)
      | drop => exact absurd (show ("dropped" : Str) = ("heard" : Str) from ew) (by decide)
      | pass => exact absurd (show ("passed" : Str) = ("heard" : Str) from ew) (by decide)
    | _ => cases es
theorem scWay : FnScope ["thing", "first", "row", "later"] ["thing"] (defScope sWay) := ⟨rfl, rfl, rfl, by decide +kernel, rfl, by decide +kernel, by decide +kernel⟩
theorem ok_way {f : Addr} {fd : FuncData} (F : Fun K "is_way" "is_way" sWay f fd) (B : PWb mg) (cL : Cd P w K mg base 1 "letter_of" ["row"] (spLetter K)) (cR : Cd P w K mg base 2 "is_row" ["thing"] (spRowW K)) (cA : Cd P w K mg base 2 "are_wraps" ["rows"] (spWraps K)) (cH : Cd P w K mg base 1 "is_heard" ["row", "first"] (spHeardW K)) : FnOk P w K mg base CX0 3 f fd ["thing"] (spWay K) := by
  obtain ⟨fL, fdL, GL, mL, kL, bL⟩ := cL
  obtain ⟨fR, fdR, GR, mR, kR, bR⟩ := cR
  obtain ⟨fA, fdA, GA, mA, kA, bA⟩ := cA
  obtain ⟨fH, fdH, GH, mH, kH, bH⟩ := cH
  refine F.ok scWay (fun vs H Q E h => ?_) (fun cdv A outer s H vs Q E hr h => ?_)
  · obtain ⟨v, d, rfl, _⟩ := h
    rfl
  · obtain ⟨v, d, rfl, hd, hw, k⟩ := h
    have hr1 : Room 1 _ := hr.mono (by decide)
    have hr2 : Room 2 _ := hr.mono (by decide)
    refine ⟨_, (pss_cons (ps_if (PW.pt (pw_or (pt_not (pt_val (pe_callB (isiK (K := K) rfl) (by rfl) B.isinstance (by decide +kernel) (pa_cons (pv 0) (pa_cons (pe_bltn (v := .ty "tuple") (by rfl) B.tuple PyProof.Rows.boot_tuple rfl) pa_nil))))) (pw_or (pt_cmpR op_eq (pe_callB (lenK (K := K) rfl) (by rfl) B.len PySem.boot_len (pa_cons (pv 0) pa_nil)) pe_int (nomark _)) (pw_or1 (pt_not (pt_val (pe_callB (crAllK (K := K) rfl rfl) (by rfl) B.all (by decide +kernel) (pa_cons (pe_lc (own := [("row", 2)]) (g := (gName 2)) (tt := tYes) rfl scWay.nd (pi_tup (pv 0)) (blkOk_by (N := ["thing", "first", "row", "later"]) (sc := defScope sWay) (by decide +kernel))
       (fun _ _ _ _ _ => (pg_name (i := 2) scWay.nd rfl (Or.inl rfl))) (fun _ _ _ _ _ => pts_nil) (fun _ _ _ _ _ => (pe_call GR hr2 rfl mR kR bR .nil pass0 (pa_cons (pv 2) pa_nil)))) pa_nil))))))))
       (pss_one (ps_ret pe_bl))
       pss_nil)
       (pss_cons (ps_set (i := 1) scWay.nd rfl (Or.inr rfl) (pe_ix (ixT (K := K) rfl) (pv 0) pe_int (fun _ _ => rfl)))
       (pss_cons (ps_if (PW.pt (pw_or (pt_cmpR op_ne (pe_ix (ixT (K := K) rfl) (pv 1) pe_int (fun _ _ => rfl)) pe_str (nomark _)) (pw_or1 (pt_val (pe_callB (crAnyK (K := K) rfl rfl) (by rfl) B.any (by decide +kernel) (pa_cons (pe_lc (own := [("row", 2)]) (g := (gName 2)) (tt := tYes) rfl scWay.nd (pi_tup (pe_slice (slA (K := K) rfl) (pv 0) (po_some pe_int) po_none)) (blkOk_by (N := ["thing", "first", "row", "later"]) (sc := defScope sWay) (by decide +kernel))
       (fun _ _ _ _ _ => (pg_name (i := 2) scWay.nd rfl (Or.inl rfl))) (fun _ _ _ _ _ => pts_nil) (fun _ _ _ _ _ => (pe_cmpR op_eq (pe_ix (ixT (K := K) rfl) (pv 2) pe_int (fun _ _ => rfl)) pe_str (nomark _)))) pa_nil))))))
       (pss_one (ps_ret pe_bl))
       pss_nil)
       (pss_cons (ps_if (pt_val (pe_callB (crAnyK (K := K) rfl rfl) (by rfl) B.any (by decide +kernel) (pa_cons (pe_lc (own := [("row", 2)]) (g := (gName 2)) (tt := tYes) rfl scWay.nd (pi_tup (pv 0)) (blkOk_by (N := ["thing", "first", "row", "later"]) (sc := defScope sWay) (by decide +kernel))
       (fun _ _ _ _ _ => (pg_name (i := 2) scWay.nd rfl (Or.inl rfl))) (fun _ _ _ _ _ => pts_nil) (fun _ _ _ _ _ => (pe_cmpR (neDK (K := K) rfl hr.units) (pe_call GL hr1 rfl mL kL bL .nil pass0 (pa_cons (pv 2) pa_nil)) (pe_call GL hr1 rfl mL kL bL .nil pass0 (pa_cons (pv 1) pa_nil)) (nomark _)))) pa_nil)))
       (pss_one (ps_ret pe_bl))
       pss_nil)
       (pss_cons (ps_if (pt_val (pe_callB (crAnyK (K := K) rfl rfl) (by rfl) B.any (by decide +kernel) (pa_cons (pe_lc (own := [("row", 2), ("later", 3)]) (g := (gTup K 2 (gCons (gName 2) (gCons (gName 3) gNil)))) (tt := tYes) rfl scWay.nd (RZ.pi_zipA (by rfl) B.zip (pa_cons (pv 0) (pa_cons (pe_slice (slA (K := K) rfl) (pv 0) (po_some pe_int) po_none) pa_nil))) (blkOk_by (N := ["thing", "first", "row", "later"]) (sc := defScope sWay) (by decide +kernel))
       (fun _ _ _ _ _ => (pg_tup rfl (pgs_cons (pg_name (i := 2) scWay.nd rfl (Or.inl rfl)) (pgs_cons (pg_name (i := 3) scWay.nd rfl (Or.inl rfl)) pgs_nil)))) (fun _ _ _ _ _ => pts_nil) (fun _ _ _ _ _ => (pe_cmpR op_lt (pe_ix (ixT (K := K) rfl) (pv 3) pe_int (fun _ _ => rfl)) (pe_ix (ixT (K := K) rfl) (pv 2) pe_int (fun _ _ => rfl)) (nomark _)))) pa_nil)))
       (pss_one (ps_ret pe_bl))
       pss_nil)
       (pss_cons (ps_if (pt_not (pt_val (pe_call GA hr2 rfl mA kA bA .nil pass0 (pa_cons (pe_lc (own := [("row", 2)]) (g := (gName 2)) (tt := _) rfl scWay.nd (pi_tup (pv 0)) (blkOk_by (N := ["thing", "first", "row", "later"]) (sc := defScope sWay) (by decide +kernel))
       (fun _ _ _ _ _ => (pg_name (i := 2) scWay.nd rfl (Or.inl rfl))) (fun _ _ _ _ _ => (pts_one (pt_cmpR op_eq (pe_ix (ixT (K := K) rfl) (pv 2) pe_int (fun _ _ => rfl)) pe_str (nomark _)))) (fun _ _ _ _ _ => (pv 2))) pa_nil))))
       (pss_one (ps_ret pe_bl))
       pss_nil)
       (pss_one (ps_ret (pe_callB (crAllK (K := K) rfl rfl) (by rfl) B.all (by decide +kernel) (pa_cons (pe_lc (own := [("row", 2)]) (g := (gName 2)) (tt := _) rfl scWay.nd (pi_tup (pv 0)) (blkOk_by (N := ["thing", "first", "row", "later"]) (sc := defScope sWay) (by decide +kernel))
       (fun _ _ _ _ _ => (pg_name (i := 2) scWay.nd rfl (Or.inl rfl))) (fun _ _ _ _ _ => (pts_one (pt_cmpR op_eq (pe_ix (ixT (K := K) rfl) (pv 2) pe_int (fun _ _ => rfl)) pe_str (nomark _)))) (fun _ _ _ _ _ => (pe_call GH hr1 rfl mH kH bH .nil pass0 (pa_cons (pv 2) (pa_cons (pv 1) pa_nil))))) pa_nil)))))))))), ?_⟩
    have no : ∀ H', Same H H' → wayJ d = false → Q (.bl false) H' := fun H' s e => by
      have z := k H' s
      rwa [e] at z
    have no0 : wayJ d = false → Q (.bl false) H := no H (L2.Same.refl _)
    refine ⟨_, rfl, _, _, _, _, _, rfl, .ty _, hd.ty, kit_tuple d, _, rfl, iteNP (fun c => no0 (wayJ_no fun ds e => ?_)) (fun c => ?_)⟩
    · subst e
      exact absurd rfl c
    obtain ⟨ds, rfl⟩ : ∃ ds, d = .tuple ds := by
      cases hd with
      | tup h1 h2 => exact ⟨_, rfl⟩
      | _ => simp [tyN] at c
    obtain ⟨a, xs, rfl, ha, hx⟩ := hd.inv_tup
    have lx := hx.len
    have hwt := wid_t.mp hw
    refine ⟨_, rfl, _, xs.length, rfl, .inr ⟨_, ha, rfl⟩, rfl, _, rfl, iteI (fun e0 => no0 ?_) (fun e0 => ?_)⟩
    · have : ds = [] := List.length_eq_zero_iff.mp (by rw [← lx]; omega)
      rw [this]
      exact wayJ_rows (rs := []) (fun r h => by cases h)
    refine ⟨_, rfl, a, rfl, ⟨_, ha⟩, fun D nD => ?_⟩
    refine comp_ls (L := ds) ((walk_tup (K := K) (a := a) (xs := xs)).cast lx) (fun H' s' => SqT.sm ha s') (fun _ => true) (fun q => .bl (wayRow q)) nD (by omega) ?_ ?_
    · rintro j b v H' H'' Q' N' hj s' ⟨rfl, hv⟩ hQ hN
      obtain ⟨u, eu, hu⟩ := hx.get hj
      rw [eu] at hv
      cases hv
      refine ⟨rfl, tYes_t (iteT ?_)⟩
      exact ⟨_, rfl, _, b, rfl, hu.sm s', fun H'' s'' => hQ rfl _ s''⟩
    intro H1 s1 h1
    rw [filter_all] at h1
    refine ⟨D, ds.map wayRow, rfl, .inl (.inl (by rw [List.map_map]; exact h1)), _, rfl, ?_⟩
    rw [List.all_map]
    show (if (!ds.all wayRow) = true then _ else _)
    cases ea : ds.all wayRow with
    | false => exact iteT (no H1 s1 (wayJ_no fun ds' e => by cases e; exact ea))
    | true =>
    refine iteF ?_
    obtain ⟨rs, rfl, hrs⟩ := rows_inv ea
    rw [wayJ_rows hrs] at k
    have no : ∀ H', Same H H' → wayB rs = false → Q (.bl false) H' := fun H' s e => by
      have z := k H' s
      rwa [e] at z
    clear no0
    obtain ⟨r0, tl, rfl⟩ : ∃ r0 tl, rs = r0 :: tl := by
      cases rs with
      | nil => exact absurd (by rw [lx]; rfl) e0
      | cons x y => exact ⟨x, y, rfl⟩
    have wx := WyAll.of (K := K) hx
    have wx1 := wx.sm s1
    have ha1 := SqT.sm ha s1
    obtain ⟨a0, eq0, ha0⟩ := wx.2 0 r0 rfl
    have at0 : atI xs 0 = some (.ref a0) := atI_nat (j := 0) eq0
    have ha01 := SqT.sm ha0 s1
    have w0 : atI r0.v 0 = some (.str r0.w) := atI_nat (j := 0) rfl
    dsimp only [gName, List.set, tNext, L2.start]
    refine ⟨_, rfl, a, _, _, _, rfl, rfl, ha1, at0, ?_⟩
    dsimp only [gName, List.set, tNext, L2.start]
    have lrs : (r0 :: tl).length ≤ 1000 := by
      have := hwt.1
      rw [List.length_map] at this
      exact this
    have eB : wayB (r0 :: tl) = (r0.isSent && tl.all (fun r => !r.isSent) && (r0 :: tl).all (fun r => decide (r.key = r0.key)) && monoB ((r0 :: tl).map Wy.beat) && (firstsOk ((r0 :: tl).filterMap Wy.wr) && ledOk [] ((r0 :: tl).filterMap Wy.wr)) && (r0 :: tl).all (heardOk r0)) := rfl
    rw [eB] at k no
    clear eB
    refine ⟨_, rfl, a0, _, _, _, rfl, rfl, ha01, w0, rfl, _, rfl, iteNS' (fun c => no H1 s1 ?_) (fun c => ?_)⟩
    · rw [sent_w, decide_eq_false c]
      rfl
    have is0 : r0.isSent = true := by rw [sent_w, decide_eq_true c]
    rw [is0, Bool.true_and] at k no
    refine ⟨_, rfl, ?_⟩
    dsimp only [tNoPart]
    refine ⟨_, rfl, slA_sq ha1 fun H2 sl s2 r2 => ?_⟩
    rw [show cutL xs (some 1) none = xs.drop 1 from cutL_from xs 1] at r2
    have wx2 : WyAll K H2 (xs.drop 1) tl := (wx1.sm s2).drop 1
    have lt : tl.length ≤ 1000 := by rw [List.length_cons] at lrs; omega
    refine ⟨sl, rfl, ⟨_, r2⟩, fun D2 nD2 => ?_⟩
    refine comp_ls (L := tl) ((walk_tup (K := K) (a := sl) (xs := xs.drop 1)).cast wx2.1) (fun H' s' => SqT.sm r2 s') (fun _ => true) (fun q => .bl q.isSent) nD2 (by omega) ?_ ?_
    · rintro j r y H' H'' Q' N' hj s' ⟨rfl, hv⟩ hQ hN
      obtain ⟨b, eb, hb⟩ := wx2.2 j r hj
      rw [eb] at hv
      cases hv
      refine ⟨rfl, tYes_t (iteT ?_)⟩
      have z0 : atI r.v 0 = some (.str r.w) := atI_nat (j := 0) rfl
      have hQ := hQ rfl H'' (L2.Same.refl _)
      rw [sent_w] at hQ
      refine ⟨_, rfl, b, _, _, _, rfl, rfl, SqT.sm hb s', z0, rfl, ?_⟩
      have ev : decide (V.str r.w = V.str ("sent" : Str)) = decide (r.w = ("sent" : Str)) := by rw [Bool.eq_iff_iff, decide_eq_true_eq, decide_eq_true_eq, V.str.injEq]
      rw [ev]
      exact hQ
    intro H3 s3 h3
    rw [filter_all] at h3
    refine ⟨D2, tl.map (fun r => r.isSent), rfl, .inl (.inl (by rw [List.map_map]; exact h3)), ?_⟩
    have e2 : (tl.map fun r => r.isSent).any id = !(tl.all fun r => !r.isSent) := by
      rw [List.any_map, List.all_eq_not_any_not]
      simp
    rw [e2]
    have s13 := s1.trans (s2.trans s3)
    refine ⟨_, rfl, ?_⟩
    cases c2 : tl.all fun r => !r.isSent with
    | false =>
      refine iteT (no H3 s13 ?_)
      rw [c2]
      rfl
    | true =>
    rw [c2, Bool.true_and] at k no
    refine iteF ?_
    clear e2
    -- keys
    have ha3 := SqT.sm ha s13
    have wx3 := wx.sm s13
    have ha03 := SqT.sm ha0 s13
    refine ⟨_, rfl, a, rfl, ⟨_, ha3⟩, fun D3 nD3 => ?_⟩
    have lxr : xs.length = (r0 :: tl).length := wx.1
    refine comp_ls (L := r0 :: tl) ((walk_tup (K := K) (a := a) (xs := xs)).cast lxr) (fun H' s' => SqT.sm ha3 s') (fun _ => true) (fun q => .bl (!decide (q.key = r0.key))) nD3 (by omega) ?_ ?_
    · rintro j r y H' H'' Q' N' hj s' ⟨rfl, hv⟩ hQ hN
      obtain ⟨b, eb, hb⟩ := wx3.2 j r hj
      rw [eb] at hv
      cases hv
      have kd := (hrs r (List.mem_of_getElem? hj)).2
      have kd0 := (hrs r0 List.mem_cons_self).2
      refine ⟨rfl, tYes_t (iteT ?_)⟩
      refine ⟨_, rfl, b, r, rfl, SqT.sm hb s', fun _ G1 b1 t1 g1 => ?_, fun z => absurd z (by rw [kd]; exact Bool.noConfusion)⟩
      refine ⟨_, rfl, a0, r0, rfl, SqT.sm (SqT.sm ha03 s') t1, fun _ G2 b2 t2 g2 => ?_, fun z => absurd z (by rw [kd0]; exact Bool.noConfusion)⟩
      refine ⟨_, _, Rp.dp _ _ (TupAt.sm g1 t2), Rp.dp _ _ g2, rfl, rfl, ?_⟩
      have ev : (!PyData.eqv (.tuple (keyD r.key)) (.tuple (keyD r0.key))) = !decide (r.key = r0.key) := by
        rw [key_eqv]
      rw [ev]
      exact hQ rfl G2 (t1.trans t2)
    intro H4 s4 h4
    rw [filter_all] at h4
    refine ⟨D3, (r0 :: tl).map (fun r => !decide (r.key = r0.key)), rfl, .inl (.inl (by rw [List.map_map]; exact h4)), ?_⟩
    have e3 : ((r0 :: tl).map fun r => !decide (r.key = r0.key)).any id = !((r0 :: tl).all fun r => decide (r.key = r0.key)) := by
      rw [List.any_map, List.all_eq_not_any_not]
      simp
    rw [e3]
    have s14 := s13.trans s4
    refine ⟨_, rfl, ?_⟩
    cases c3 : (r0 :: tl).all fun r => decide (r.key = r0.key) with
    | false =>
      refine iteT (no H4 s14 ?_)
      rw [c3]
      rfl
    | true =>
    rw [c3, Bool.true_and] at k no
    refine iteF ?_
    clear e3
    -- beats
    have ha4 := SqT.sm ha s14
    have wx4 := wx.sm s14
    refine ⟨_, rfl, _, rfl, ?_⟩
    dsimp only [tNoPart]
    refine ⟨_, rfl, slA_sq ha4 fun H5 sl5 s5 r5 => ?_⟩
    rw [show cutL xs (some 1) none = xs.drop 1 from cutL_from xs 1] at r5
    have ha5 := SqT.sm ha4 s5
    have wx5 := wx4.sm s5
    have wt5 : WyAll K H5 (xs.drop 1) tl := wx5.drop 1
    have lz : ((r0 :: tl).zip tl).length = min xs.length (xs.drop 1).length := by rw [List.length_zip, lxr, wt5.1]
    refine ⟨a, sl5, _, _, rfl, .inr ⟨ha5, r5, fun D5 nD5 => ?_⟩⟩
    refine comp_ls (L := (r0 :: tl).zip tl) (walk_zipW (K := K) (a := a) (b := sl5) lz) (fun H' s' => ⟨SqT.sm ha5 s', SqT.sm r5 s'⟩) (fun _ => true) (fun p => .bl (decide (p.2.beat < p.1.beat))) nD5 (by rw [List.length_zip]; omega) ?_ ?_
    · rintro j u y H' H'' Q' N' hj s' ⟨T, x0, y0, rfl, nT, rfl, ex, ey⟩ hQ hN
      have sT : Same H' (upd H' T (.tup [x0, y0])) := (L2.Same.refl _).new nT
      have hT2 : upd H' T (.tup [x0, y0]) T = some (.tup [x0, y0]) := upd_same
      generalize upd H' T (.tup [x0, y0]) = G2 at sT hT2
      obtain ⟨e1, e2⟩ := List.getElem?_zip_eq_some.mp hj
      obtain ⟨b1, q1, g1⟩ := wx5.2 j _ e1
      obtain ⟨b2, q2, g2⟩ := wt5.2 j _ e2
      obtain rfl : V.ref b1 = x0 := Option.some.inj (q1.symm.trans ex)
      obtain rfl : V.ref b2 = y0 := Option.some.inj (q2.symm.trans ey)
      have sA := s'.trans sT
      refine ⟨T, _, rfl, .inl (.inl hT2), rfl, _, _, rfl, _, _, rfl, rfl, ?_⟩
      refine ⟨rfl, tYes_t (iteT ?_)⟩
      exact ⟨_, rfl, b2, _, _, _, rfl, rfl, SqT.sm g2 sA, beat_at u.2, _, rfl, b1, _, _, _, rfl, rfl, SqT.sm g1 sA, beat_at u.1, _, _, rfl, rfl, hQ rfl _ sT⟩
    intro H6 s6 h6
    rw [filter_all] at h6
    refine ⟨D5, ((r0 :: tl).zip tl).map (fun p => decide (p.2.beat < p.1.beat)), rfl, .inl (.inl (by rw [List.map_map]; exact h6)), ?_⟩
    have e4 : (((r0 :: tl).zip tl).map fun p => decide (p.2.beat < p.1.beat)).any id = !monoB ((r0 :: tl).map Wy.beat) := by
      show _ = !(((r0 :: tl).map Wy.beat).zip (tl.map Wy.beat)).all fun p => decide (p.1 ≤ p.2)
      rw [List.zip_map, List.any_map, List.all_map, List.all_eq_not_any_not, Bool.not_not]
      congr 1
      funext p
      show decide (p.2.beat < p.1.beat) = !decide (p.1.beat ≤ p.2.beat)
      by_cases h : p.1.beat ≤ p.2.beat
      · rw [decide_eq_true h, decide_eq_false (by omega)]; rfl
      · rw [decide_eq_false h, decide_eq_true (by omega)]; rfl
    rw [e4]
    have s16 := s14.trans (s5.trans s6)
    refine ⟨_, rfl, ?_⟩
    cases c4 : monoB ((r0 :: tl).map Wy.beat) with
    | false =>
      refine iteT (no H6 s16 ?_)
      rw [c4]
      rfl
    | true =>
    rw [c4, Bool.true_and] at k no
    refine iteF ?_
    clear e4
    -- wraps
    have ha6 := SqT.sm ha s16
    have wx6 := wx.sm s16
    have lz2 : (xs.zip (r0 :: tl)).length = xs.length := by rw [List.length_zip, lxr, Nat.min_self]
    have pairs : ∀ u ∈ xs.zip (r0 :: tl), ∃ b : Addr, u.1 = V.ref b ∧ SqT K H6 b u.2.v := fun u hu => by
      obtain ⟨j, hj⟩ := List.mem_iff_getElem?.mp hu
      obtain ⟨e1, e2⟩ := List.getElem?_zip_eq_some.mp hj
      obtain ⟨b, eb, hb⟩ := wx6.2 j _ e2
      rw [eb] at e1
      exact ⟨b, (Option.some.inj e1).symm, hb⟩
    refine ⟨_, rfl, a, rfl, ⟨_, ha6⟩, fun D7 nD7 => ?_⟩
    refine comp_ls (L := xs.zip (r0 :: tl)) ((walk_tup (K := K) (a := a) (xs := xs)).cast lz2.symm) (fun H' s' => SqT.sm ha6 s') (fun u => decide (u.2.w = ("wrapped" : Str))) (fun u => u.1) nD7 (by omega) ?_ ?_
    · rintro j u y H' H'' Q' N' hj s' ⟨rfl, hv⟩ hQ hN
      obtain ⟨b, eu, hb⟩ := pairs u (List.mem_of_getElem? hj)
      obtain ⟨e1, e2⟩ := List.getElem?_zip_eq_some.mp hj
      obtain rfl : u.1 = y := Option.some.inj (e1.symm.trans hv)
      rw [eu] at hQ ⊢
      have z0 : atI u.2.v 0 = some (.str u.2.w) := atI_nat (j := 0) rfl
      refine ⟨rfl, _, rfl, b, _, _, _, rfl, rfl, SqT.sm hb s', z0, rfl, _, rfl, iteS (fun c => ?_) (fun c => ?_)⟩
      · exact ⟨_, rfl, hQ (decide_eq_true c) _ (L2.Same.refl _)⟩
      · exact hN (decide_eq_false c) _ (L2.Same.refl _)
    intro H7 s7 h7
    have zsnd : ((xs.zip (r0 :: tl)).filter (fun u => decide (u.2.w = ("wrapped" : Str)))).map (·.2) = (r0 :: tl).filter fun r => decide (r.w = ("wrapped" : Str)) := zip_filter (p := fun r : Wy => decide (r.w = ("wrapped" : Str))) lxr
    have zmem : ∀ u ∈ (xs.zip (r0 :: tl)).filter (fun u => decide (u.2.w = ("wrapped" : Str))), ∃ b : Addr, u.1 = V.ref b ∧ SqT K H7 b u.2.v := fun u hu => by
      obtain ⟨b, e1, e2⟩ := pairs u (List.mem_filter.mp hu).1
      exact ⟨b, e1, SqT.sm e2 s7⟩
    have lzs : ((xs.zip (r0 :: tl)).filter (fun u => decide (u.2.w = ("wrapped" : Str)))).length ≤ 1000 := by
      have := List.length_filter_le (fun u : V × Wy => decide (u.2.w = ("wrapped" : Str))) (xs.zip (r0 :: tl))
      omega
    generalize (xs.zip (r0 :: tl)).filter (fun u => decide (u.2.w = ("wrapped" : Str))) = zs at h7 zsnd zmem lzs
    have wz : WyAll K H7 (zs.map (·.1)) (zs.map (·.2)) := ⟨by rw [List.length_map, List.length_map], fun j r e => by
      rw [List.getElem?_map] at e
      cases eu : zs[j]? with
      | none => rw [eu] at e; cases e
      | some u =>
        rw [eu] at e
        obtain ⟨b, e1, e2⟩ := zmem u (List.mem_of_getElem? eu)
        cases e
        exact ⟨b, by rw [List.getElem?_map, eu]; exact congrArg some e1, e2⟩⟩
    have hwo := wrOf_filter (r0 :: tl)
    rw [← zsnd] at hwo
    refine ⟨D7, _, _, _, rfl, SqL.of h7, wz, hwo, by rw [List.length_map]; exact lzs, fun H8 s8 => ⟨_, rfl, ?_⟩⟩
    have s18 := s16.trans (s7.trans s8)
    cases c5 : firstsOk ((r0 :: tl).filterMap Wy.wr) && ledOk [] ((r0 :: tl).filterMap Wy.wr) with
    | false =>
      refine iteT (no H8 s18 ?_)
      rw [c5]
      rfl
    | true =>
    rw [c5, Bool.true_and] at k
    refine iteF ?_
    -- heard
    have ha8 := SqT.sm ha s18
    have ha08 := SqT.sm ha0 s18
    refine ⟨_, rfl, a, rfl, ⟨_, ha8⟩, fun D9 nD9 => ?_⟩
    refine comp_ls (L := xs.zip (r0 :: tl)) ((walk_tup (K := K) (a := a) (xs := xs)).cast lz2.symm) (fun H' s' => SqT.sm ha8 s') (fun u => decide (u.2.w = ("heard" : Str))) (fun u => .bl (heardOk r0 u.2)) nD9 (by omega) ?_ ?_
    · rintro j u y H' H'' Q' N' hj s' ⟨rfl, hv⟩ hQ hN
      obtain ⟨b, eu, hb⟩ := pairs u (List.mem_of_getElem? hj)
      obtain ⟨e1, e2⟩ := List.getElem?_zip_eq_some.mp hj
      obtain rfl : u.1 = y := Option.some.inj (e1.symm.trans hv)
      rw [eu]
      have z0 : atI u.2.v 0 = some (.str u.2.w) := atI_nat (j := 0) rfl
      have hb8 := SqT.sm (SqT.sm hb (s7.trans s8)) s'
      refine ⟨rfl, _, rfl, b, _, _, _, rfl, rfl, hb8, z0, rfl, _, rfl, iteS (fun c => ?_) (fun c => ?_)⟩
      · exact ⟨_, rfl, _, rfl, b, a0, u.2, r0, rfl, hb8, SqT.sm ha08 s', is0, c, hQ (decide_eq_true c) _ (L2.Same.refl _)⟩
      · exact hN (decide_eq_false c) _ (L2.Same.refl _)
    intro H9 s9 h9
    refine ⟨D9, ((xs.zip (r0 :: tl)).filter (fun u => decide (u.2.w = ("heard" : Str)))).map (fun u => heardOk r0 u.2), rfl, .inl (.inl (by rw [List.map_map]; exact h9)), ?_⟩
    have e6 : (((xs.zip (r0 :: tl)).filter (fun u => decide (u.2.w = ("heard" : Str)))).map (fun u => heardOk r0 u.2)).all id = (r0 :: tl).all (heardOk r0) := by
      have z : ((xs.zip (r0 :: tl)).filter (fun u => decide (u.2.w = ("heard" : Str)))).map (·.2) = (r0 :: tl).filter fun r => decide (r.w = ("heard" : Str)) := zip_filter (p := fun r : Wy => decide (r.w = ("heard" : Str))) lxr
      rw [show ((xs.zip (r0 :: tl)).filter (fun u => decide (u.2.w = ("heard" : Str)))).map (fun u => heardOk r0 u.2) = (((xs.zip (r0 :: tl)).filter (fun u => decide (u.2.w = ("heard" : Str)))).map (·.2)).map (heardOk r0) by rw [List.map_map]; rfl, z, List.all_map]
      exact heard_filter is0 _
    rw [e6]
    exact k H9 (s18.trans s9)
end
end Wn

namespace L2
open PySem PySem.Spec PyProof.Rows
/-! ### l.count(text) of a list of texts -/
def cntS (k : Str) : List Str → Int
  | [] => 0
  | y :: ys => (if y = k then 1 else 0) + cntS k ys
theorem strs_of : ∀ {ys : List Str} {us : List Value}, Vals (ys.map V.str) us → StrsAre us ys
  | [], _, h => by
    cases h
    exact .nil
  | y :: ys, _, h => by
    cases h with
    | cons r t =>
      obtain ⟨t', rfl⟩ := r
      exact .cons y t' (strs_of t)
theorem cntS_in (k : Str) : ∀ ys : List Str, countIn (.str k) (ys.map PyData.str) = cntS k ys
  | [] => rfl
  | y :: ys => by
    rw [List.map_cons, countIn, cntS_in k ys, cntS]
    simp only [same]
    by_cases h : y = k
    · simp [h]
    · simp [h]
theorem mt_lcountS {X : Cx} : MtR X "list.count" (fun x xs H Q => ∃ (p : Addr) (ys : List Str) (k : Str), x = .ref p ∧ xs = [.str k] ∧ SqL X.K H p (ys.map V.str) ∧ Q (.int (cntS k ys)) H) := by
  intro pins s σ H x xs v us Q I rx rxs h
  obtain ⟨p, ys, k, rfl, rfl, hs, q⟩ := h
  cases rx
  obtain ⟨u, rfl, ru⟩ := rxs.one
  obtain ⟨t, rfl⟩ := ru
  obtain ⟨its, rv, ⟨o, n, ho, hc, hdn, hd⟩, hlen⟩ := I.list hs
  refine count_list_strs ⟨o, ho, hc, n, hd⟩ (strs_of rv) ?_
  rw [cntS_in]
  exact ⟨.int (cntS k ys), H, I.tok _, ⟨_, rfl⟩, q⟩
theorem mt_lcountSK {X : Cx} {K : PySem.W.Frag} (hK : X.K = K) : MtR X "list.count" (fun x xs H Q => ∃ (p : Addr) (ys : List Str) (k : Str), x = .ref p ∧ xs = [.str k] ∧ SqL K H p (ys.map V.str) ∧ Q (.int (cntS k ys)) H) := hK ▸ mt_lcountS
end L2

namespace Wn
open PySem L2
/-! ### things of any kind and depth that the law made itself: lists, tuples, dicts of texts -/
mutual
inductive Dq (H : Hp) : V → PyData → Prop
  | non : Dq H .non .none
  | bl (b : Bool) : Dq H (.bl b) (.bool b)
  | int (i : Int) : Dq H (.int i) (.int i)
  | str (x : Str) : Dq H (.str x) (.str x)
  | lst {a : Addr} {xs : List V} {ds : List PyData} : H a = some (.lst xs) → DqAll H xs ds → Dq H (.ref a) (.list ds)
  | tup {a : Addr} {xs : List V} {ds : List PyData} : H a = some (.tup xs) → DqAll H xs ds → Dq H (.ref a) (.tuple ds)
  | dct {a : Addr} {kvs : List (Key × V)} {ds : List (PyData × PyData)} : H a = some (.dK kvs) → DqKV H kvs ds → Dq H (.ref a) (.dict ds)
inductive DqAll (H : Hp) : List V → List PyData → Prop
  | nil : DqAll H [] []
  | cons {v : V} {vs : List V} {d : PyData} {ds : List PyData} : Dq H v d → DqAll H vs ds → DqAll H (v :: vs) (d :: ds)
inductive DqKV (H : Hp) : List (Key × V) → List (PyData × PyData) → Prop
  | nil : DqKV H [] []
  | cons {k : Str} {v : V} {kvs : List (Key × V)} {d : PyData} {ds : List (PyData × PyData)} : Dq H v d → DqKV H kvs ds → DqKV H ((.inr k, v) :: kvs) ((.str k, d) :: ds)
end
mutual
theorem Dq.sm {H H' : Hp} (e : Same H H') : ∀ {v : V} {d : PyData}, Dq H v d → Dq H' v d
  | _, _, .non => .non
  | _, _, .bl b => .bl b
  | _, _, .int i => .int i
  | _, _, .str x => .str x
  | _, _, .lst h1 h2 => .lst (e _ _ h1) (DqAll.sm e h2)
  | _, _, .tup h1 h2 => .tup (e _ _ h1) (DqAll.sm e h2)
  | _, _, .dct h1 h2 => .dct (e _ _ h1) (DqKV.sm e h2)
theorem DqAll.sm {H H' : Hp} (e : Same H H') : ∀ {vs : List V} {ds : List PyData}, DqAll H vs ds → DqAll H' vs ds
  | _, _, .nil => .nil
  | _, _, .cons h1 h2 => .cons (Dq.sm e h1) (DqAll.sm e h2)
theorem DqKV.sm {H H' : Hp} (e : Same H H') : ∀ {vs : List (Key × V)} {ds : List (PyData × PyData)}, DqKV H vs ds → DqKV H' vs ds
  | _, _, .nil => .nil
  | _, _, .cons h1 h2 => .cons (Dq.sm e h1) (DqKV.sm e h2)
end
theorem DqAll.len {H : Hp} : ∀ {vs : List V} {ds : List PyData}, DqAll H vs ds → vs.length = ds.length
  | _, _, .nil => rfl
  | _, _, .cons _ h => by rw [List.length_cons, List.length_cons, DqAll.len h]
theorem DqAll.get {H : Hp} : ∀ {vs : List V} {ds : List PyData}, DqAll H vs ds → ∀ {i : Nat} {d : PyData}, ds[i]? = some d → ∃ v, vs[i]? = some v ∧ Dq H v d
  | _, _, .cons h1 h2, 0, d, e => by
    have : _ = d := Option.some.inj e
    subst this
    exact ⟨_, rfl, h1⟩
  | _, _, .cons h1 h2, i + 1, d, e => DqAll.get h2 (i := i) (by simpa using e)
theorem DqAll.getV {H : Hp} : ∀ {vs : List V} {ds : List PyData}, DqAll H vs ds → ∀ {i : Nat} {v : V}, vs[i]? = some v → ∃ d, ds[i]? = some d ∧ Dq H v d
  | _, _, .cons h1 h2, 0, d, e => by
    have : _ = d := Option.some.inj e
    subst this
    exact ⟨_, rfl, h1⟩
  | _, _, .cons h1 h2, i + 1, d, e => DqAll.getV h2 (i := i) (by simpa using e)
theorem DqAll.app {H : Hp} : ∀ {xs : List V} {ds : List PyData}, DqAll H xs ds → ∀ {ys : List V} {es : List PyData}, DqAll H ys es → DqAll H (xs ++ ys) (ds ++ es)
  | _, _, .nil, _, _, h => h
  | _, _, .cons h1 h2, _, _, h => .cons h1 (DqAll.app h2 h)
theorem DqAll.take {H : Hp} : ∀ (k : Nat) {xs : List V} {ds : List PyData}, DqAll H xs ds → DqAll H (xs.take k) (ds.take k)
  | 0, _, _, _ => by rw [List.take_zero, List.take_zero]; exact .nil
  | k + 1, _, _, .nil => .nil
  | k + 1, _, _, .cons h1 h2 => .cons h1 (DqAll.take k h2)
theorem DqAll.drop {H : Hp} : ∀ (k : Nat) {xs : List V} {ds : List PyData}, DqAll H xs ds → DqAll H (xs.drop k) (ds.drop k)
  | 0, _, _, h => h
  | k + 1, _, _, .nil => .nil
  | k + 1, _, _, .cons h1 h2 => DqAll.drop k h2
theorem Dq.ty {K : PySem.W.Frag} {H : Hp} {v : V} {d : PyData} (h : Dq H v d) : TyX K H v (.type (tyN d)) := by
  cases h with
  | non => exact .base .non
  | bl b => exact .base (.bl b)
  | int i => exact .base (.int i)
  | str x => exact .base (.str x)
  | lst h1 h2 => exact .base (.lst h1)
  | tup h1 h2 => exact .base (.tup h1)
  | dct h1 h2 => exact .base (.dK h1)
theorem Dq.inv_tup {H : Hp} {v : V} {ds : List PyData} (h : Dq H v (.tuple ds)) : ∃ a xs, v = .ref a ∧ H a = some (.tup xs) ∧ DqAll H xs ds := by
  cases h with
  | tup h1 h2 => exact ⟨_, _, rfl, h1, h2⟩
theorem Dq.inv_lst {H : Hp} {v : V} {ds : List PyData} (h : Dq H v (.list ds)) : ∃ a xs, v = .ref a ∧ H a = some (.lst xs) ∧ DqAll H xs ds := by
  cases h with
  | lst h1 h2 => exact ⟨_, _, rfl, h1, h2⟩
theorem Dq.inv_str {H : Hp} {v : V} {x : Str} (h : Dq H v (.str x)) : v = .str x := by cases h; rfl
theorem Dq.inv_int {H : Hp} {v : V} {x : Int} (h : Dq H v (.int x)) : v = .int x := by cases h; rfl
theorem Dq.inv_none {H : Hp} {v : V} (h : Dq H v .none) : v = .non := by cases h; rfl
theorem Dq.inv_bool {H : Hp} {v : V} {b : Bool} (h : Dq H v (.bool b)) : v = .bl b := by cases h; rfl
theorem DqAll.inv_cons {H : Hp} {vs : List V} {d : PyData} {ds : List PyData} (h : DqAll H vs (d :: ds)) : ∃ v r, vs = v :: r ∧ Dq H v d ∧ DqAll H r ds := by
  cases h with
  | cons h1 h2 => exact ⟨_, _, rfl, h1, h2⟩
theorem DqAll.inv_nil {H : Hp} {vs : List V} (h : DqAll H vs []) : vs = [] := by cases h; rfl
end Wn

namespace Wn
open PySem L2
/-! ### the judge of plain nets, plain -/
inductive JK where | lo | on | tu
deriving DecidableEq
def jkS : JK → Str
  | .lo => "loose"
  | .on => "once"
  | .tu => "row"
inductive Rw where
  | come (h : Int) (s : Str)
  | go (h : Int)
  | send (a n : Int) (aim : Option Int) (t : Str)
  | hear (h a n : Int) (t : Str)
  | lose (a n : Int)
def aimV : Option Int → V
  | none => .non
  | some i => .int i
def aimD : Option Int → PyData
  | none => .none
  | some i => .int i
def rwW : Rw → Str
  | .come .. => "come"
  | .go .. => "go"
  | .send .. => "send"
  | .hear .. => "hear"
  | .lose .. => "lose"
def rwP : Rw → List V
  | .come h s => [.int h, .str s]
  | .go h => [.int h]
  | .send a n aim t => [.int a, .int n, aimV aim, .str t]
  | .hear h a n t => [.int h, .int a, .int n, .str t]
  | .lose a n => [.int a, .int n]
def rwV (r : Rw) : List V := .str (rwW r) :: rwP r
def rwPD : Rw → List PyData
  | .come h s => [.int h, .str s]
  | .go h => [.int h]
  | .send a n aim t => [.int a, .int n, aimD aim, .str t]
  | .hear h a n t => [.int h, .int a, .int n, .str t]
  | .lose a n => [.int a, .int n]
def rwD (r : Rw) : PyData := .tuple (.str (rwW r) :: rwPD r)
def aimOk : Option Int → Prop
  | none => True
  | some i => 0 ≤ i
instance (o : Option Int) : Decidable (aimOk o) := by cases o <;> unfold aimOk <;> infer_instance
def Rw.ok : Rw → Prop
  | .come h s => 0 ≤ h ∧ (s = ("hand" : Str) ∨ s = ("alias" : Str))
  | .go h => 0 ≤ h
  | .send a n aim _ => 0 ≤ a ∧ 0 ≤ n ∧ aimOk aim
  | .hear h a n _ => 0 ≤ h ∧ 0 ≤ a ∧ 0 ≤ n
  | .lose a n => 0 ≤ a ∧ 0 ≤ n
structure Po where
  aim : Option Int
  words : Str
  due : List Int
  ears : List Int
  lost : Bool
structure Jd where
  here : List (Int × Str)
  posts : List ((Int × Int) × Po)
  newest : List (Int × Int)
  hts : List ((Int × Int) × Int)
def Jd.nil : Jd := ⟨[], [], [], []⟩
section
variable {α : Type}
/-- by pairs -/
def lookP (m : List ((Int × Int) × α)) (k : Int × Int) : Option α := (m.find? fun p => decide (p.1 = k)).map (·.2)
def putP (m : List ((Int × Int) × α)) (k : Int × Int) (v : α) : List ((Int × Int) × α) :=
  if (m.any fun kv => decide (kv.1 = k)) = true then m.map (fun kv => if kv.1 = k then (kv.1, v) else kv) else m ++ [(k, v)]
end
def Jd.due (J : Jd) (a : Int) : Option Int → List Int
  | none => (J.here.filter fun e => decide (e.2 = ("hand" : Str)) && decide (e.1 ≠ a)).map (·.1)
  | some h => (J.here.filter fun e => decide (e.1 = h)).map (·.1)
def earPut (es : List Int) (h : Int) : List Int := if h ∈ es then es else es ++ [h]
/-- whether a letter is for a hand -/
def Jd.isFor (J : Jd) (p : Po) (h a : Int) : Bool := match p.aim with
  | none => decide (h ≠ a) && decide (lookA J.here h = some ("hand" : Str))
  | some i => decide (i = h)
def Jd.turn (κ : JK) (J : Jd) (p : Po) (h : Int) (key : Int × Int) : Bool := match κ with
  | .lo => true
  | .on => decide (h ∉ p.ears)
  | .tu => decide ((lookP J.hts (h, key.1)).getD (-1) < key.2)
/-- a row; none where it isn't right -/
def Jd.row (κ : JK) (J : Jd) : Rw → Option Jd
  | .come h s => if lookA J.here h = none then some { J with here := putA J.here h s } else none
  | .go h => if lookA J.here h = none then none else some { J with here := dropA J.here h }
  | .send a n aim t => if lookA J.here a = none ∨ n ≤ (lookA J.newest a).getD (-1) then none
    else some { J with newest := putA J.newest a n, posts := putP J.posts (a, n) ⟨aim, t, J.due a aim, [], false⟩ }
  | .hear h a n t => match lookP J.posts (a, n) with
    | none => none
    | some p => if lookA J.here h = none then none else if p.words ≠ t then none else if J.isFor p h a = false then none else if J.turn κ p h (a, n) = false then none
      else some { J with hts := (match κ with | .tu => putP J.hts (h, a) n | _ => J.hts), posts := putP J.posts (a, n) { p with ears := earPut p.ears h } }
  | .lose a n => match lookP J.posts (a, n) with
    | none => none
    | some p => some { J with posts := putP J.posts (a, n) { p with lost := true } }
def Po.done (p : Po) : Bool := p.lost || p.due.all fun h => decide (h ∈ p.ears)
def Jd.endOk (J : Jd) (ws : List (Int × Int)) : Bool := (ws.all fun k => (lookP J.posts k).isSome) && J.posts.all fun e => decide (e.1 ∈ ws) || e.2.done
/-- the first wrong row -/
def judge (κ : JK) : Jd → List Rw → Nat → Nat ⊕ Jd
  | J, [], _ => .inr J
  | J, r :: rs, i => match J.row κ r with
    | none => .inl i
    | some J' => judge κ J' rs (i + 1)
/-- the same with rows of any kind: the forms are looked at -/
def firstWrong (κ : JK) (rs : List Rw) (ws : List (Int × Int)) : Option Nat := match judge κ Jd.nil rs 0 with
  | .inl i => some i
  | .inr J => if J.endOk ws then none else some rs.length
/-! ### lemmas -/
section
variable {α : Type}
theorem lookP_cons {p : (Int × Int) × α} {m : List ((Int × Int) × α)} {k : Int × Int} : lookP (p :: m) k = if p.1 = k then some p.2 else lookP m k := by
  unfold lookP
  rw [List.find?_cons]
  by_cases e : p.1 = k <;> simp [e]
theorem lookP_map (k j : Int × Int) (x : α) : ∀ m : List ((Int × Int) × α), lookP (m.map fun kv => if kv.1 = k then (kv.1, x) else kv) j = (lookP m j).map fun y => if j = k then x else y
  | [] => rfl
  | p :: m => by
    rw [List.map_cons, lookP_cons, lookP_cons, lookP_map k j x m]
    by_cases e : p.1 = k
    · by_cases f : p.1 = j
      · have : j = k := f ▸ e
        simp [e, this]
      · have : ¬ k = j := fun z => f (e.trans z)
        simp only [e, if_true]
        rw [if_neg this, if_neg this]
    · by_cases f : p.1 = j
      · have : ¬ j = k := fun z => e (f.trans z)
        rw [if_neg e, if_pos f, if_pos f, Option.map_some, if_neg this]
      · rw [if_neg e, if_neg f, if_neg f]
theorem lookP_snoc (k j : Int × Int) (x : α) : ∀ m : List ((Int × Int) × α), lookP (m ++ [(k, x)]) j = match lookP m j with | some y => some y | none => if k = j then some x else none
  | [] => by
    show lookP [(k, x)] j = _
    rw [lookP_cons]
    rfl
  | p :: m => by
    show lookP (p :: (m ++ [(k, x)])) j = _
    rw [lookP_cons, lookP_cons, lookP_snoc k j x m]
    by_cases e : p.1 = j <;> simp [e]
theorem any_lookP (k : Int × Int) : ∀ m : List ((Int × Int) × α), (m.any fun kv => decide (kv.1 = k)) = (lookP m k).isSome
  | [] => rfl
  | p :: m => by
    rw [List.any_cons, lookP_cons, any_lookP k m]
    by_cases e : p.1 = k <;> simp [e]
theorem lookP_put {m : List ((Int × Int) × α)} {k j : Int × Int} {x : α} : lookP (putP m k x) j = if j = k then some x else lookP m j := by
  unfold putP
  rw [any_lookP]
  cases e : lookP m k with
  | none =>
    rw [if_neg (by simp), lookP_snoc]
    by_cases f : j = k
    · subst f
      simp [e]
    · rw [if_neg f]
      cases lookP m j with
      | none => exact if_neg fun z => f z.symm
      | some y => rfl
  | some z =>
    rw [if_pos (by simp), lookP_map]
    by_cases f : j = k
    · subst f
      rw [e]
      simp
    · rw [if_neg f]
      cases lookP m j with
      | none => rfl
      | some y => simp [f]
theorem keysP_put {m : List ((Int × Int) × α)} {k : Int × Int} {v : α} : (putP m k v).map (·.1) = if k ∈ m.map (·.1) then m.map (·.1) else m.map (·.1) ++ [k] := by
  unfold putP
  by_cases h : (m.any fun kv => decide (kv.1 = k)) = true
  · have hk : k ∈ m.map (·.1) := by
      obtain ⟨e, he, e1⟩ := List.any_eq_true.mp h
      exact List.mem_map.mpr ⟨e, he, of_decide_eq_true e1⟩
    rw [if_pos h, if_pos hk, List.map_map]
    refine List.map_congr_left fun kv _ => ?_
    show (if kv.1 = k then (kv.1, v) else kv).1 = kv.1
    split <;> rfl
  · have hk : k ∉ m.map (·.1) := fun z => by
      obtain ⟨e, he, e1⟩ := List.mem_map.mp z
      exact h (List.any_eq_true.mpr ⟨e, he, decide_eq_true e1⟩)
    rw [if_neg h, if_neg hk, List.map_append]
    rfl
theorem lookP_none {m : List ((Int × Int) × α)} {k : Int × Int} : lookP m k = none ↔ k ∉ m.map (·.1) := by
  unfold lookP
  rw [Option.map_eq_none_iff, List.find?_eq_none]
  constructor
  · intro h z
    obtain ⟨e, he, e1⟩ := List.mem_map.mp z
    exact h e he (decide_eq_true e1)
  · intro h x hx z
    exact h (List.mem_map.mpr ⟨x, hx, of_decide_eq_true z⟩)
theorem lookP_mem {m : List ((Int × Int) × α)} {k : Int × Int} {v : α} (h : lookP m k = some v) : (k, v) ∈ m := by
  unfold lookP at h
  obtain ⟨e, he, e1⟩ := Option.map_eq_some_iff.mp h
  have h1 := List.find?_some he
  have h2 := List.mem_of_find?_eq_some he
  have : e = (k, v) := Prod.ext (of_decide_eq_true h1) e1
  exact this ▸ h2
theorem lookP_of_mem {m : List ((Int × Int) × α)} {k : Int × Int} {v : α} (nd : (m.map (·.1)).Nodup) (h : (k, v) ∈ m) : lookP m k = some v := by
  induction m with
  | nil => cases h
  | cons e m ih =>
    rw [List.map_cons, List.nodup_cons] at nd
    unfold lookP
    rcases List.mem_cons.mp h with rfl | h
    · rw [List.find?_cons_of_pos (by simp)]; rfl
    · have ne : e.1 ≠ k := fun z => nd.1 (z ▸ List.mem_map.mpr ⟨_, h, rfl⟩)
      rw [List.find?_cons_of_neg (by simp [ne])]
      exact ih nd.2 h
theorem putP_len (m : List ((Int × Int) × α)) (k : Int × Int) (v : α) : (putP m k v).length ≤ m.length + 1 := by
  unfold putP
  split
  · rw [List.length_map]; omega
  · rw [List.length_append]; exact Nat.le_refl _
theorem mem_putP {m : List ((Int × Int) × α)} {k : Int × Int} {v : α} {e : (Int × Int) × α} (h : e ∈ putP m k v) : e = (k, v) ∨ e ∈ m ∧ e.1 ≠ k := by
  unfold putP at h
  split at h
  · obtain ⟨q, hq, e1⟩ := List.mem_map.mp h
    by_cases z : q.1 = k
    · rw [if_pos z] at e1
      exact .inl (e1 ▸ Prod.ext z rfl)
    · rw [if_neg z] at e1
      exact .inr (e1 ▸ ⟨hq, z⟩)
  · rename_i hn
    rcases List.mem_append.mp h with h | h
    · exact .inr ⟨h, fun z => hn (List.any_eq_true.mpr ⟨e, h, decide_eq_true z⟩)⟩
    · exact .inl (List.mem_singleton.mp h)
theorem nodup_putP {m : List ((Int × Int) × α)} {k : Int × Int} {v : α} (nd : (m.map (·.1)).Nodup) : ((putP m k v).map (·.1)).Nodup := by
  rw [keysP_put]
  split
  · exact nd
  · rename_i h
    exact List.nodup_append.mpr ⟨nd, by simp, fun a ha b hb e => h (by rw [List.mem_singleton.mp hb] at e; exact e ▸ ha)⟩
end
end Wn

namespace Wn
open PySem L2
/-! ### where a judge lies -/
structure Pc where
  P : Addr
  J : JK → Addr
structure Ja where
  j : Addr
  dx : Addr
  p : Addr
  q : Addr
  n : Addr
  h : Addr
  po : Int × Int → Addr
  pd : Int × Int → Addr
  du : Int × Int → Addr
  ea : Int × Int → Addr
def pk (k : Int × Int) : List Key := [.inl k.1, .inl k.2]
theorem pk_iff {a b : Int × Int} : pk a = pk b ↔ a = b := by
  unfold pk
  constructor
  · intro h
    simp only [List.cons.injEq, Sum.inl.injEq, and_true] at h
    exact Prod.ext h.1 h.2
  · intro h; rw [h]
section
variable {α : Type}
def gK (g : α → V) (m : List (Int × α)) : List (Key × V) := m.map fun e => (.inl e.1, g e.2)
theorem valV_gK (g : α → V) (k : Int) : ∀ m : List (Int × α), valV (gK g m) (.inl k) = (lookA m k).map g
  | [] => rfl
  | e :: m => by
    show valV ((Sum.inl e.1, g e.2) :: gK g m) (.inl k) = _
    rw [lookA_cons]
    by_cases h : e.1 = k
    · rw [valV_pos (inl_iff.mpr h), if_pos h]; rfl
    · rw [valV_neg (fun z => h (inl_iff.mp z)), valV_gK g k m, if_neg h]
theorem putK_gK (g : α → V) (k : Int) (x : α) (m : List (Int × α)) : putK (gK g m) (.inl k) (g x) = gK g (putA m k x) := by
  unfold putK putA
  rw [valV_any, valV_gK, any_lookA, Option.isSome_map]
  split
  · unfold gK
    rw [List.map_map, List.map_map]
    refine List.map_congr_left fun e _ => ?_
    by_cases h : e.1 = k
    · simp [Function.comp, h]
    · simp [Function.comp, h, inl_iff]
  · unfold gK
    rw [List.map_append]
    rfl
theorem dropK_gK (g : α → V) (k : Int) (m : List (Int × α)) : dropK (gK g m) (.inl k) = gK g (dropA m k) := by
  unfold dropK dropA gK
  rw [List.filter_map]
  congr 1
  refine List.filter_congr fun e _ => ?_
  by_cases h : e.1 = k
  · simp [Function.comp, h]
  · simp [Function.comp, h, inl_iff]
/-- by pairs -/
def gP (g : Int × Int → α → V) (m : List ((Int × Int) × α)) : List (List Key × V) := m.map fun e => (pk e.1, g e.1 e.2)
theorem valV_gP (g : Int × Int → α → V) (k : Int × Int) : ∀ m : List ((Int × Int) × α), valV (gP g m) (pk k) = (lookP m k).map (g k)
  | [] => rfl
  | e :: m => by
    show valV ((pk e.1, g e.1 e.2) :: gP g m) (pk k) = _
    rw [lookP_cons]
    by_cases h : e.1 = k
    · rw [valV_pos (pk_iff.mpr h), if_pos h, h]; rfl
    · rw [valV_neg (fun z => h (pk_iff.mp z)), valV_gP g k m, if_neg h]
theorem putK_gP (g : Int × Int → α → V) (k : Int × Int) (x : α) (m : List ((Int × Int) × α)) : putK (gP g m) (pk k) (g k x) = gP g (putP m k x) := by
  unfold putK putP
  rw [valV_any, valV_gP, any_lookP, Option.isSome_map]
  split
  · unfold gP
    rw [List.map_map, List.map_map]
    refine List.map_congr_left fun e _ => ?_
    by_cases h : e.1 = k
    · simp [Function.comp, h]
    · simp [Function.comp, h, pk_iff]
  · unfold gP
    rw [List.map_append]
    rfl
theorem gP_congr {g g' : Int × Int → α → V} {m : List ((Int × Int) × α)} (h : ∀ e ∈ m, g e.1 e.2 = g' e.1 e.2) : gP g m = gP g' m :=
  List.map_congr_left fun e he => by rw [h e he]
theorem gK_len (g : α → V) (m : List (Int × α)) : (gK g m).length = m.length := List.length_map _
theorem gP_len (g : Int × Int → α → V) (m : List ((Int × Int) × α)) : (gP g m).length = m.length := List.length_map _
end
def earK (es : List Int) : List (Key × V) := es.map fun h => (.inl h, .bl true)
theorem valV_ear (k : Int) : ∀ es : List Int, valV (earK es) (.inl k) = if k ∈ es then some (.bl true) else none
  | [] => rfl
  | e :: es => by
    show valV ((Sum.inl e, V.bl true) :: earK es) (.inl k) = _
    by_cases h : e = k
    · rw [valV_pos (inl_iff.mpr h), if_pos (by rw [h]; exact List.mem_cons_self)]
    · rw [valV_neg (fun z => h (inl_iff.mp z)), valV_ear k es]
      have : k ∈ e :: es ↔ k ∈ es := by rw [List.mem_cons]; exact ⟨fun z => z.resolve_left fun q => h q.symm, .inr⟩
      simp only [this]
theorem putK_ear (k : Int) (es : List Int) : putK (earK es) (.inl k) (.bl true) = earK (earPut es k) := by
  unfold putK earPut
  rw [valV_any, valV_ear]
  by_cases h : k ∈ es
  · rw [if_pos h, if_pos h]
    simp only [Option.isSome_some, if_true]
    unfold earK
    rw [List.map_map]
    refine List.map_congr_left fun e _ => ?_
    by_cases z : e = k
    · simp [Function.comp, z]
    · simp [Function.comp, z, inl_iff]
  · rw [if_neg h, if_neg h]
    simp only [Option.isSome_none, Bool.false_eq_true, if_false]
    unfold earK
    rw [List.map_append]
    rfl
theorem earPut_len (es : List Int) (k : Int) : (earPut es k).length ≤ es.length + 1 := by
  unfold earPut
  split
  · omega
  · rw [List.length_append]; exact Nat.le_refl _
def poF (A : Ja) (k : Int × Int) (x : Po) : List (Str × V) := [("aim", aimV x.aim), ("words", .str x.words), ("due", .ref (A.du k)), ("ears", .ref (A.ea k)), ("is_lost", .bl x.lost)]
def jF (κ : JK) (A : Ja) : List (Str × V) := match κ with
  | .tu => [("present", .ref A.p), ("posts", .ref A.q), ("newest", .ref A.n), ("heights", .ref A.h)]
  | _ => [("present", .ref A.p), ("posts", .ref A.q), ("newest", .ref A.n)]
def poR (A : Ja) : Int × Int → Po → V := fun k _ => .ref (A.po k)
def PoAt (c : Pc) (H : Hp) (A : Ja) (k : Int × Int) (x : Po) : Prop := H (A.po k) = some (.ins c.P (A.pd k) (poF A k x)) ∧ H (A.du k) = some (.lst (x.due.map V.int)) ∧ H (A.ea k) = some (.dK (earK x.ears))
structure JdAt (c : Pc) (κ : JK) (H0 H : Hp) (A : Ja) (J : Jd) (N : Nat) : Prop where
  sm : Same H0 H
  o : H A.j = some (.ins (c.J κ) A.dx (jF κ A))
  here : H A.p = some (.dK (gK V.str J.here))
  posts : H A.q = some (.dT (gP (poR A) J.posts))
  newest : H A.n = some (.dK (gK V.int J.newest))
  hts : κ = .tu → H A.h = some (.dT (gP (fun _ => V.int) J.hts))
  po : ∀ k x, lookP J.posts k = some x → PoAt c H A k x
  pn : A.p ≠ A.n
  qh : κ = .tu → A.q ≠ A.h
  ep : ∀ k ∈ J.posts.map (·.1), A.ea k ≠ A.p ∧ A.ea k ≠ A.n
  ei : ∀ k ∈ J.posts.map (·.1), ∀ k' ∈ J.posts.map (·.1), A.ea k = A.ea k' → k = k'
  pi : ∀ k ∈ J.posts.map (·.1), ∀ k' ∈ J.posts.map (·.1), A.po k = A.po k' → k = k'
  nd : (J.posts.map (·.1)).Nodup
  fj : H0 A.j = none
  fp : H0 A.p = none
  fq : H0 A.q = none
  fn : H0 A.n = none
  fh : κ = .tu → H0 A.h = none
  fo : ∀ k ∈ J.posts.map (·.1), H0 (A.po k) = none ∧ H0 (A.ea k) = none
  nw : ∀ k ∈ J.posts.map (·.1), ∃ m, lookA J.newest k.1 = some m ∧ k.2 ≤ m
  hn : (J.here.map (·.1)).Nodup
  l1 : J.here.length ≤ N
  l2 : J.posts.length ≤ N
  l3 : J.newest.length ≤ N
  l4 : J.hts.length ≤ N
  l5 : ∀ k x, lookP J.posts k = some x → x.ears.length ≤ N ∧ x.due.length ≤ N
section
variable {c : Pc} {κ : JK} {H0 H H' : Hp} {A : Ja} {J : Jd} {N : Nat}
theorem PoAt.kp {M : List Addr} {k : Int × Int} {x : Po} (h : PoAt c H A k x) (kp : Kp M H H') (n1 : A.po k ∉ M) (n2 : A.du k ∉ M) (n3 : A.ea k ∉ M) : PoAt c H' A k x :=
  ⟨kp _ _ n1 h.1, kp _ _ n2 h.2.1, kp _ _ n3 h.2.2⟩
theorem jF_p : (jF κ A).lookup ("present" : Str) = some (.ref A.p) := by cases κ <;> rfl
theorem jF_q : (jF κ A).lookup ("posts" : Str) = some (.ref A.q) := by cases κ <;> rfl
theorem jF_n : (jF κ A).lookup ("newest" : Str) = some (.ref A.n) := by cases κ <;> rfl
theorem jF_no {f : Str} (h : f ≠ "present" ∧ f ≠ "posts" ∧ f ≠ "newest" ∧ f ≠ "heights") : (jF κ A).lookup f = none := by
  have b : ∀ x : Str, f ≠ x → (f == x) = false := fun x hx => beq_eq_false_iff_ne.mpr hx
  cases κ <;> simp only [jF, List.lookup, b _ h.1, b _ h.2.1, b _ h.2.2.1, b _ h.2.2.2]
theorem jF_len : (jF κ A).length ≠ 5 := by cases κ <;> (intro z; cases z)
theorem JdAt.mono {N' : Nat} (h : JdAt c κ H0 H A J N) (hN : N ≤ N') : JdAt c κ H0 H A J N' :=
  ⟨h.sm, h.o, h.here, h.posts, h.newest, h.hts, h.po, h.pn, h.qh, h.ep, h.ei, h.pi, h.nd, h.fj, h.fp, h.fq, h.fn, h.fh, h.fo, h.nw, h.hn, Nat.le_trans h.l1 hN, Nat.le_trans h.l2 hN, Nat.le_trans h.l3 hN, Nat.le_trans h.l4 hN, fun k x e => ⟨Nat.le_trans (h.l5 k x e).1 hN, Nat.le_trans (h.l5 k x e).2 hN⟩⟩
theorem JdAt.same (h : JdAt c κ H0 H A J N) (s : Same H H') : JdAt c κ H0 H' A J N :=
  ⟨h.sm.trans s, s _ _ h.o, s _ _ h.here, s _ _ h.posts, s _ _ h.newest, fun e => s _ _ (h.hts e), fun k x e => ⟨s _ _ (h.po k x e).1, s _ _ (h.po k x e).2.1, s _ _ (h.po k x e).2.2⟩, h.pn, h.qh, h.ep, h.ei, h.pi, h.nd, h.fj, h.fp, h.fq, h.fn, h.fh, h.fo, h.nw, h.hn, h.l1, h.l2, h.l3, h.l4, h.l5⟩
theorem lookA_of_mem {α : Type} {m : List (Int × α)} {k : Int} {v : α} (nd : (m.map (·.1)).Nodup) (h : (k, v) ∈ m) : lookA m k = some v := by
  induction m with
  | nil => cases h
  | cons e m ih =>
    rw [List.map_cons, List.nodup_cons] at nd
    rw [lookA_cons]
    rcases List.mem_cons.mp h with rfl | h
    · rw [if_pos rfl]
    · have ne : e.1 ≠ k := fun z => nd.1 (z ▸ List.mem_map.mpr ⟨_, h, rfl⟩)
      rw [if_neg ne]
      exact ih nd.2 h
theorem JdAt.hd (h : JdAt c κ H0 H A J N) : ∀ b ∈ J.here, lookA J.here b.1 = some b.2 := fun b hb => lookA_of_mem h.hn hb
theorem look_keys {k : Int × Int} {x : Po} (h : lookP J.posts k = some x) : k ∈ J.posts.map (·.1) := List.mem_map.mpr ⟨_, lookP_mem h, rfl⟩
/-- who is there is written -/
theorem JdAt.setHere {he : List (Int × Str)} (h : JdAt c κ H0 H A J N) (kp : Kp [A.p] H H') (e : H' A.p = some (.dK (gK V.str he))) (hnd : (he.map (·.1)).Nodup) (hl : he.length ≤ N + 1) : JdAt c κ H0 H' A { J with here := he } (N + 1) := by
  refine ⟨fun b o q => kp _ _ (nin1 (ne_of_none q h.fp)) (h.sm _ _ q), kp _ _ (nin1 (ne_of h.o h.here (by intro z; cases z))) h.o, e, kp _ _ (nin1 (ne_of h.posts h.here (by intro z; cases z))) h.posts, kp _ _ (nin1 h.pn.symm) h.newest, fun z => kp _ _ (nin1 (ne_of (h.hts z) h.here (by intro z; cases z))) (h.hts z),
    fun k x q => (h.po k x q).kp kp (nin1 (ne_of (h.po k x q).1 h.here (by intro z; cases z))) (nin1 (ne_of (h.po k x q).2.1 h.here (by intro z; cases z))) (nin1 (h.ep k (look_keys q)).1), h.pn, h.qh, h.ep, h.ei, h.pi, h.nd, h.fj, h.fp, h.fq, h.fn, h.fh, h.fo, h.nw, hnd, hl, Nat.le_succ_of_le h.l2, Nat.le_succ_of_le h.l3, Nat.le_succ_of_le h.l4, fun k x q => ⟨Nat.le_succ_of_le (h.l5 k x q).1, Nat.le_succ_of_le (h.l5 k x q).2⟩⟩
/-- the last numbers are written -/
theorem JdAt.setNew {nw : List (Int × Int)} (h : JdAt c κ H0 H A J N) (kp : Kp [A.n] H H') (e : H' A.n = some (.dK (gK V.int nw))) (hw : ∀ k ∈ J.posts.map (·.1), ∃ m, lookA nw k.1 = some m ∧ k.2 ≤ m) (hl : nw.length ≤ N + 1) : JdAt c κ H0 H' A { J with newest := nw } (N + 1) := by
  refine ⟨fun b o q => kp _ _ (nin1 (ne_of_none q h.fn)) (h.sm _ _ q), kp _ _ (nin1 (ne_of h.o h.newest (by intro z; cases z))) h.o, kp _ _ (nin1 h.pn) h.here, kp _ _ (nin1 (ne_of h.posts h.newest (by intro z; cases z))) h.posts, e, fun z => kp _ _ (nin1 (ne_of (h.hts z) h.newest (by intro z; cases z))) (h.hts z),
    fun k x q => (h.po k x q).kp kp (nin1 (ne_of (h.po k x q).1 h.newest (by intro z; cases z))) (nin1 (ne_of (h.po k x q).2.1 h.newest (by intro z; cases z))) (nin1 (h.ep k (look_keys q)).2), h.pn, h.qh, h.ep, h.ei, h.pi, h.nd, h.fj, h.fp, h.fq, h.fn, h.fh, h.fo, hw, h.hn, Nat.le_succ_of_le h.l1, Nat.le_succ_of_le h.l2, hl, Nat.le_succ_of_le h.l4, fun k x q => ⟨Nat.le_succ_of_le (h.l5 k x q).1, Nat.le_succ_of_le (h.l5 k x q).2⟩⟩
/-- the heights are written -/
theorem JdAt.setHts {hs : List ((Int × Int) × Int)} (h : JdAt c .tu H0 H A J N) (kp : Kp [A.h] H H') (e : H' A.h = some (.dT (gP (fun _ => V.int) hs))) (hl : hs.length ≤ N + 1) : JdAt c .tu H0 H' A { J with hts := hs } (N + 1) := by
  have hh := h.hts rfl
  refine ⟨fun b o q => kp _ _ (nin1 (ne_of_none q (h.fh rfl))) (h.sm _ _ q), kp _ _ (nin1 (ne_of h.o hh (by intro z; cases z))) h.o, kp _ _ (nin1 (ne_of h.here hh (by intro z; cases z))) h.here, kp _ _ (nin1 (h.qh rfl)) h.posts, kp _ _ (nin1 (ne_of h.newest hh (by intro z; cases z))) h.newest, fun _ => e,
    fun k x q => (h.po k x q).kp kp (nin1 (ne_of (h.po k x q).1 hh (by intro z; cases z))) (nin1 (ne_of (h.po k x q).2.1 hh (by intro z; cases z))) (nin1 (ne_of (h.po k x q).2.2 hh (by intro z; cases z))), h.pn, h.qh, h.ep, h.ei, h.pi, h.nd, h.fj, h.fp, h.fq, h.fn, h.fh, h.fo, h.nw, h.hn, Nat.le_succ_of_le h.l1, Nat.le_succ_of_le h.l2, Nat.le_succ_of_le h.l3, hl, fun k x q => ⟨Nat.le_succ_of_le (h.l5 k x q).1, Nat.le_succ_of_le (h.l5 k x q).2⟩⟩
theorem keys_same {k : Int × Int} {x y : Po} (h : lookP J.posts k = some x) : (putP J.posts k y).map (·.1) = J.posts.map (·.1) := by rw [keysP_put, if_pos (look_keys h)]
theorem gP_poR {k : Int × Int} {x y : Po} (h : lookP J.posts k = some x) : gP (poR A) (putP J.posts k y) = gP (poR A) J.posts := by
  have e : ∀ m : List ((Int × Int) × Po), gP (poR A) m = (m.map (·.1)).map fun k => (pk k, V.ref (A.po k)) := fun m => by unfold gP poR; rw [List.map_map]; rfl
  rw [e, e, keys_same h]
/-- the ears of a letter are written -/
theorem JdAt.setEars {k : Int × Int} {x : Po} {es : List Int} (h : JdAt c κ H0 H A J N) (hk : lookP J.posts k = some x) (kp : Kp [A.ea k] H H') (e : H' (A.ea k) = some (.dK (earK es))) (hl : es.length ≤ N + 1) : JdAt c κ H0 H' A { J with posts := putP J.posts k { x with ears := es } } (N + 1) := by
  have ks := keys_same (y := { x with ears := es }) hk
  have hm := look_keys hk
  obtain ⟨p1, p2, p3⟩ := h.po k x hk
  refine ⟨fun b o q => kp _ _ (nin1 (ne_of_none q (h.fo k hm).2)) (h.sm _ _ q), kp _ _ (nin1 (ne_of h.o p3 (by intro z; cases z))) h.o, kp _ _ (nin1 (h.ep k hm).1.symm) h.here, ?_, kp _ _ (nin1 (h.ep k hm).2.symm) h.newest, fun z => kp _ _ (nin1 (ne_of (h.hts z) p3 (by intro z; cases z))) (h.hts z),
    fun k' x' q => ?_, h.pn, h.qh, ?_, ?_, ?_, ?_, h.fj, h.fp, h.fq, h.fn, h.fh, ?_, ?_, h.hn, Nat.le_succ_of_le h.l1, Nat.le_trans (putP_len _ _ _) (Nat.succ_le_succ h.l2), Nat.le_succ_of_le h.l3, Nat.le_succ_of_le h.l4, fun k' x' q => ?_⟩
  · show H' A.q = some (.dT (gP (poR A) (putP J.posts k _)))
    rw [gP_poR hk]
    exact kp _ _ (nin1 (ne_of h.posts p3 (by intro z; cases z))) h.posts
  · rw [lookP_put] at q
    by_cases ek : k' = k
    · rw [if_pos ek] at q
      cases q
      subst ek
      exact ⟨kp _ _ (nin1 (ne_of p1 p3 (by intro z; cases z))) p1, kp _ _ (nin1 (ne_of p2 p3 (by intro z; cases z))) p2, e⟩
    · rw [if_neg ek] at q
      have r := h.po k' x' q
      exact r.kp kp (nin1 (ne_of r.1 p3 (by intro z; cases z))) (nin1 (ne_of r.2.1 p3 (by intro z; cases z))) (nin1 fun z => ek (h.ei _ (look_keys q) _ hm z))
  · dsimp only; rw [ks]; exact h.ep
  · dsimp only; rw [ks]; exact h.ei
  · dsimp only; rw [ks]; exact h.pi
  · dsimp only; rw [ks]; exact h.nd
  · dsimp only; rw [ks]; exact h.fo
  · dsimp only; rw [ks]; exact h.nw
  · rw [lookP_put] at q
    by_cases ek : k' = k
    · rw [if_pos ek] at q
      cases q
      exact ⟨hl, Nat.le_succ_of_le (h.l5 k x hk).2⟩
    · rw [if_neg ek] at q
      exact ⟨Nat.le_succ_of_le (h.l5 k' x' q).1, Nat.le_succ_of_le (h.l5 k' x' q).2⟩
/-- a letter's field is written -/
theorem JdAt.setPost {k : Int × Int} {x y : Po} (h : JdAt c κ H0 H A J N) (hk : lookP J.posts k = some x) (ey : y.due = x.due ∧ y.ears = x.ears) (kp : Kp [A.po k] H H') (e : H' (A.po k) = some (.ins c.P (A.pd k) (poF A k y))) : JdAt c κ H0 H' A { J with posts := putP J.posts k y } (N + 1) := by
  have ks := keys_same (y := y) hk
  have hm := look_keys hk
  obtain ⟨p1, p2, p3⟩ := h.po k x hk
  have nj : A.j ≠ A.po k := fun z => by
    have q := h.o
    rw [z, p1] at q
    have q := Option.some.inj q
    injection q with _ _ q
    exact jF_len (κ := κ) (A := A) (by rw [← q]; rfl)
  refine ⟨fun b o q => kp _ _ (nin1 (ne_of_none q (h.fo k hm).1)) (h.sm _ _ q), kp _ _ (nin1 nj) h.o, kp _ _ (nin1 (ne_of h.here p1 (by intro z; cases z))) h.here, ?_, kp _ _ (nin1 (ne_of h.newest p1 (by intro z; cases z))) h.newest, fun z => kp _ _ (nin1 (ne_of (h.hts z) p1 (by intro z; cases z))) (h.hts z),
    fun k' x' q => ?_, h.pn, h.qh, ?_, ?_, ?_, ?_, h.fj, h.fp, h.fq, h.fn, h.fh, ?_, ?_, h.hn, Nat.le_succ_of_le h.l1, Nat.le_trans (putP_len _ _ _) (Nat.succ_le_succ h.l2), Nat.le_succ_of_le h.l3, Nat.le_succ_of_le h.l4, fun k' x' q => ?_⟩
  · show H' A.q = some (.dT (gP (poR A) (putP J.posts k _)))
    rw [gP_poR hk]
    exact kp _ _ (nin1 (ne_of h.posts p1 (by intro z; cases z))) h.posts
  · rw [lookP_put] at q
    by_cases ek : k' = k
    · rw [if_pos ek] at q
      cases q
      subst ek
      exact ⟨e, by rw [ey.1]; exact kp _ _ (nin1 (ne_of p2 p1 (by intro z; cases z))) p2, by rw [ey.2]; exact kp _ _ (nin1 (ne_of p3 p1 (by intro z; cases z))) p3⟩
    · rw [if_neg ek] at q
      have r := h.po k' x' q
      exact r.kp kp (nin1 fun z => ek (h.pi _ (look_keys q) _ hm z)) (nin1 (ne_of r.2.1 p1 (by intro z; cases z))) (nin1 (ne_of r.2.2 p1 (by intro z; cases z)))
  · dsimp only; rw [ks]; exact h.ep
  · dsimp only; rw [ks]; exact h.ei
  · dsimp only; rw [ks]; exact h.pi
  · dsimp only; rw [ks]; exact h.nd
  · dsimp only; rw [ks]; exact h.fo
  · dsimp only; rw [ks]; exact h.nw
  · rw [lookP_put] at q
    by_cases ek : k' = k
    · rw [if_pos ek] at q
      cases q
      rw [ey.1, ey.2]
      exact ⟨Nat.le_succ_of_le (h.l5 k x hk).1, Nat.le_succ_of_le (h.l5 k x hk).2⟩
    · rw [if_neg ek] at q
      exact ⟨Nat.le_succ_of_le (h.l5 k' x' q).1, Nat.le_succ_of_le (h.l5 k' x' q).2⟩
/-- a new letter: its object at o, its dict at e, who is due at d -/
def Ja.add (A : Ja) (k : Int × Int) (o od d e : Addr) : Ja := { A with po := fun z => if z = k then o else A.po z, pd := fun z => if z = k then od else A.pd z, du := fun z => if z = k then d else A.du z, ea := fun z => if z = k then e else A.ea z }
theorem JdAt.addPost {k : Int × Int} {x : Po} {o od d e : Addr} {G : Hp} (h : JdAt c κ H0 H A J N) (hk : lookP J.posts k = none) (sG : Same H G) (no : H o = none) (ne : H e = none)
    (go : G o = some (.ins c.P od (poF (A.add k o od d e) k x))) (gd : G d = some (.lst (x.due.map V.int))) (ge : G e = some (.dK (earK x.ears))) (kp : Kp [A.q] G H') (hq : H' A.q = some (.dT (putK (gP (poR A) J.posts) (pk k) (.ref o)))) (hx : x.ears.length ≤ N + 1 ∧ x.due.length ≤ N + 1) (hw : ∃ m, lookA J.newest k.1 = some m ∧ k.2 ≤ m) :
    JdAt c κ H0 H' (A.add k o od d e) { J with posts := putP J.posts k x } (N + 1) := by
  have nk := lookP_none.mp hk
  have keys : (putP J.posts k x).map (·.1) = J.posts.map (·.1) ++ [k] := by rw [keysP_put, if_neg nk]
  have hG := h.same sG
  have old : ∀ z ∈ J.posts.map (·.1), z ≠ k := fun z hz q => nk (q ▸ hz)
  have ao : (A.add k o od d e).po k = o := if_pos rfl
  have ae : (A.add k o od d e).ea k = e := if_pos rfl
  have ad : (A.add k o od d e).du k = d := if_pos rfl
  have apd : (A.add k o od d e).pd k = od := if_pos rfl
  have bo : ∀ z, z ≠ k → (A.add k o od d e).po z = A.po z := fun z hz => if_neg hz
  have be : ∀ z, z ≠ k → (A.add k o od d e).ea z = A.ea z := fun z hz => if_neg hz
  have bd : ∀ z, z ≠ k → (A.add k o od d e).du z = A.du z := fun z hz => if_neg hz
  have bpd : ∀ z, z ≠ k → (A.add k o od d e).pd z = A.pd z := fun z hz => if_neg hz
  have nq : ∀ {b : Addr} {u : HO}, G b = some u → (∀ w, u ≠ .dT w) → b ∉ [A.q] := fun hb hu => nin1 (ne_of hb hG.posts (hu _))
  have jf : jF κ (A.add k o od d e) = jF κ A := by cases κ <;> rfl
  have pf : ∀ z y, z ≠ k → poF (A.add k o od d e) z y = poF A z y := fun z y hz => by unfold poF; rw [bd z hz, be z hz]
  have memk : ∀ z ∈ J.posts.map (·.1) ++ [k], z = k ∨ z ∈ J.posts.map (·.1) ∧ z ≠ k := fun z hz => by
    rcases List.mem_append.mp hz with hz | hz
    · exact .inr ⟨hz, old z hz⟩
    · exact .inl (List.mem_singleton.mp hz)
  have fre : ∀ {b : Addr}, H b = none → H0 b = none := fun {b} hb => by
    cases q : H0 b with
    | none => rfl
    | some u => rw [h.sm _ _ q] at hb; cases hb
  have poat : ∀ z y, lookP J.posts z = some y → PoAt c G A z y := hG.po
  refine ⟨fun b u q => kp _ _ (nin1 (ne_of_none q h.fq)) (hG.sm _ _ q), ?_, kp _ _ (nq hG.here (by intro w z; cases z)) hG.here, ?_, kp _ _ (nq hG.newest (by intro w z; cases z)) hG.newest, fun z => kp _ _ (nin1 (h.qh z).symm) (hG.hts z),
    fun k' x' q => ?_, h.pn, h.qh, ?_, ?_, ?_, ?_, h.fj, h.fp, h.fq, h.fn, h.fh, ?_, ?_, h.hn, Nat.le_succ_of_le h.l1, Nat.le_trans (putP_len _ _ _) (Nat.succ_le_succ h.l2), Nat.le_succ_of_le h.l3, Nat.le_succ_of_le h.l4, fun k' x' q => ?_⟩
  · show H' A.j = some (.ins (c.J κ) A.dx (jF κ (A.add k o od d e)))
    rw [jf]
    exact kp _ _ (nq hG.o (by intro w z; cases z)) hG.o
  · show H' A.q = some (.dT (gP (poR (A.add k o od d e)) (putP J.posts k x)))
    rw [hq]
    have e1 : gP (poR A) J.posts = gP (poR (A.add k o od d e)) J.posts := gP_congr fun z hz => by
      show V.ref (A.po z.1) = .ref ((A.add k o od d e).po z.1)
      rw [bo z.1 (old z.1 (List.mem_map.mpr ⟨z, hz, rfl⟩))]
    have e2 : V.ref o = poR (A.add k o od d e) k x := by show V.ref o = .ref ((A.add k o od d e).po k); rw [ao]
    rw [e1, e2, putK_gP]
  · rw [lookP_put] at q
    by_cases ek : k' = k
    · rw [if_pos ek] at q
      cases q
      subst ek
      refine ⟨?_, ?_, ?_⟩
      · rw [ao, apd]; exact kp _ _ (nq go (by intro w z; cases z)) go
      · rw [ad]; exact kp _ _ (nq gd (by intro w z; cases z)) gd
      · rw [ae]; exact kp _ _ (nq ge (by intro w z; cases z)) ge
    · rw [if_neg ek] at q
      obtain ⟨r1, r2, r3⟩ := poat k' x' q
      refine ⟨?_, ?_, ?_⟩
      · rw [bo k' ek, bpd k' ek, pf k' x' ek]; exact kp _ _ (nq r1 (by intro w z; cases z)) r1
      · rw [bd k' ek]; exact kp _ _ (nq r2 (by intro w z; cases z)) r2
      · rw [be k' ek]; exact kp _ _ (nq r3 (by intro w z; cases z)) r3
  · dsimp only
    rw [keys]
    intro z hz
    rcases memk z hz with rfl | ⟨hz, nz⟩
    · rw [ae]; exact ⟨fun q => (by rw [show e = A.p from q, h.here] at ne; cases ne), fun q => (by rw [show e = A.n from q, h.newest] at ne; cases ne)⟩
    · rw [be z nz]; exact h.ep z hz
  · dsimp only
    rw [keys]
    have one : ∀ z ∈ J.posts.map (·.1), A.ea z ≠ e := fun z hz q => by
      obtain ⟨y, hy⟩ : ∃ y, lookP J.posts z = some y := by
        cases w : lookP J.posts z with
        | none => exact absurd hz (lookP_none.mp w)
        | some y => exact ⟨y, rfl⟩
      rw [← q, (h.po z y hy).2.2] at ne
      cases ne
    intro z hz z' hz' q
    rcases memk z hz with rfl | ⟨hz1, nz⟩
    · rcases memk z' hz' with rfl | ⟨hz2, nz'⟩
      · rfl
      · rw [ae, be z' nz'] at q; exact absurd q.symm (one z' hz2)
    · rcases memk z' hz' with rfl | ⟨hz2, nz'⟩
      · rw [ae, be z nz] at q; exact absurd q (one z hz1)
      · rw [be z nz, be z' nz'] at q; exact h.ei z hz1 z' hz2 q
  · dsimp only
    rw [keys]
    have one : ∀ z ∈ J.posts.map (·.1), A.po z ≠ o := fun z hz q => by
      obtain ⟨y, hy⟩ : ∃ y, lookP J.posts z = some y := by
        cases w : lookP J.posts z with
        | none => exact absurd hz (lookP_none.mp w)
        | some y => exact ⟨y, rfl⟩
      rw [← q, (h.po z y hy).1] at no
      cases no
    intro z hz z' hz' q
    rcases memk z hz with rfl | ⟨hz1, nz⟩
    · rcases memk z' hz' with rfl | ⟨hz2, nz'⟩
      · rfl
      · rw [ao, bo z' nz'] at q; exact absurd q.symm (one z' hz2)
    · rcases memk z' hz' with rfl | ⟨hz2, nz'⟩
      · rw [ao, bo z nz] at q; exact absurd q (one z hz1)
      · rw [bo z nz, bo z' nz'] at q; exact h.pi z hz1 z' hz2 q
  · exact nodup_putP h.nd
  · dsimp only
    rw [keys]
    intro z hz
    rcases memk z hz with rfl | ⟨hz, nz⟩
    · rw [ao, ae]; exact ⟨fre no, fre ne⟩
    · rw [bo z nz, be z nz]; exact h.fo z hz
  · dsimp only
    rw [keys]
    intro z hz
    rcases memk z hz with rfl | ⟨hz, nz⟩
    · exact hw
    · exact h.nw z hz
  · rw [lookP_put] at q
    by_cases ek : k' = k
    · rw [if_pos ek] at q
      cases q
      exact hx
    · rw [if_neg ek] at q
      exact ⟨Nat.le_succ_of_le (h.l5 k' x' q).1, Nat.le_succ_of_le (h.l5 k' x' q).2⟩
end
theorem jmk_any {H : Hp} {x dx C : Addr} (n : H x = none) (nd : H dx = none) (ne : dx ≠ x) : ∃ H', upd (upd H dx (.own x)) x (.ins C dx []) = H' ∧ Same H H' ∧ H' x = some (.ins C dx []) := by
  refine ⟨_, rfl, fun c o e => ?_, upd_same⟩
  exact ((L2.Same.refl H).new nd).trans ((L2.Same.refl _).new (by rw [upd_ne ne.symm]; exact n)) c o e
theorem jmk_same {H H1 H2 : Hp} {x : Addr} (n : H x = none) (s : Same H H1) (k : Kp [x] H1 H2) : Same H H2 := fun c o e => k c o (nin1 (ne_of_none e n)) (s c o e)
theorem due_len (J : Jd) (a : Int) (aim : Option Int) : (J.due a aim).length ≤ J.here.length := by
  cases aim <;> (unfold Jd.due; rw [List.length_map]; exact List.length_filter_le _ _)
end Wn

set_option maxHeartbeats 800000
namespace Wn
open PySem L2
set_option pp.maxSteps 700
set_option pp.deepTerms false
local macro_rules | `(tactic| walk_at "h") => `(tactic| first | with_reducible assumption | (with_reducible exact upd_same) | (with_reducible apply g_upd; (walk_at "neq"); (walk_at "h")) | (with_reducible apply g_same; (with_reducible assumption); (walk_at "h")) | (with_reducible apply g_kp; (with_reducible assumption); (walk_at "nin"); (walk_at "h")) | (with_reducible apply g_tk; (with_reducible assumption); (walk_at "h")))
local macro_rules | `(tactic| walk_at "neq") => `(tactic| first | with_reducible assumption | (with_reducible apply Ne.symm; with_reducible assumption) | (with_reducible apply ne_upd; (with_reducible assumption)) | (with_reducible apply Ne.symm; with_reducible apply ne_upd; with_reducible assumption) | (with_reducible apply ne_fr; (with_reducible assumption); (walk_at "h")) | (with_reducible apply ne_fr'; (with_reducible assumption); (walk_at "h")) | (with_reducible apply ne_kd; (walk_at "h"); (walk_at "h"); (with_unfolding_all (intro z; cases z))))
local macro_rules | `(tactic| walk_at "nin") => `(tactic| first | (with_reducible exact nin0) | with_reducible assumption | (with_reducible apply ninc; (walk_at "neq"); (walk_at "nin")))
local macro_rules | `(tactic| walk_at "none") => `(tactic| first | with_reducible assumption | (with_reducible apply n_upd; (with_reducible assumption)) | (with_reducible apply n_same; (with_reducible assumption); (walk_at "none")) | (with_reducible apply n_kp; (with_reducible assumption); (walk_at "nin"); (walk_at "none")))
local macro_rules | `(tactic| walk_at "mem") => `(tactic| first | (with_reducible exact List.mem_cons_self) | (with_reducible apply List.mem_cons_of_mem; (walk_at "mem")))
local macro_rules | `(tactic| walk_at "am") => `(tactic| first | (with_reducible exact am0) | (with_reducible apply am1; (first | (apply Or.inl; walk_at "mem") | (apply Or.inr; walk_at "none")); (walk_at "am")))
local macro_rules | `(tactic| walk_at "tk") => `(tactic| first | (with_reducible exact TK.refl _) | with_reducible assumption | (with_reducible apply t_tk; (with_reducible assumption); (walk_at "tk")) | (with_reducible apply t_same; (with_reducible assumption); (walk_at "tk")) | (with_reducible apply t_new; (with_reducible assumption); (walk_at "tk")) | (with_reducible apply t_wr; (walk_at "h"); (with_unfolding_all rfl); (walk_at "tk")))
local macro_rules | `(tactic| walk_at "same") => `(tactic| first | (with_reducible exact L2.Same.refl _) | with_reducible assumption | (with_reducible apply s_same; (with_reducible assumption); (walk_at "same")) | (with_reducible apply s_new; (with_reducible assumption); (walk_at "same")) | (with_reducible apply s_wrn; (walk_at "none"); (walk_at "same")))
local macro_rules | `(tactic| walk_at "kp") => `(tactic| first | (with_reducible exact Kp.refl _ _) | with_reducible assumption | (with_reducible apply k_same; (with_reducible assumption); (walk_at "kp")) | (with_reducible apply k_kp; (with_reducible assumption); (walk_at "kp")) | (with_reducible apply k_kpm; (with_reducible assumption); (walk_at "am"); (walk_at "kp")) | (with_reducible apply k_new; (with_reducible assumption); (walk_at "kp")) | (with_reducible apply k_wr; (walk_at "mem"); (walk_at "kp")) | (with_reducible apply k_wrn; (walk_at "none"); (walk_at "kp")))
local macro_rules | `(tactic| walk_at "rp") => `(tactic| first | with_reducible assumption | (with_reducible exact Rp.int) | (with_reducible exact Rp.str) | (with_reducible exact Rp.none) | (with_reducible exact Rp.bool) | (with_reducible apply Rp.tk'; (with_reducible assumption); (walk_at "tk")) | (with_reducible apply Rp.tup; (walk_at "h"); (walk_at "rpl")))
local macro_rules | `(tactic| walk_at "rpl") => `(tactic| first | with_reducible assumption | (with_reducible exact RpL.nil) | (with_reducible apply RpL.tk'; (with_reducible assumption); (walk_at "tk")) | (with_reducible apply RpL.cons; (walk_at "rp"); (walk_at "rpl")))
local macro_rules | `(tactic| walk_at "g") => `(tactic| repeat (first | refine ⟨_, rfl, ?_⟩ | refine ⟨_, _, rfl, rfl, ?_⟩ | refine ⟨rfl, _, rfl, ?_⟩ | refine ⟨_, _, rfl, rfl, (by first | decide | omega), ?_⟩))
abbrev sNumL : Stmt := top 19
abbrev sFormsL : Stmt := top 20
abbrev sFitsL : Stmt := top 21
abbrev sRowL : Stmt := top 22
abbrev sKeyL : Stmt := top 23
abbrev sWayL : Stmt := top 24
def sgC : Sg → Nat
  | .n => 110
  | .o => 111
  | .t => 116
  | .k => 107
def formStr (z : Str) : Str := if z = ("sent" : Str) then "nnnnot" else if z = ("wrapped" : Str) then "nnknnnnnn" else if z = ("heard" : Str) then "nnnnnt" else if z = ("dropped" : Str) then "ntnknn" else if z = ("passed" : Str) then "nnnnnnnn" else ""
theorem formStr_some {z : Str} {fs : List Sg} (e : formsOf z = some fs) : (formStr z).cps.toList = fs.map sgC ∧ (formStr z).length = fs.length ∧ fs.length ≤ 9 ∧ formStr z ≠ "" := by
  rcases formsOf_cases e with ⟨rfl, rfl⟩ | ⟨rfl, rfl⟩ | ⟨rfl, rfl⟩ | ⟨rfl, rfl⟩ | ⟨rfl, rfl⟩ <;> exact ⟨by decide +kernel, by decide +kernel, by decide, by decide +kernel⟩
theorem formStr_none {z : Str} (e : formsOf z = none) : formStr z = "" := by
  unfold formsOf at e
  unfold formStr
  split at e
  · cases e
  split at e
  · cases e
  split at e
  · cases e
  split at e
  · cases e
  split at e
  · cases e
  rename_i h1 h2 h3 h4 h5
  rw [if_neg h1, if_neg h2, if_neg h3, if_neg h4, if_neg h5]
def spNumL (K : PySem.W.Frag) : Sp := fun vs H Q _ => ∃ (v : V) (d : PyData), vs = [v] ∧ Dk K H v d ∧ Q (.bl (cntD d)) H
def spFormsL : Sp := fun vs H Q _ => ∃ z : Str, vs = [.str z] ∧ ∀ H', Same H H' → Q (.str (formStr z)) H'
def spFitsL (K : PySem.W.Frag) : Sp := fun vs H Q _ => ∃ (g : Sg) (v : V) (d : PyData), vs = [.str ⟨#[sgC g]⟩, v] ∧ Dk K H v d ∧ ∀ H', Same H H' → Q (.bl (g.ok d)) H'
def spKeyL (K : PySem.W.Frag) : Sp := fun vs H Q _ => ∃ (a : Addr) (r : Wy), vs = [.ref a] ∧ SqT K H a r.v ∧ ∀ H' b, Same H H' → H' b = some (.lst ((kl r.key).map V.int)) → Q (.ref b) H'
def formsKV : List (Key × V) := [(.inr "sent", .str "nnnnot"), (.inr "wrapped", .str "nnknnnnnn"), (.inr "heard", .str "nnnnnt"), (.inr "dropped", .str "ntnknn"), (.inr "passed", .str "nnnnnnnn")]
theorem merge_forms : mergeK [] formsKV = formsKV := by decide +kernel
theorem inr_iff {a b : Str} : (Sum.inr a : Key) = .inr b ↔ a = b := ⟨fun h => Sum.inr.inj h, fun h => congrArg _ h⟩
theorem vals_cons {x z : Str} {v : V} {kvs : List (Key × V)} : valV ((.inr x, v) :: kvs) (.inr z) = if x = z then some v else valV kvs (.inr z) := by
  by_cases h : x = z
  · rw [valV_pos (inr_iff.mpr h), if_pos h]
  · rw [valV_neg (fun e => h (inr_iff.mp e)), if_neg h]
theorem forms_get (z : Str) : (valV formsKV (.inr z)).getD (.str "") = V.str (formStr z) := by
  unfold formsKV formStr
  rw [vals_cons, vals_cons, vals_cons, vals_cons, vals_cons]
  by_cases h1 : z = ("sent" : Str)
  · rw [if_pos h1.symm, if_pos h1]; rfl
  rw [if_neg (fun e => h1 e.symm), if_neg h1]
  by_cases h2 : z = ("wrapped" : Str)
  · rw [if_pos h2.symm, if_pos h2]; rfl
  rw [if_neg (fun e => h2 e.symm), if_neg h2]
  by_cases h3 : z = ("heard" : Str)
  · rw [if_pos h3.symm, if_pos h3]; rfl
  rw [if_neg (fun e => h3 e.symm), if_neg h3]
  by_cases h4 : z = ("dropped" : Str)
  · rw [if_pos h4.symm, if_pos h4]; rfl
  rw [if_neg (fun e => h4 e.symm), if_neg h4]
  by_cases h5 : z = ("passed" : Str)
  · rw [if_pos h5.symm, if_pos h5]; rfl
  rw [if_neg (fun e => h5 e.symm), if_neg h5]
  rfl
def okAt (fs : List Sg) (ds : List PyData) (j : Nat) : Bool := match fs[j]?, ds[j]? with
  | some g, some d => g.ok d
  | _, _ => true
theorem okAt_all {fs : List Sg} {ds : List PyData} (h : ds.length = fs.length) : ((List.range fs.length).filter fun j => !okAt fs ds j).isEmpty = (fs.zip ds).all fun p => p.1.ok p.2 := by
  rw [Bool.eq_iff_iff, List.isEmpty_iff, List.filter_eq_nil_iff, List.all_eq_true]
  constructor
  · rintro q ⟨g, d⟩ hm
    obtain ⟨j, hj⟩ := List.mem_iff_getElem?.mp hm
    obtain ⟨e1, e2⟩ := List.getElem?_zip_eq_some.mp hj
    have z := q j (List.mem_range.mpr (List.getElem?_eq_some_iff.mp e1).1)
    unfold okAt at z
    rw [e1, e2] at z
    simpa using z
  · intro q j hj
    rw [List.mem_range] at hj
    have eg := List.getElem?_eq_getElem hj
    have ed := List.getElem?_eq_getElem (show j < ds.length by omega)
    have z := q (fs[j], ds[j]) (List.mem_of_getElem? (List.getElem?_zip_eq_some.mpr ⟨eg, ed⟩))
    unfold okAt
    rw [eg, ed]
    simpa using z
theorem rpl_nats {K : PySem.W.Frag} {H : Hp} : ∀ ks : List Nat, RpL K H (ks.map fun j => .int (j : Nat)) (ks.map fun j => V.int (j : Nat))
  | [] => RpL.nil
  | k :: ks => RpL.cons Rp.int (rpl_nats ks)
def keysKV (a b c d e : Addr) : List (Key × V) := [(.inr "sent", .ref a), (.inr "wrapped", .ref b), (.inr "heard", .ref c), (.inr "dropped", .ref d), (.inr "passed", .ref e)]
theorem merge_keys {a b c d e : Addr} : mergeK [] (keysKV a b c d e) = keysKV a b c d e := rfl
theorem keys_get {K : PySem.W.Frag} {H : Hp} {a b c d e : Addr} (h1 : SqT K H a (nsV [2, 3, 4])) (h2 : SqT K H b (nsV [2, 4, 6])) (h3 : SqT K H c (nsV [2, 4, 5])) (h4 : SqT K H d (nsV [3, 5, 6])) (h5 : SqT K H e (nsV [3, 4, 5])) (r : Wy) : ∃ x, valV (keysKV a b c d e) (.inr r.w) = some (.ref x) ∧ SqT K H x (nsV (keysOf r.w)) := by
  cases r with
  | sent => exact ⟨a, rfl, h1⟩
  | wrap => exact ⟨b, rfl, h2⟩
  | heard => exact ⟨c, rfl, h3⟩
  | drop => exact ⟨d, rfl, h4⟩
  | pass => exact ⟨e, rfl, h5⟩
theorem cnt_sent : ∀ tl : List Wy, cntS ("sent" : Str) (tl.map Wy.w) = ((tl.filter Wy.isSent).length : Nat)
  | [] => rfl
  | r :: tl => by
    rw [List.map_cons, cntS, cnt_sent tl]
    cases e : r.isSent with
    | true =>
      rw [List.filter_cons_of_pos e, List.length_cons]
      rw [sent_w, decide_eq_true_eq] at e
      rw [if_pos e]
      omega
    | false =>
      rw [List.filter_cons_of_neg (by rw [e]; exact Bool.false_ne_true)]
      rw [sent_w, decide_eq_false_iff_not] at e
      rw [if_neg e, Int.zero_add]
theorem countN (tl : List Wy) : ((tl.filter Wy.isSent).length : Int) = 0 ↔ tl.all (fun r => !r.isSent) = true := by
  rw [show ((tl.filter Wy.isSent).length : Int) = 0 ↔ (tl.filter Wy.isSent).length = 0 by omega, List.length_eq_zero_iff, List.filter_eq_nil_iff, List.all_eq_true]
  simp
theorem chk_app {f : Wy} : ∀ {S : Ws} {as bs : List Wy}, chk f S (as ++ bs) = (chk f S as && chk f (as.foldl Ws.up S) bs)
  | S, [], bs => (Bool.true_and _).symm
  | S, a :: as, bs => by
    show (S.ck f a && chk f (S.up a) (as ++ bs)) = ((S.ck f a && chk f (S.up a) as) && _)
    rw [chk_app, Bool.and_assoc]
    rfl
theorem key_eqvL {p q : Int × Int × Int} : PyData.eqv (.list (keyD p)) (.list (keyD q)) = decide (p = q) := by
  obtain ⟨p1, p2, p3⟩ := p
  obtain ⟨q1, q2, q3⟩ := q
  show ((p1 == q1) && ((p2 == q2) && ((p3 == q3) && true))) = _
  rw [Bool.eq_iff_iff]
  simp
theorem came_val {m : List (Int × Int)} {p : Int} : (valV (gK V.int m) (.inl p)).getD (.int (-1)) = V.int ((lookA m p).getD (-1)) := by
  rw [valV_gK]
  cases lookA m p <;> rfl
theorem max_if {i j : Int} : V.int (if j > i then j else i) = V.int (max i j) := by
  congr 1
  split <;> omega
structure KBw (mg : Str → Option Value) : Prop where
  isinstance : mg "isinstance" = none
  str : mg "str" = none
  int : mg "int" = none
  bool : mg "bool" = none
  tuple : mg "tuple" = none
  list : mg "list" = none
  range : mg "range" = none
  len : mg "len" = none
  max : mg "max" = none

section
variable {P : Program} {w : World} {K : PySem.W.Frag} {mg : Str → Option Value} {base : Heap}
theorem scNumL : FnScope ["_law_thing"] ["_law_thing"] (defScope sNumL) := ⟨rfl, rfl, rfl, by decide +kernel, rfl, by decide +kernel, by decide +kernel⟩
theorem ok_numL {f : Addr} {fd : FuncData} (F : Fun K "_law_is_number" "_law_is_number" sNumL f fd) (B : KBw mg) : FnOk P w K mg base CX0 1 f fd ["_law_thing"] (spNumL K) := by
  refine F.ok scNumL (fun vs H Q E h => ?_) (fun cdv A outer s H vs Q E hr h => ?_)
  · obtain ⟨v, d, rfl, _⟩ := h
    rfl
  · obtain ⟨v, d, rfl, hd, k⟩ := h
    refine ⟨_, (pss_one (ps_ret (pe_and (pe_callB (isiK (K := K) rfl) (by rfl) B.isinstance (by decide +kernel) (pa_cons (pv 0) (pa_cons (pe_bltn (v := .ty "int") (by rfl) B.int PyProof.Rows.boot_int rfl) pa_nil))) (pe_and (pe_not (pe_callB (isiK (K := K) rfl) (by rfl) B.isinstance (by decide +kernel) (pa_cons (pv 0) (pa_cons (pe_bltn (v := .ty "bool") (by rfl) B.bool PyProof.Rows.boot_bool rfl) pa_nil)))) (pe_one (pe_cmpR op_ge (pv 0) pe_int (nomark _))))))), ?_⟩
    have no : cntD d = false → Q (.bl false) H := fun e => by
      rw [e] at k
      exact k
    refine ⟨_, rfl, _, _, _, _, _, rfl, .ty _, hd.ty, kit_int d, _, rfl, iteP (fun c => ?_) (fun c => ?_)⟩
    · refine ⟨_, rfl, _, _, _, _, _, rfl, .ty _, hd.ty, kit_bool d, _, rfl, _, rfl, iteNP (fun c2 => ?_) (fun c2 => ?_)⟩
      · obtain ⟨i, rfl⟩ : ∃ i, d = .int i := by
          cases hd with
          | int i => exact ⟨i, rfl⟩
          | bl b => exact absurd rfl c2
          | _ => simp [tyN] at c
        cases hd
        exact ⟨_, rfl, _, _, rfl, rfl, k⟩
      · refine no ?_
        cases hd <;> first | rfl | (simp [tyN] at c2)
    · refine no ?_
      cases hd with
      | int i => exact absurd (.inl rfl) c
      | _ => rfl
theorem scFormsL : FnScope ["_law_word", "_law_forms_here"] ["_law_word"] (defScope sFormsL) := ⟨rfl, rfl, rfl, by decide +kernel, rfl, by decide +kernel, by decide +kernel⟩
theorem ok_formsL {f : Addr} {fd : FuncData} (F : Fun K "_law_forms" "_law_forms" sFormsL f fd) : FnOk P w K mg base CX0 1 f fd ["_law_word"] spFormsL := by
  refine F.ok scFormsL (fun vs H Q E h => ?_) (fun cdv A outer s H vs Q E hr h => ?_)
  · obtain ⟨z, rfl, _⟩ := h
    rfl
  · obtain ⟨z, rfl, k⟩ := h
    have hu := hu_of hr
    refine ⟨_, (pss_cons (ps_set (i := 1) scFormsL.nd rfl (Or.inl rfl) (pe_disp (pps_cons pe_str pe_str (pps_cons pe_str pe_str (pps_cons pe_str pe_str (pps_cons pe_str pe_str (pps_cons pe_str pe_str pps_nil))))) rfl rfl (List.cons_ne_nil _ _) (by decide)))
       (pss_one (ps_ret (pe_dget2 hu (pv 1) (pv 0) pe_str ⟨rfl, rfl, rfl, rfl⟩)))), ?_⟩
    intro p n_p
    refine ⟨upd_same, formsKV, rfl, Nat.le_of_ble_eq_true rfl, ?_⟩
    rw [merge_forms]
    have s1 : Same H (upd (upd H p (.dK [])) p (.dK formsKV)) := ((L2.Same.refl _).new n_p).wrn n_p
    have h1 : (upd (upd H p (.dK [])) p (.dK formsKV)) p = some (.dK formsKV) := upd_same
    generalize upd (upd H p (.dK [])) p (.dK formsKV) = H1 at s1 h1
    refine ⟨_, rfl, p, rfl, .inl ⟨_, .inl h1⟩, _, rfl, _, DGet.k (k := .inr z) h1, ?_⟩
    rw [forms_get]
    exact k H1 s1
theorem scFitsL : FnScope ["_law_sign", "_law_thing"] ["_law_sign", "_law_thing"] (defScope sFitsL) := ⟨rfl, rfl, rfl, by decide +kernel, rfl, by decide +kernel, by decide +kernel⟩
theorem ok_fitsL {f : Addr} {fd : FuncData} (F : Fun K "_law_fits" "_law_fits" sFitsL f fd) (B : KBw mg) (cN : Cd P w K mg base 1 "_law_is_number" ["_law_thing"] (spNumL K)) : FnOk P w K mg base CX0 2 f fd ["_law_sign", "_law_thing"] (spFitsL K) := by
  obtain ⟨fN, fdN, GN, mN, kN, bN⟩ := cN
  refine F.ok scFitsL (fun vs H Q E h => ?_) (fun cdv A outer s H vs Q E hr h => ?_)
  · obtain ⟨g, v, d, rfl, _⟩ := h
    rfl
  · obtain ⟨g, v, d, rfl, hd, k⟩ := h
    have hr1 : Room 1 _ := hr.mono (by decide)
    refine ⟨_, (pss_cons (ps_if (pt_cmpR op_eq (pv 0) pe_str (nomark _))
       (pss_one (ps_ret (pe_callB (isiK (K := K) rfl) (by rfl) B.isinstance (by decide +kernel) (pa_cons (pv 1) (pa_cons (pe_bltn (v := .ty "str") (by rfl) B.str PyProof.Rows.boot_str rfl) pa_nil)))))
       pss_nil)
       (pss_cons (ps_if (pt_cmpR op_eq (pv 0) pe_str (nomark _))
       (pss_one (ps_ret (pe_and (pe_callB (isiK (K := K) rfl) (by rfl) B.isinstance (by decide +kernel) (pa_cons (pv 1) (pa_cons (pe_bltn (v := .ty "str") (by rfl) B.str PyProof.Rows.boot_str rfl) pa_nil))) (pe_one (pe_cmpR (inSeqK (K := K) rfl) (pv 1) (pe_tup (pa_cons pe_str (pa_cons pe_str (pa_cons pe_str (pa_cons pe_str pa_nil))))) (by rfl))))))
       pss_nil)
       (pss_one (ps_ret (pe_or (pe_call GN hr1 rfl mN kN bN .nil pass0 (pa_cons (pv 1) pa_nil)) (pe_one (pe_and (pe_cmpR op_eq (pv 0) pe_str (nomark _)) (pe_one (pe_cmp (pc_isN (pv 1)) rfl))))))))), ?_⟩
    have k0 := k H (L2.Same.refl _)
    refine ⟨_, rfl, rfl, _, rfl, iteS (fun c => ?_) (fun c => ?_)⟩
    · have : g = .t := by cases g <;> first | rfl | exact absurd c (by decide)
      subst this
      refine ⟨_, rfl, _, _, _, _, _, rfl, .ty _, hd.ty, kit_str d, ?_⟩
      have e : Sg.ok .t d = decide (tyN d = "str") := by cases hd <;> rfl
      rw [← e]
      exact k0
    refine ⟨_, rfl, rfl, _, rfl, iteS (fun c2 => ?_) (fun c2 => ?_)⟩
    · have : g = .k := by cases g <;> first | rfl | exact absurd c2 (by decide)
      subst this
      refine ⟨_, rfl, _, _, _, _, _, rfl, .ty _, hd.ty, kit_str d, _, rfl, iteP (fun c3 => ?_) (fun c3 => ?_)⟩
      · obtain ⟨z, rfl⟩ : ∃ z, d = .str z := by
          cases hd with
          | str z => exact ⟨z, rfl⟩
          | _ => simp [tyN] at c3
        obtain rfl := hd.inv_str
        refine ⟨_, rfl, (by show 4 ≤ sizeLine; decide), fun p n_p => ?_⟩
        obtain ⟨H1, e_H1, s1, r1⟩ := new_any n_p
        rw [← e_H1]
        clear e_H1
        refine ⟨p, _, rfl, .inr (SqT.of r1), rfl, rfl, ?_⟩
        show Q (.bl (inV _ _)) H1
        rw [inV_kind]
        exact k H1 s1
      · have e : Sg.ok .k d = false := by
          cases hd <;> first | rfl | exact absurd rfl c3
        rw [e] at k0
        exact k0
    · have gn : (g = .n ∨ g = .o) := by
        cases g with
        | n => exact .inl rfl
        | o => exact .inr rfl
        | t => exact absurd rfl c
        | k => exact absurd rfl c2
      have eg : g.ok d = (cntD d || (g.isO && noneB d)) := by
        rcases gn with rfl | rfl
        · cases d <;> simp [Sg.ok, cntD, Sg.isO]
        · cases d <;> simp [Sg.ok, cntD, Sg.isO, noneB]
      rw [eg] at k0
      refine ⟨_, rfl, v, d, rfl, hd, _, rfl, iteB (fun c3 => ?_) (fun c3 => ?_)⟩
      · rw [c3, Bool.true_or] at k0
        exact k0
      rw [c3, Bool.false_or] at k0
      refine ⟨_, rfl, rfl, _, rfl, iteS (fun c4 => ?_) (fun c4 => ?_)⟩
      · have : g = .o := by rcases gn with rfl | rfl <;> first | rfl | exact absurd c4 (by decide)
        subst this
        refine ⟨_, rfl, ?_⟩
        have en : decide (v = .non) = noneB d := by cases hd <;> first | rfl | exact decide_eq_false (by intro h; cases h)
        show Q (.bl (decide (v = .non))) H
        rw [en]
        exact k0
      · have : g = .n := by rcases gn with rfl | rfl <;> first | rfl | exact absurd rfl c4
        subst this
        exact k0
theorem scRowL : FnScope ["_law_thing", "_law_form", "_law_k"] ["_law_thing"] (defScope sRowL) := ⟨rfl, rfl, rfl, by decide +kernel, rfl, by decide +kernel, by decide +kernel⟩
theorem ok_rowL {f : Addr} {fd : FuncData} (F : Fun K "_law_is_row" "_law_is_row" sRowL f fd) (B : KBw mg) (cF : Cd P w K mg base 1 "_law_forms" ["_law_word"] spFormsL) (cI : Cd P w K mg base 2 "_law_fits" ["_law_sign", "_law_thing"] (spFitsL K)) : FnOk P w K mg base CX0 3 f fd ["_law_thing"] (spRowW K) := by
  obtain ⟨fF, fdF, GF, mF, kF, bF⟩ := cF
  obtain ⟨fI, fdI, GI, mI, kI, bI⟩ := cI
  refine F.ok scRowL (fun vs H Q E h => ?_) (fun cdv A outer s H vs Q E hr h => ?_)
  · obtain ⟨v, d, rfl, _⟩ := h
    rfl
  · obtain ⟨v, d, rfl, hd, k⟩ := h
    have hr1 : Room 1 _ := hr.mono (by decide)
    have hr2 : Room 2 _ := hr.mono (by decide)
    refine ⟨_, (pss_cons (ps_if (PW.pt (pw_or (pt_not (pt_val (pe_callB (isiK (K := K) rfl) (by rfl) B.isinstance (by decide +kernel) (pa_cons (pv 0) (pa_cons (pe_bltn (v := .ty "tuple") (by rfl) B.tuple PyProof.Rows.boot_tuple rfl) pa_nil))))) (pw_or (pt_cmpR op_eq (pe_callB (lenK (K := K) rfl) (by rfl) B.len PySem.boot_len (pa_cons (pv 0) pa_nil)) pe_int (nomark _)) (pw_or1 (pt_not (pt_val (pe_callB (isiK (K := K) rfl) (by rfl) B.isinstance (by decide +kernel) (pa_cons (pe_ix (ixT (K := K) rfl) (pv 0) pe_int (fun _ _ => rfl)) (pa_cons (pe_bltn (v := .ty "str") (by rfl) B.str PyProof.Rows.boot_str rfl) pa_nil)))))))))
       (pss_one (ps_ret pe_bl))
       pss_nil)
       (pss_cons (ps_set (i := 1) scRowL.nd rfl (Or.inr rfl) (pe_call GF hr1 rfl mF kF bF .nil pass0 (pa_cons (pe_ix (ixT (K := K) rfl) (pv 0) pe_int (fun _ _ => rfl)) pa_nil)))
       (pss_cons (ps_if (PW.pt (pw_or (pt_cmpR op_eq (pv 1) pe_str (nomark _)) (pw_or1 (pt_cmpR op_ne (pe_callB (lenK (K := K) rfl) (by rfl) B.len PySem.boot_len (pa_cons (pv 0) pa_nil)) (pe_op op_add (pe_callB (lenK (K := K) rfl) (by rfl) B.len PySem.boot_len (pa_cons (pv 1) pa_nil)) pe_int) (nomark _)))))
       (pss_one (ps_ret pe_bl))
       pss_nil)
       (pss_one (ps_ret (pe_cmpR (eqDK (K := K) rfl hr.units) (pe_lc (own := [("_law_k", 2)]) (g := (gName 2)) (tt := _) rfl scRowL.nd (pi_range1 rfl B.range (pa_cons (pe_callB (lenK (K := K) rfl) (by rfl) B.len PySem.boot_len (pa_cons (pv 1) pa_nil)) pa_nil)) (blkOk_by (N := ["_law_thing", "_law_form", "_law_k"]) (sc := defScope sRowL) (by decide +kernel))
       (fun _ _ _ _ _ => (pg_name (i := 2) scRowL.nd rfl (Or.inl rfl))) (fun _ _ _ _ _ => (pts_one (pt_not (pt_val (pe_call GI hr2 rfl mI kI bI .nil pass0 (pa_cons (pe_ix ix_str (pv 1) (pv 2) (fun _ _ => rfl)) (pa_cons (pe_ix (ixT (K := K) rfl) (pv 0) (pe_op op_add (pv 2) pe_int) (fun _ _ => rfl)) pa_nil))))))) (fun _ _ _ _ _ => (pv 2))) (pe_lst pa_nil) (nomark _))))))), ?_⟩
    have no : ∀ H', Same H H' → wayRow d = false → Q (.bl false) H' := fun H' s e => by
      have z := k H' s
      rwa [e] at z
    have no0 : wayRow d = false → Q (.bl false) H := no H (L2.Same.refl _)
    refine ⟨_, rfl, _, _, _, _, _, rfl, .ty _, hd.ty, kit_tuple d, _, rfl, iteNP (fun c => no0 ?_) (fun c => ?_)⟩
    · cases hd <;> first | rfl | exact absurd rfl c
    obtain ⟨es, rfl⟩ : ∃ es, d = .tuple es := by
      cases hd with
      | tup h1 h2 => exact ⟨_, rfl⟩
      | _ => simp [tyN] at c
    obtain ⟨a, xs, rfl, ha, hx⟩ := hd.inv_tup
    have lx := hx.len
    refine ⟨_, rfl, _, xs.length, rfl, .inr ⟨_, ha, rfl⟩, rfl, _, rfl, iteI (fun e0 => no0 ?_) (fun e0 => ?_)⟩
    · have : es = [] := List.length_eq_zero_iff.mp (by rw [← lx]; omega)
      rw [this]
      rfl
    obtain ⟨d0, ds, rfl⟩ : ∃ d0 ds, es = d0 :: ds := by
      cases es with
      | nil => exact absurd (by rw [lx]; rfl) e0
      | cons x y => exact ⟨x, y, rfl⟩
    obtain ⟨x0, ys, rfl, h0, hy⟩ := hx.inv_cons
    have a0 : atI (x0 :: ys) 0 = some x0 := atI_nat (j := 0) rfl
    refine ⟨_, rfl, a, _, 0, _, rfl, rfl, ha, a0, _, _, _, _, _, rfl, .ty _, h0.ty, kit_str d0, _, rfl, iteNP (fun cs => no0 ?_) (fun cs => ?_)⟩
    · cases d0 <;> first | rfl | exact absurd rfl cs
    obtain ⟨z, rfl⟩ : ∃ z, d0 = .str z := by
      cases h0 with
      | str z => exact ⟨z, rfl⟩
      | _ => simp [tyN] at cs
    cases h0
    refine ⟨_, rfl, a, _, 0, _, rfl, rfl, ha, a0, z, rfl, fun H1 s1 => ?_⟩
    dsimp only [gName, List.set, L2.start]
    have ha1 := SqT.sm ha s1
    have ly := hy.len
    refine ⟨_, rfl, rfl, _, rfl, iteS (fun c1 => no H1 s1 ?_) (fun c1 => ?_)⟩
    · show (match formsOf z with | some fs => _ | none => false) = false
      cases ef : formsOf z with
      | none => rfl
      | some fs => exact absurd c1 (formStr_some ef).2.2.2
    obtain ⟨fs, ef⟩ : ∃ fs, formsOf z = some fs := by
      cases ef : formsOf z with
      | none => exact absurd (formStr_none ef) c1
      | some fs => exact ⟨fs, rfl⟩
    have ew : wayRow (.tuple (.str z :: ds)) = (decide (ds.length = fs.length) && ((fs.zip ds).all fun p => p.1.ok p.2)) := by
      show (match formsOf z with | some fs => _ | none => false) = _
      rw [ef]
    obtain ⟨g1, g2, g3, _⟩ := formStr_some ef
    have lf : LenV K (V.str (formStr z)) H1 (formStr z).length := ⟨Nat.le_trans (by rw [g2]; exact g3) (show 9 ≤ sizeLine by decide), rfl⟩
    refine ⟨_, rfl, _, (V.str z :: ys).length, rfl, .inr ⟨_, ha1, rfl⟩, _, rfl, _, (formStr z).length, rfl, lf, _, _, rfl, rfl, rfl, _, rfl, iteNI (fun e1 => no H1 s1 ?_) (fun e1 => ?_)⟩
    · rw [ew, decide_eq_false, Bool.false_and]
      intro e2
      refine e1 ?_
      rw [List.length_cons, ly, e2, g2]
      omega
    have el : ds.length = fs.length := by
      rw [← ly]
      rw [List.length_cons, g2] at e1
      omega
    rw [decide_eq_true el, Bool.true_and] at ew
    refine ⟨_, rfl, _, (formStr z).length, rfl, lf, ((formStr z).length : Int), rfl, by omega, by omega, fun D nD => ?_⟩
    rw [show ((((formStr z).length : Nat) : Int)).toNat = fs.length by omega]
    refine comp_ls (L := List.range fs.length) ((walk_range (lo := 0)).cast List.length_range.symm) (fun _ _ => trivial) (fun j => !okAt fs ds j) (fun j => .int (j : Nat)) nD (by rw [List.length_range]; omega) ?_ ?_
    · rintro j b x H' H'' Q' N' hj s' ⟨rfl, rfl⟩ hQ hN
      obtain ⟨hj2, ej⟩ := List.getElem?_eq_some_iff.mp hj
      rw [List.getElem_range] at ej
      subst ej
      rw [List.length_range] at hj2
      have eg := List.getElem?_eq_getElem hj2
      have ed := List.getElem?_eq_getElem (show j < ds.length by omega)
      have eo : okAt fs ds j = fs[j].ok ds[j] := by unfold okAt; rw [eg, ed]
      rw [eo] at hQ hN
      generalize fs[j] = g at eg hQ hN eo
      generalize ds[j] = d at ed hQ hN eo
      obtain ⟨y, ey, hyd⟩ := hy.get ed
      have ay : atI (V.str z :: ys) ((0 : Int) + (j : Nat) + 1) = some y := by
        have := atI_nat (xs := V.str z :: ys) (j := j + 1) (v := y) (by rw [List.getElem?_cons_succ]; exact ey)
        rwa [show ((j + 1 : Nat) : Int) = (0 : Int) + (j : Nat) + 1 by omega] at this
      have as : atI (formStr z).cps.toList ((0 : Int) + (j : Nat)) = some (sgC g) := by
        rw [g1, Int.zero_add]
        exact atI_nat (by rw [List.getElem?_map, eg]; rfl)
      refine ⟨rfl, ?_⟩
      refine ⟨_, rfl, _, rfl, _, _, _, rfl, rfl, lf.1, as, _, rfl, _, rfl, _, _, rfl, rfl, a, _, _, _, rfl, rfl, SqT.sm ha1 s', ay, g, y, d, rfl, (hyd.sm s1).sm s', fun G1 t1 => ⟨_, rfl, ?_⟩⟩
      cases eb : g.ok d with
      | true => exact iteF (hN (by rw [eb]; rfl) G1 t1)
      | false =>
        refine iteT ⟨_, rfl, ?_⟩
        have q := hQ (by rw [eb]; rfl) G1 t1
        show Q' (.int (0 + (j : Nat))) G1
        rw [Int.zero_add]
        exact q
    intro H2 s2 h2
    have e2 := okAt_all el
    generalize (List.range fs.length).filter (fun j => !okAt fs ds j) = ks at h2 e2
    refine ⟨(by show 0 ≤ sizeLine; decide), fun l2 n_l2 => ?_⟩
    obtain ⟨H3, e_H3, s3, r3⟩ := new_any n_l2
    rw [← e_H3]
    clear e_H3
    have hks : Dp K H3 (.ref D) (.list (ks.map fun j => .int (j : Nat))) := .lst (SqL.of (s3 _ _ h2)) (RpL.dp _ _ (rpl_nats ks))
    refine ⟨_, .list [], hks, .lst (SqL.of r3) .nil, (Shp.lst (n := 1) (Shp.map fun _ => Shp.int)).ok (by decide), rfl, ?_⟩
    have ev : PyData.eqv (.list (ks.map fun j => .int (j : Nat))) (.list []) = ks.isEmpty := by cases ks <;> rfl
    rw [ev, e2, ← ew]
    exact k H3 (s1.trans (s2.trans s3))
theorem scKeyL : FnScope ["_law_row", "_law_spots", "_law_k"] ["_law_row"] (defScope sKeyL) := ⟨rfl, rfl, rfl, by decide +kernel, rfl, by decide +kernel, by decide +kernel⟩
theorem ok_keyL {f : Addr} {fd : FuncData} (F : Fun K "_law_key" "_law_key" sKeyL f fd) : FnOk P w K mg base CX0 1 f fd ["_law_row"] (spKeyL K) := by
  refine F.ok scKeyL (fun vs H Q E h => ?_) (fun cdv A outer s H vs Q E hr h => ?_)
  · obtain ⟨a, r, rfl, _⟩ := h
    rfl
  · obtain ⟨a, r, rfl, ha, k⟩ := h
    have hu := hu_of hr
    refine ⟨_, (pss_cons (ps_set (i := 1) scKeyL.nd rfl (Or.inl rfl) (pe_disp (pps_cons pe_str (pe_tup (pa_cons pe_int (pa_cons pe_int (pa_cons pe_int pa_nil)))) (pps_cons pe_str (pe_tup (pa_cons pe_int (pa_cons pe_int (pa_cons pe_int pa_nil)))) (pps_cons pe_str (pe_tup (pa_cons pe_int (pa_cons pe_int (pa_cons pe_int pa_nil)))) (pps_cons pe_str (pe_tup (pa_cons pe_int (pa_cons pe_int (pa_cons pe_int pa_nil)))) (pps_cons pe_str (pe_tup (pa_cons pe_int (pa_cons pe_int (pa_cons pe_int pa_nil)))) pps_nil))))) rfl rfl (List.cons_ne_nil _ _) (by decide)))
       (pss_one (ps_ret (pe_lc (own := [("_law_k", 2)]) (g := (gName 2)) (tt := tYes) rfl scKeyL.nd (pi_tup (pe_dget hu (pv 1) (pe_ix (ixT (K := K) rfl) (pv 0) pe_int (fun _ _ => rfl)) (fun _ _ => rfl))) (blkOk_by (N := ["_law_row", "_law_spots", "_law_k"]) (sc := defScope sKeyL) (by decide +kernel))
       (fun _ _ _ _ _ => (pg_name (i := 2) scKeyL.nd rfl (Or.inl rfl))) (fun _ _ _ _ _ => pts_nil) (fun _ _ _ _ _ => (pe_ix (ixT (K := K) rfl) (pv 0) (pv 2) (fun _ _ => rfl))))))), ?_⟩
    intro p n_p
    obtain ⟨H1, e_H1, s1, r1⟩ := new_any n_p
    rw [← e_H1]
    clear e_H1
    refine ⟨(by show 3 ≤ sizeLine; decide), fun p1 n_p1 => ?_⟩
    obtain ⟨H2, e_H2, s2, r2⟩ := new_any n_p1
    rw [← e_H2]
    clear e_H2
    refine ⟨(by show 3 ≤ sizeLine; decide), fun p2 n_p2 => ?_⟩
    obtain ⟨H3, e_H3, s3, r3⟩ := new_any n_p2
    rw [← e_H3]
    clear e_H3
    refine ⟨(by show 3 ≤ sizeLine; decide), fun p3 n_p3 => ?_⟩
    obtain ⟨H4, e_H4, s4, r4⟩ := new_any n_p3
    rw [← e_H4]
    clear e_H4
    refine ⟨(by show 3 ≤ sizeLine; decide), fun p4 n_p4 => ?_⟩
    obtain ⟨H5, e_H5, s5, r5⟩ := new_any n_p4
    rw [← e_H5]
    clear e_H5
    refine ⟨(by show 3 ≤ sizeLine; decide), fun p5 n_p5 => ?_⟩
    obtain ⟨H6, e_H6, s6, r6⟩ := new_any n_p5
    rw [← e_H6]
    clear e_H6
    have s16 := s2.trans (s3.trans (s4.trans (s5.trans s6)))
    refine ⟨s16 _ _ r1, keysKV p1 p2 p3 p4 p5, rfl, Nat.le_of_ble_eq_true rfl, ?_⟩
    rw [merge_keys]
    have t6 : Same H H6 := s1.trans s16
    have t7 : Same H (upd H6 p (.dK (keysKV p1 p2 p3 p4 p5))) := t6.wrn n_p
    have h7 : (upd H6 p (.dK (keysKV p1 p2 p3 p4 p5))) p = some (.dK (keysKV p1 p2 p3 p4 p5)) := upd_same
    have nn : ∀ {q : Addr} {o : HO} {G : Hp}, G p = some (.dK []) → Same G H6 → G q = none → H6 q = some o → (upd H6 p (.dK (keysKV p1 p2 p3 p4 p5))) q = some o := fun {q o G} g s n e => by
      rw [upd_ne (fun e2 => by rw [e2, g] at n; cases n)]
      exact e
    have g1 := nn r1 s16 n_p1 ((s3.trans (s4.trans (s5.trans s6))) _ _ r2)
    have g2 := nn (s2 _ _ r1) (s3.trans (s4.trans (s5.trans s6))) n_p2 ((s4.trans (s5.trans s6)) _ _ r3)
    have g3 := nn ((s2.trans s3) _ _ r1) (s4.trans (s5.trans s6)) n_p3 ((s5.trans s6) _ _ r4)
    have g4 := nn ((s2.trans (s3.trans s4)) _ _ r1) (s5.trans s6) n_p4 (s6 _ _ r5)
    have g5 := nn ((s2.trans (s3.trans (s4.trans s5))) _ _ r1) s6 n_p5 r6
    generalize upd H6 p (.dK (keysKV p1 p2 p3 p4 p5)) = H7 at t7 h7 g1 g2 g3 g4 g5
    obtain ⟨x, ex, hx⟩ := keys_get (K := K) (SqT.of g1) (SqT.of g2) (SqT.of g3) (SqT.of g4) (SqT.of g5) r
    have ha7 := SqT.sm ha t7
    have a0 : atI r.v 0 = some (.str r.w) := atI_nat (j := 0) rfl
    have dg : DGet H7 p (.str r.w) (some (.ref x)) := by
      have z := DGet.k (k := .inr r.w) h7
      rw [ex] at z
      exact z
    refine ⟨_, rfl, _, rfl, a, _, _, _, rfl, rfl, ha7, a0, p, _, rfl, dg, x, rfl, ⟨_, hx⟩, fun D nD => ?_⟩
    refine comp_ls (L := keysOf r.w) ((walk_tup (K := K) (a := x) (xs := nsV (keysOf r.w))).cast (List.length_map _)) (fun H' s' => SqT.sm hx s') (fun _ => true) (fun b => (atI r.v (b : Int)).getD .non) nD (by cases r <;> exact Nat.le_of_ble_eq_true rfl) ?_ ?_
    · rintro j b v H' H'' Q' N' hj s' ⟨rfl, hv⟩ hQ hN
      unfold nsV at hv
      rw [List.getElem?_map, hj] at hv
      cases hv
      refine ⟨rfl, tYes_t (iteT ?_)⟩
      obtain ⟨i, _, e⟩ := key_at r j b hj
      rw [e] at hQ
      exact ⟨_, rfl, _, rfl, a, _, _, _, rfl, rfl, SqT.sm ha7 s', e, hQ rfl _ (L2.Same.refl _)⟩
    · intro H' s' hD
      rw [filter_all, keys_map] at hD
      exact k H' D (t7.trans s') hD
theorem scWayL : FnScope ["_law_thing", "_law_first", "_law_came", "_law_starts", "_law_beat", "_law_row"] ["_law_thing"] (defScope sWayL) := ⟨rfl, rfl, rfl, by decide +kernel, rfl, by decide +kernel, by decide +kernel⟩
theorem ok_wayL {f : Addr} {fd : FuncData} (F : Fun K "_law_is_way" "_law_is_way" sWayL f fd) (B : KBw mg) (cR : Cd P w K mg base 3 "_law_is_row" ["_law_thing"] (spRowW K)) (cK : Cd P w K mg base 1 "_law_key" ["_law_row"] (spKeyL K)) : FnOk P w K mg base CX0 4 f fd ["_law_thing"] (spWay K) := by
  obtain ⟨fR, fdR, GR, mR, kR, bR⟩ := cR
  obtain ⟨fK, fdK, GK, mK, kK, bK⟩ := cK
  refine F.ok scWayL (fun vs H Q E h => ?_) (fun cdv A outer s H vs Q E hr h => ?_)
  · obtain ⟨v, d, rfl, _⟩ := h
    rfl
  · obtain ⟨v, d, rfl, hd, hw, k⟩ := h
    have hr1 : Room 1 _ := hr.mono (by decide)
    have hr3 : Room 3 _ := hr.mono (by decide)
    have hu := hu_of hr
    refine ⟨_, (pss_cons (ps_if (PW.pt (pw_or (pt_not (pt_val (pe_callB (isiK (K := K) rfl) (by rfl) B.isinstance (by decide +kernel) (pa_cons (pv 0) (pa_cons (pe_bltn (v := .ty "tuple") (by rfl) B.tuple PyProof.Rows.boot_tuple rfl) pa_nil))))) (pw_or (pt_cmpR (op_eqT0K (K := K) rfl (Nat.lt_of_succ_lt (room65 hr))) (pv 0) (pe_tup pa_nil) (nomark _)) (pw_or1 (pt_cmpR (op_neL0K (K := K) rfl (show _ < cLine from Nat.lt_of_le_of_lt (Nat.le_add_right _ 65) (room65 hr))) (pe_lc (own := [("_law_row", 5)]) (g := (gName 5)) (tt := _) rfl scWayL.nd (pi_tup (pv 0)) (blkOk_by (N := ["_law_thing", "_law_first", "_law_came", "_law_starts", "_law_beat", "_law_row"]) (sc := defScope sWayL) (by decide +kernel))
       (fun _ _ _ _ _ => (pg_name (i := 5) scWayL.nd rfl (Or.inl rfl))) (fun _ _ _ _ _ => (pts_one (pt_not (pt_val (pe_call GR hr3 rfl mR kR bR .nil pass0 (pa_cons (pv 5) pa_nil)))))) (fun _ _ _ _ _ => (pv 5))) (pe_lst pa_nil) (nomark _))))))
       (pss_one (ps_ret pe_bl))
       pss_nil)
       (pss_cons (ps_set (i := 1) scWayL.nd rfl (Or.inl rfl) (pe_ix (ixT (K := K) rfl) (pv 0) pe_int (fun _ _ => rfl)))
       (pss_cons (ps_if (PW.pt (pw_or (pt_cmpR op_ne (pe_ix (ixT (K := K) rfl) (pv 1) pe_int (fun _ _ => rfl)) pe_str (nomark _)) (pw_or1 (pt_cmpR op_gt (pe_bm PySem.F.plainAttrs_list PySem.F.slot_list_count PySem.F.type_list_count (mt_lcountSK (K := K) rfl) (pe_lc (own := [("_law_row", 5)]) (g := (gName 5)) (tt := tYes) rfl scWayL.nd (pi_tup (pv 0)) (blkOk_by (N := ["_law_thing", "_law_first", "_law_came", "_law_starts", "_law_beat", "_law_row"]) (sc := defScope sWayL) (by decide +kernel))
       (fun _ _ _ _ _ => (pg_name (i := 5) scWayL.nd rfl (Or.inl rfl))) (fun _ _ _ _ _ => pts_nil) (fun _ _ _ _ _ => (pe_ix (ixT (K := K) rfl) (pv 5) pe_int (fun _ _ => rfl)))) (pa_cons pe_str pa_nil)) pe_int (nomark _)))))
       (pss_one (ps_ret pe_bl))
       pss_nil)
       (pss_cons (ps_set (i := 2) scWayL.nd rfl (Or.inl rfl) pe_dnewK)
       (pss_cons (ps_set (i := 3) scWayL.nd rfl (Or.inl rfl) pe_dnewK)
       (pss_cons (ps_set (i := 4) scWayL.nd rfl (Or.inl rfl) pe_int)
       (pss_cons (ps_for PassesOwn.never rfl (pi_tup (pv 0)) (pg_name (i := 5) scWayL.nd rfl (Or.inl rfl))
       (pss_cons (ps_if (PW.pt (pw_or (pt_cmpR (neDK (K := K) rfl hr.units) (pe_call GK hr1 rfl mK kK bK .nil pass0 (pa_cons (pv 5) pa_nil)) (pe_call GK hr1 rfl mK kK bK .nil pass0 (pa_cons (pv 1) pa_nil)) (nomark _)) (pw_or1 (pt_cmpR op_lt (pe_ix (ixT (K := K) rfl) (pv 5) pe_int (fun _ _ => rfl)) (pv 4) (nomark _)))))
       (pss_one (ps_ret pe_bl))
       pss_nil)
       (pss_cons (ps_set (i := 4) scWayL.nd rfl (Or.inl rfl) (pe_ix (ixT (K := K) rfl) (pv 5) pe_int (fun _ _ => rfl)))
       (pss_cons (ps_if (PW.pt (pw_and (pt_cmpR op_eq (pe_ix (ixT (K := K) rfl) (pv 5) pe_int (fun _ _ => rfl)) pe_str (nomark _)) (pw_and1 (PW.pt (pw_or (pt_cmpR op_ne (pe_ix (ixT (K := K) rfl) (pv 5) pe_int (fun _ _ => rfl)) (pe_ix (ixT (K := K) rfl) (pv 1) pe_int (fun _ _ => rfl)) (nomark _)) (pw_or1 (PW.pt (pw_and (pt_cmp (pc_notN (pe_ix (ixT (K := K) rfl) (pv 1) pe_int (fun _ _ => rfl)))) (pw_and1 (pt_cmpR (neDK (K := K) rfl hr.units) (pe_ix (ixT (K := K) rfl) (pv 1) pe_int (fun _ _ => rfl)) (pe_ix (ixT (K := K) rfl) (pv 5) pe_int (fun _ _ => rfl)) (nomark _)))))))))))
       (pss_one (ps_ret pe_bl))
       pss_nil)
       (pss_cons (ps_if (PW.pt (pw_and (pt_cmpR op_eq (pe_ix (ixT (K := K) rfl) (pv 5) pe_int (fun _ _ => rfl)) pe_str (nomark _)) (pw_and (pt_cmp (pc_isN (pe_ix (ixT (K := K) rfl) (pv 1) pe_int (fun _ _ => rfl)))) (pw_and1 (pt_cmpR op_eq (pe_ix (ixT (K := K) rfl) (pv 5) pe_int (fun _ _ => rfl)) (pe_ix (ixT (K := K) rfl) (pv 5) pe_int (fun _ _ => rfl)) (nomark _))))))
       (pss_one (ps_ret pe_bl))
       pss_nil)
       (pss_one (ps_if (pt_cmpR op_eq (pe_ix (ixT (K := K) rfl) (pv 5) pe_int (fun _ _ => rfl)) pe_str (nomark _))
       (pss_cons (ps_if (PW.pt (pw_or (pt_cmpR op_gt (pe_ix (ixT (K := K) rfl) (pv 5) pe_int (fun _ _ => rfl)) pe_int (nomark _)) (pw_or1 (PW.pt (pw_and (pt_cmpR op_eq (pe_ix (ixT (K := K) rfl) (pv 5) pe_int (fun _ _ => rfl)) pe_str (nomark _)) (pw_and1 (pt_cmpR op_le (pe_dget2 hu (pv 2) (pe_ix (ixT (K := K) rfl) (pv 5) pe_int (fun _ _ => rfl)) (pe_un un_neg pe_int) ⟨rfl, rfl, rfl, rfl⟩) (pe_ix (ixT (K := K) rfl) (pv 5) pe_int (fun _ _ => rfl)) (nomark _))))))))
       (pss_one (ps_ret pe_bl))
       pss_nil)
       (pss_cons (ps_if (pt_cmpR op_ne (pe_ix (ixT (K := K) rfl) (pv 5) pe_int (fun _ _ => rfl)) pe_str (nomark _))
       (pss_one (ps_dput hu (pv 3) (pe_ix (ixT (K := K) rfl) (pv 5) pe_int (fun _ _ => rfl)) pe_bl rfl))
       pss_nil)
       (pss_one (ps_dput hu (pv 2) (pe_ix (ixT (K := K) rfl) (pv 5) pe_int (fun _ _ => rfl)) (pe_callB (call_max2 rfl) (by rfl) B.max (by decide +kernel) (pa_cons (pe_dget2 hu (pv 2) (pe_ix (ixT (K := K) rfl) (pv 5) pe_int (fun _ _ => rfl)) (pe_un un_neg pe_int) ⟨rfl, rfl, rfl, rfl⟩) (pa_cons (pe_ix (ixT (K := K) rfl) (pv 5) pe_int (fun _ _ => rfl)) pa_nil))) rfl))))
       pss_nil)))))))
       (pss_one (ps_ret (pe_cmpR op_lt (pe_callB call_lenD (by rfl) B.len PySem.boot_len (pa_cons (pv 3) pa_nil)) pe_int (nomark _))))))))))), ?_⟩
    have no : ∀ H', Same H H' → wayJ d = false → Q (.bl false) H' := fun H' s e => by
      have z := k H' s
      rwa [e] at z
    have no0 : wayJ d = false → Q (.bl false) H := no H (L2.Same.refl _)
    refine ⟨_, rfl, _, _, _, _, _, rfl, .ty _, hd.ty, kit_tuple d, _, rfl, iteNP (fun c => no0 (wayJ_no fun ds e => ?_)) (fun c => ?_)⟩
    · subst e
      exact absurd rfl c
    obtain ⟨ds, rfl⟩ : ∃ ds, d = .tuple ds := by
      cases hd with
      | tup h1 h2 => exact ⟨_, rfl⟩
      | _ => simp [tyN] at c
    obtain ⟨a, xs, rfl, ha, hx⟩ := hd.inv_tup
    have lx := hx.len
    have hwt := wid_t.mp hw
    refine ⟨_, rfl, ⟨(by show 0 ≤ sizeLine; decide), fun t n_t => ?_⟩⟩
    obtain ⟨H0, e_H0, s0, r0⟩ := new_any n_t
    rw [← e_H0]
    clear e_H0
    have ha0 := SqT.sm ha s0
    refine ⟨a, t, xs, rfl, rfl, ha0, SqT.of r0, _, rfl, iteP (fun c1 => no H0 s0 ?_) (fun c1 => ?_)⟩
    · have : ds = [] := List.length_eq_zero_iff.mp (by rw [← lx, c1]; rfl)
      rw [this]
      exact wayJ_rows (rs := []) (fun r h => by cases h)
    have lds : ds.length ≤ 1000 := hwt.1
    refine ⟨_, rfl, a, rfl, ⟨_, ha0⟩, fun D nD => ?_⟩
    have lz : (xs.zip ds).length = xs.length := by rw [List.length_zip, lx, Nat.min_self]
    refine comp_ls (L := xs.zip ds) ((walk_tup (K := K) (a := a) (xs := xs)).cast lz.symm) (fun H' s' => SqT.sm ha0 s') (fun u => !wayRow u.2) (fun u => u.1) nD (by omega) ?_ ?_
    · rintro j u y H' H'' Q' N' hj s' ⟨rfl, hv⟩ hQ hN
      obtain ⟨e1, e2⟩ := List.getElem?_zip_eq_some.mp hj
      obtain rfl : u.1 = y := Option.some.inj (e1.symm.trans hv)
      obtain ⟨x, ex, hxd⟩ := hx.get e2
      obtain rfl : x = u.1 := Option.some.inj (ex.symm.trans e1)
      refine ⟨rfl, _, rfl, u.1, u.2, rfl, (hxd.sm s0).sm s', fun G1 t1 => ⟨_, rfl, ?_⟩⟩
      cases eb : wayRow u.2 with
      | true => exact iteF (hN (by rw [eb]; rfl) G1 t1)
      | false => exact iteT ⟨_, rfl, hQ (by rw [eb]; rfl) G1 t1⟩
    intro H1 s1 h1
    have en : ((xs.zip ds).filter fun u => !wayRow u.2).map (·.1) = [] ↔ ds.all wayRow = true := by
      have z : ((xs.zip ds).filter fun u => !wayRow u.2).map (·.2) = ds.filter fun q => !wayRow q := zip_filter (p := fun q => !wayRow q) lx
      rw [List.map_eq_nil_iff, ← List.map_eq_nil_iff (f := (·.2)), z, List.filter_eq_nil_iff, List.all_eq_true]
      simp
    generalize ((xs.zip ds).filter fun u => !wayRow u.2).map (·.1) = zs at h1 en
    refine ⟨(by show 0 ≤ sizeLine; decide), fun l2 n_l2 => ?_⟩
    obtain ⟨H2, e_H2, s2, r2⟩ := new_any n_l2
    rw [← e_H2]
    clear e_H2
    refine ⟨D, l2, zs, rfl, rfl, SqL.of (s2 _ _ h1), SqL.of r2, _, rfl, ?_⟩
    have s02 := s0.trans (s1.trans s2)
    have ez : decide (zs = []) = ds.all wayRow := by rw [Bool.eq_iff_iff, decide_eq_true_eq, en]
    rw [ez]
    cases ea : ds.all wayRow with
    | false => exact iteT (no H2 s02 (wayJ_no fun ds' e => by cases e; exact ea))
    | true =>
    refine iteF ?_
    obtain ⟨rs, rfl, hrs⟩ := rows_inv ea
    rw [wayJ_rows hrs, ← lawB_eq (fun r hr => (hrs r hr).1)] at k
    have no : ∀ H', Same H H' → lawB rs = false → Q (.bl false) H' := fun H' s e => by
      have z := k H' s
      rwa [e] at z
    clear no0
    obtain ⟨f0, tl, rfl⟩ : ∃ r0 tl, rs = r0 :: tl := by
      cases rs with
      | nil => exact absurd (List.length_eq_zero_iff.mp (by rw [lx]; rfl)) c1
      | cons x y => exact ⟨x, y, rfl⟩
    have lxr : xs.length = (f0 :: tl).length := by rw [lx, List.length_map]
    have ha2 := SqT.sm ha s02
    have wx := WyAll.of (K := K) hx
    have wx2 := wx.sm s02
    obtain ⟨a0, eq0, ha0'⟩ := wx.2 0 f0 rfl
    have at0 : atI xs 0 = some (.ref a0) := atI_nat (j := 0) eq0
    have hf2 := SqT.sm ha0' s02
    have w0 : atI f0.v 0 = some (.str f0.w) := atI_nat (j := 0) rfl
    dsimp only [gName, List.set, tNext, L2.start]
    refine ⟨_, rfl, a, _, _, _, rfl, rfl, ha2, at0, ?_⟩
    dsimp only [gName, List.set, tNext, L2.start]
    refine ⟨_, rfl, a0, _, _, _, rfl, rfl, hf2, w0, rfl, _, rfl, iteNS' (fun c2 => no H2 s02 ?_) (fun c2 => ?_)⟩
    · show (f0.isSent && _ && _ && _) = false
      rw [sent_w, decide_eq_false c2]
      rfl
    have is0 : f0.isSent = true := by rw [sent_w, decide_eq_true c2]
    refine ⟨_, rfl, a, rfl, ⟨_, ha2⟩, fun D2 nD2 => ?_⟩
    have lrs : (f0 :: tl).length ≤ 1000 := by rw [← lxr, lx]; exact lds
    refine comp_ls (L := f0 :: tl) ((walk_tup (K := K) (a := a) (xs := xs)).cast lxr) (fun H' s' => SqT.sm ha2 s') (fun _ => true) (fun r => .str r.w) nD2 (by omega) ?_ ?_
    · rintro j r y H' H'' Q' N' hj s' ⟨rfl, hv⟩ hQ hN
      obtain ⟨b, eb, hb⟩ := wx2.2 j r hj
      rw [eb] at hv
      cases hv
      exact ⟨rfl, tYes_t (iteT ⟨_, rfl, b, _, _, _, rfl, rfl, SqT.sm hb s', atI_nat (j := 0) rfl, hQ rfl _ (L2.Same.refl _)⟩)⟩
    intro H3 s3 h3
    rw [filter_all] at h3
    have eL : ∀ b2 b3 b4 : Bool, (f0.isSent && b2 && b3 && b4) = (b2 && b3 && b4) := fun b2 b3 b4 => by rw [is0, Bool.true_and]
    have eB : lawB (f0 :: tl) = (tl.all (fun r => !r.isSent) && chk f0 ⟨0, [], []⟩ (f0 :: tl) && decide (((f0 :: tl).foldl Ws.up ⟨0, [], []⟩).starts.length < 2)) := eL _ _ _
    have ec : ((1 : Int) < cntS ("sent" : Str) ((f0 :: tl).map Wy.w)) ↔ tl.all (fun r => !r.isSent) = false := by
      rw [List.map_cons, cntS, if_pos c2, cnt_sent]
      have := countN tl
      constructor
      · intro h
        cases e : tl.all fun r => !r.isSent with
        | false => rfl
        | true => rw [this.mpr e] at h; omega
      · intro h
        have h0 : ((tl.filter Wy.isSent).length : Int) ≠ 0 := fun z => by rw [this.mp z] at h; cases h
        omega
    have h3' : H3 D2 = some (.lst (((f0 :: tl).map Wy.w).map V.str)) := by rw [List.map_map]; exact h3
    refine ⟨.inl ⟨rfl, _, SqL.of h3'⟩, D2, (f0 :: tl).map Wy.w, _, rfl, rfl, SqL.of h3', _, _, rfl, rfl, _, rfl, ?_⟩
    rw [eB] at k no
    clear eB eL
    have s03 := s02.trans s3
    refine iteP (fun c3 => no H3 s03 ?_) (fun c3 => ?_)
    · rw [ec.mp c3]
      rfl
    have a2 : (tl.all fun r => !r.isSent) = true := by
      cases e : tl.all fun r => !r.isSent with
      | true => rfl
      | false => exact absurd (ec.mpr e) c3
    rw [a2, Bool.true_and] at k no
    clear ec
    refine fun ca n_ca => ?_
    obtain ⟨H4, e_H4, s4, r4⟩ := new_any n_ca
    rw [← e_H4]
    clear e_H4
    refine fun sa n_sa => ?_
    obtain ⟨H5, e_H5, s5, r5⟩ := new_any n_sa
    rw [← e_H5]
    clear e_H5
    have n_sa3 : H3 sa = none := by
      cases e : H3 sa with
      | none => rfl
      | some x => rw [s4 _ _ e] at n_sa; cases n_sa
    have ncs : ca ≠ sa := fun e => by rw [e] at r4; rw [r4] at n_sa; cases n_sa
    have ha3 := SqT.sm ha s03
    have hf3 := SqT.sm ha0' s03
    have wx3 := wx.sm s03
    dsimp only [gName, List.set, tNext, L2.start]
    refine ⟨_, rfl, a, rfl, ⟨xs, SqT.sm ha3 (s4.trans s5)⟩, ?_⟩
    refine for_it (walk_tup (K := K) (a := a) (xs := xs)) (fun i σ H' => ∃ (S : Ws) (v5 : Option V), σ = [some (.ref a), some (.ref a0), some (.ref ca), some (.ref sa), some (.int S.beat), v5] ∧ S = ((f0 :: tl).take i).foldl Ws.up ⟨0, [], []⟩ ∧ H' ca = some (.dK (gK V.int S.came)) ∧ H' sa = some (.dK (gK V.bl S.starts)) ∧ Same H3 H' ∧ chk f0 ⟨0, [], []⟩ ((f0 :: tl).take i) = true ∧ S.came.length ≤ i ∧ S.starts.length ≤ i) ⟨_, _, rfl, rfl, s5 _ _ r4, r5, s4.trans s5, rfl, Nat.le_refl _, Nat.le_refl _⟩ (fun i σ H' _ ⟨_, _, _, _, _, _, s, _⟩ => SqT.sm ha3 s) ?_ ?_
    · rintro i x σ Hq H6 hi ⟨S, v5, rfl, eS, hca, hsa, s6, ck, lc, ls⟩ ⟨rfl, hx6⟩
      have hiw : i < (f0 :: tl).length := by rw [← lxr]; exact hi
      have ei := List.getElem?_eq_getElem hiw
      have etk : (f0 :: tl).take (i + 1) = (f0 :: tl).take i ++ [(f0 :: tl)[i]] := List.take_succ_eq_append_getElem hiw
      generalize (f0 :: tl)[i] = r at ei etk
      have ck' : chk f0 ⟨0, [], []⟩ ((f0 :: tl).take (i + 1)) = S.ck f0 r := by
        rw [etk, chk_app, ck, Bool.true_and, ← eS]
        exact Bool.and_true _
      have eS' : S.up r = ((f0 :: tl).take (i + 1)).foldl Ws.up ⟨0, [], []⟩ := by
        rw [etk, List.foldl_append, ← eS]
        rfl
      have bad : S.ck f0 r = false → chk f0 ⟨0, [], []⟩ (f0 :: tl) = false := fun e => by
        rw [← List.take_append_drop (i + 1) (f0 :: tl), chk_app, ck', e]
        rfl
      have hbad : ∀ G, Same H6 G → S.ck f0 r = false → Q (.bl false) G := fun G s e => no G (s03.trans (s6.trans s)) (by rw [bad e]; rfl)
      obtain ⟨b, eb, hb⟩ := wx3.2 i r ei
      obtain rfl : V.ref b = x := Option.some.inj (eb.symm.trans hx6)
      have hb6 := SqT.sm hb s6
      dsimp only [gName, List.set]
      refine ⟨_, rfl, b, r, rfl, hb6, fun G1 l1 t1 g1 => ⟨_, rfl, a0, f0, rfl, SqT.sm (SqT.sm hf3 s6) t1, fun G2 l2 t2 g2 => ?_⟩⟩
      refine ⟨.list (keyD r.key), .list (keyD f0.key), .lst (SqL.of (t2 _ _ g1)) (RpL.dp _ _ (RpL.cons Rp.int (RpL.cons Rp.int (RpL.cons Rp.int RpL.nil)))), .lst (SqL.of g2) (RpL.dp _ _ (RpL.cons Rp.int (RpL.cons Rp.int (RpL.cons Rp.int RpL.nil)))), rfl, rfl, _, rfl, ?_⟩
      rw [key_eqvL]
      have t02 := t1.trans t2
      cases c4 : decide (r.key = f0.key) with
      | false =>
        refine iteT (hbad G2 t02 ?_)
        unfold Ws.ck
        rw [c4]
        rfl
      | true =>
      refine iteF ?_
      have hb2 := SqT.sm hb6 t02
      refine ⟨_, rfl, b, _, _, _, rfl, rfl, hb2, beat_at r, _, rfl, _, _, rfl, rfl, _, rfl, iteP (fun c5 => ?_) (fun c5 => ?_)⟩
      · refine hbad G2 t02 ?_
        unfold Ws.ck
        rw [c4, decide_eq_false (by omega)]
        rfl
      have eck : S.ck f0 r = (heardOk f0 r && wrapCk S r.wr) := by
        unfold Ws.ck
        rw [c4, decide_eq_true (show S.beat ≤ r.beat by omega)]
        rfl
      rw [eck] at hbad ck'
      clear eck bad
      refine ⟨_, rfl, b, _, _, _, rfl, rfl, hb2, beat_at r, ?_⟩
      dsimp only [gName, List.set, tNext]
      have hcaG := t02 _ _ hca
      have hsaG := t02 _ _ hsa
      have hf2' := SqT.sm (SqT.sm hf3 s6) t02
      have s36 := s6.trans t02
      have rw0 : atI r.v 0 = some (.str r.w) := atI_nat (j := 0) rfl
      have fin0 : r.wr = none → heardOk f0 r = true → ∀ v5 : Option V, ∃ (S' : Ws) (v5' : Option V), [some (V.ref a), some (.ref a0), some (.ref ca), some (.ref sa), some (.int r.beat), v5] = [some (V.ref a), some (.ref a0), some (.ref ca), some (.ref sa), some (.int S'.beat), v5'] ∧ S' = ((f0 :: tl).take (i + 1)).foldl Ws.up ⟨0, [], []⟩ ∧ G2 ca = some (.dK (gK V.int S'.came)) ∧ G2 sa = some (.dK (gK V.bl S'.starts)) ∧ Same H3 G2 ∧ chk f0 ⟨0, [], []⟩ ((f0 :: tl).take (i + 1)) = true ∧ S'.came.length ≤ i + 1 ∧ S'.starts.length ≤ i + 1 := fun e1 e2 v5 => by
        have e3 : S.up r = { S with beat := r.beat } := by
          unfold Ws.up
          rw [e1]
        rw [← eS', e3]
        refine ⟨_, v5, rfl, rfl, hcaG, hsaG, s36, ?_, Nat.le_succ_of_le lc, Nat.le_succ_of_le ls⟩
        rw [ck', e2, e1]
        rfl
      cases f0 with
      | sent b0 r0 s0 n0 o t =>
        have f6 : atI (Wy.v (.sent b0 r0 s0 n0 o t)) 6 = some (.str t) := atI_nat (j := 6) rfl
        have f5 : atI (Wy.v (.sent b0 r0 s0 n0 o t)) 5 = some (oV o) := atI_nat (j := 5) rfl
        cases r with
        | sent b1 r1 s1 n1 o1 t1 =>
          refine ⟨_, rfl, b, _, _, _, rfl, rfl, hb2, rw0, rfl, _, rfl, iteS (fun e => absurd (show ("sent" : Str) = "heard" from e) (by decide)) fun _ => ?_⟩
          refine ⟨_, rfl, b, _, _, _, rfl, rfl, hb2, rw0, rfl, _, rfl, iteS (fun e => absurd (show ("sent" : Str) = "heard" from e) (by decide)) fun _ => ?_⟩
          exact ⟨_, rfl, b, _, _, _, rfl, rfl, hb2, rw0, rfl, _, rfl, iteS (fun e => absurd (show ("sent" : Str) = "wrapped" from e) (by decide)) fun _ => fin0 rfl rfl _⟩
        | drop b1 y1 r1 k1 s1 n1 =>
          refine ⟨_, rfl, b, _, _, _, rfl, rfl, hb2, rw0, rfl, _, rfl, iteS (fun e => absurd (show ("dropped" : Str) = "heard" from e) (by decide)) fun _ => ?_⟩
          refine ⟨_, rfl, b, _, _, _, rfl, rfl, hb2, rw0, rfl, _, rfl, iteS (fun e => absurd (show ("dropped" : Str) = "heard" from e) (by decide)) fun _ => ?_⟩
          exact ⟨_, rfl, b, _, _, _, rfl, rfl, hb2, rw0, rfl, _, rfl, iteS (fun e => absurd (show ("dropped" : Str) = "wrapped" from e) (by decide)) fun _ => fin0 rfl rfl _⟩
        | pass b1 g1 r1 s1 n1 x1 y1 z1 =>
          refine ⟨_, rfl, b, _, _, _, rfl, rfl, hb2, rw0, rfl, _, rfl, iteS (fun e => absurd (show ("passed" : Str) = "heard" from e) (by decide)) fun _ => ?_⟩
          refine ⟨_, rfl, b, _, _, _, rfl, rfl, hb2, rw0, rfl, _, rfl, iteS (fun e => absurd (show ("passed" : Str) = "heard" from e) (by decide)) fun _ => ?_⟩
          exact ⟨_, rfl, b, _, _, _, rfl, rfl, hb2, rw0, rfl, _, rfl, iteS (fun e => absurd (show ("passed" : Str) = "wrapped" from e) (by decide)) fun _ => fin0 rfl rfl _⟩
        | heard b1 r1 h1 s1 n1 t1 =>
          have at6 : atI (Wy.v (.heard b1 r1 h1 s1 n1 t1)) 6 = some (.str t1) := atI_nat (j := 6) rfl
          have at3 : atI (Wy.v (.heard b1 r1 h1 s1 n1 t1)) 3 = some (.int h1) := atI_nat (j := 3) rfl
          have at4 : atI (Wy.v (.heard b1 r1 h1 s1 n1 t1)) 4 = some (.int s1) := atI_nat (j := 4) rfl
          have es : s1 = s0 := by
            have := of_decide_eq_true c4
            exact (Prod.mk.inj (Prod.mk.inj this).2).1
          have eh : heardOk (.sent b0 r0 s0 n0 o t) (.heard b1 r1 h1 s1 n1 t1) = (decide (t1 = t) && (decide (oV o = V.int h1) || decide (o = none) && decide (h1 ≠ s0))) := rfl
          have ho : Rp K G2 (oD o) (oV o) := by cases o <;> first | exact Rp.none | exact Rp.int
          have eo : PyData.eqv (oD o) (.int h1) = decide (oV o = V.int h1) := by
            cases o with
            | none => rfl
            | some i =>
              show (i == h1) = decide (V.int i = V.int h1)
              rw [Bool.eq_iff_iff, beq_iff_eq, decide_eq_true_eq, V.int.injEq]
          refine ⟨_, rfl, b, _, _, _, rfl, rfl, hb2, rw0, rfl, _, rfl, iteS (fun _ => ?_) fun e => absurd rfl e⟩
          refine ⟨_, rfl, b, _, _, _, rfl, rfl, hb2, at6, _, rfl, a0, _, _, _, rfl, rfl, hf2', f6, rfl, _, rfl, iteNS' (fun c6 => hbad G2 t02 ?_) fun c6 => ?_⟩
          · rw [eh, decide_eq_false c6, Bool.false_and, Bool.false_and]
          rw [decide_eq_true c6, Bool.true_and] at eh
          have nw : ∀ {T : Prop}, ("heard" : Str) = ("wrapped" : Str) → T := fun e => absurd e (by decide)
          cases o with
          | none =>
            have eh : heardOk (.sent b0 r0 s0 n0 none t) (.heard b1 r1 h1 s1 n1 t1) = decide (h1 ≠ s0) := eh
            refine ⟨_, rfl, a0, _, _, _, rfl, rfl, hf2', f5, _, rfl, iteF ?_⟩
            refine ⟨_, rfl, b, _, _, _, rfl, rfl, hb2, rw0, rfl, _, rfl, iteS (fun _ => ?_) fun e => absurd rfl e⟩
            refine ⟨_, rfl, a0, _, _, _, rfl, rfl, hf2', f5, _, rfl, iteT ?_⟩
            refine ⟨_, rfl, b, _, _, _, rfl, rfl, hb2, at3, _, rfl, b, _, _, _, rfl, rfl, hb2, at4, rfl, _, rfl, iteI (fun c7 => hbad G2 t02 ?_) fun c7 => ?_⟩
            · rw [eh, decide_eq_false (fun z => z (c7.trans es)), Bool.false_and]
            · exact ⟨_, rfl, b, _, _, _, rfl, rfl, hb2, rw0, rfl, _, rfl, iteS (fun e => nw e) fun _ => fin0 rfl (by rw [eh]; exact decide_eq_true fun z => c7 (z.trans es.symm)) _⟩
          | some j =>
            have eh : heardOk (.sent b0 r0 s0 n0 (some j) t) (.heard b1 r1 h1 s1 n1 t1) = decide (oV (some j) = V.int h1) := by rw [eh]; exact Bool.or_false _
            refine ⟨_, rfl, a0, _, _, _, rfl, rfl, hf2', f5, _, rfl, iteT ?_⟩
            refine ⟨_, rfl, a0, _, _, _, rfl, rfl, hf2', f5, _, rfl, b, _, _, _, rfl, rfl, hb2, at3, oD (some j), .int h1, Rp.dp _ _ ho, Rp.dp _ _ Rp.int, rfl, rfl, _, rfl, ?_⟩
            rw [eo]
            cases c7 : decide (oV (some j) = V.int h1) with
            | false =>
              rw [c7] at eh
              refine iteT (hbad G2 t02 ?_)
              rw [eh, Bool.false_and]
            | true =>
              rw [c7] at eh
              refine iteF ?_
              refine ⟨_, rfl, b, _, _, _, rfl, rfl, hb2, rw0, rfl, _, rfl, iteS (fun _ => ?_) fun e => absurd rfl e⟩
              refine ⟨_, rfl, a0, _, _, _, rfl, rfl, hf2', f5, _, rfl, iteF ?_⟩
              exact ⟨_, rfl, b, _, _, _, rfl, rfl, hb2, rw0, rfl, _, rfl, iteS (fun e => nw e) fun _ => fin0 rfl eh _⟩
        | wrap b1 r1 k1 s1 o1 n1 p1 q1 c1 =>
          clear fin0
          have at3 : atI (Wy.v (.wrap b1 r1 k1 s1 o1 n1 p1 q1 c1)) 3 = some (.str k1) := atI_nat (j := 3) rfl
          have at7 : atI (Wy.v (.wrap b1 r1 k1 s1 o1 n1 p1 q1 c1)) 7 = some (.int p1) := atI_nat (j := 7) rfl
          have at8 : atI (Wy.v (.wrap b1 r1 k1 s1 o1 n1 p1 q1 c1)) 8 = some (.int q1) := atI_nat (j := 8) rfl
          have at9 : atI (Wy.v (.wrap b1 r1 k1 s1 o1 n1 p1 q1 c1)) 9 = some (.int c1) := atI_nat (j := 9) rfl
          have ew : wrapCk S (Wy.wr (.wrap b1 r1 k1 s1 o1 n1 p1 q1 c1)) = (decide (c1 < 4) && (!isFk k1 || decide (c1 < (lookA S.came p1).getD (-1)))) := rfl
          have eh : heardOk (.sent b0 r0 s0 n0 o t) (.wrap b1 r1 k1 s1 o1 n1 p1 q1 c1) = true := rfl
          rw [eh, Bool.true_and] at hbad ck'
          refine ⟨_, rfl, b, _, _, _, rfl, rfl, hb2, rw0, rfl, _, rfl, iteS (fun e => absurd (show ("wrapped" : Str) = "heard" from e) (by decide)) fun _ => ?_⟩
          refine ⟨_, rfl, b, _, _, _, rfl, rfl, hb2, rw0, rfl, _, rfl, iteS (fun e => absurd (show ("wrapped" : Str) = "heard" from e) (by decide)) fun _ => ?_⟩
          refine ⟨_, rfl, b, _, _, _, rfl, rfl, hb2, rw0, rfl, _, rfl, iteS (fun _ => ?_) fun e => absurd rfl e⟩
          refine ⟨_, rfl, b, _, _, _, rfl, rfl, hb2, at9, _, _, rfl, rfl, _, rfl, iteP (fun c6 => hbad G2 t02 ?_) fun c6 => ?_⟩
          · rw [ew, decide_eq_false (by omega), Bool.false_and]
          rw [decide_eq_true (show c1 < 4 by omega), Bool.true_and] at ew
          apply two (A := wrapCk S (Wy.wr (.wrap b1 r1 k1 s1 o1 n1 p1 q1 c1)) = true)
          · intro hY
            refine ⟨_, rfl, b, _, _, _, rfl, rfl, hb2, at3, rfl, _, rfl, iteS (fun c7 => ?_) fun c7 => hY ?_⟩
            · refine ⟨_, rfl, ca, rfl, .inl ⟨_, .inl hcaG⟩, _, rfl, b, _, _, _, rfl, rfl, hb2, at7, _, rfl, _, DGet.k (k := .inl p1) hcaG, ?_⟩
              rw [came_val]
              refine ⟨_, rfl, b, _, _, _, rfl, rfl, hb2, at9, _, _, rfl, rfl, _, rfl, iteP (fun c8 => hbad G2 t02 ?_) fun c8 => hY ?_⟩
              · rw [ew]
                unfold isFk
                rw [decide_eq_true c7, decide_eq_false (by omega)]
                rfl
              · rw [ew]
                unfold isFk
                rw [decide_eq_true c7, decide_eq_true (by omega)]
                rfl
            · rw [ew]
              unfold isFk
              rw [decide_eq_false c7]
              rfl
          · intro hc
            rw [hc] at ck'
            have up : S.up (.wrap b1 r1 k1 s1 o1 n1 p1 q1 c1) = ⟨b1, putA S.came q1 (max ((lookA S.came q1).getD (-1)) c1), if isFk k1 = true then S.starts else putA S.starts p1 true⟩ := rfl
            have lcx : S.came.length < 100000 := by omega
            have lsx : S.starts.length < 100000 := by omega
            have lq := putA_len S.came q1 (max ((lookA S.came q1).getD (-1)) c1)
            have lp := putA_len S.starts p1 true
            refine iteF ?_
            refine ⟨_, rfl, b, _, _, _, rfl, rfl, hb2, at3, rfl, _, rfl, iteNS' (fun c9 => ?_) fun c9 => ?_⟩
            · have ef : isFk k1 = false := decide_eq_false c9
              rw [ef] at up
              refine ⟨_, rfl, _, rfl, b, _, _, _, rfl, rfl, hb2, at7, sa, _, rfl, DPut.k (k := .inl p1) hsaG (Nat.lt_of_lt_of_le (by rw [gK_len]; exact lsx) (show 100000 ≤ sizeLine by decide)), ?_⟩
              rw [putK_gK V.bl]
              have hsa7 : upd G2 sa (.dK (gK V.bl (putA S.starts p1 true))) sa = some (.dK (gK V.bl (putA S.starts p1 true))) := upd_same
              have hca7 : upd G2 sa (.dK (gK V.bl (putA S.starts p1 true))) ca = some (.dK (gK V.int S.came)) := (upd_ne ncs).trans hcaG
              have s37 : Same H3 (upd G2 sa (.dK (gK V.bl (putA S.starts p1 true)))) := s36.wrn n_sa3
              have hb7 := SqT.sm hb s37
              generalize upd G2 sa (.dK (gK V.bl (putA S.starts p1 true))) = G3 at hsa7 hca7 s37 hb7
              refine ⟨_, rfl, ca, rfl, .inl ⟨_, .inl hca7⟩, _, rfl, b, _, _, _, rfl, rfl, hb7, at8, _, rfl, _, DGet.k (k := .inl q1) hca7, ?_⟩
              rw [came_val]
              refine ⟨_, rfl, b, _, _, _, rfl, rfl, hb7, at9, _, _, rfl, ?_⟩
              rw [max_if]
              refine ⟨_, rfl, _, rfl, b, _, _, _, rfl, rfl, hb7, at8, ca, _, rfl, DPut.k (k := .inl q1) hca7 (Nat.lt_of_lt_of_le (by rw [gK_len]; exact lcx) (show 100000 ≤ sizeLine by decide)), ?_⟩
              rw [putK_gK V.int]
              refine ⟨S.up (.wrap b1 r1 k1 s1 o1 n1 p1 q1 c1), _, rfl, eS', ?_, ?_, s37.wrn n_ca, ck', ?_, ?_⟩
              · rw [up]
                exact upd_same
              · rw [up]
                exact (upd_ne ncs.symm).trans hsa7
              · rw [up]
                exact Nat.le_trans lq (Nat.succ_le_succ lc)
              · rw [up]
                exact Nat.le_trans lp (Nat.succ_le_succ ls)
            · have ef : isFk k1 = true := decide_eq_true c9
              rw [ef] at up
              have hsa7 := hsaG
              have hca7 := hcaG
              have s37 := s36
              have hb7 := hb2
              refine ⟨_, rfl, ca, rfl, .inl ⟨_, .inl hca7⟩, _, rfl, b, _, _, _, rfl, rfl, hb7, at8, _, rfl, _, DGet.k (k := .inl q1) hca7, ?_⟩
              rw [came_val]
              refine ⟨_, rfl, b, _, _, _, rfl, rfl, hb7, at9, _, _, rfl, ?_⟩
              rw [max_if]
              refine ⟨_, rfl, _, rfl, b, _, _, _, rfl, rfl, hb7, at8, ca, _, rfl, DPut.k (k := .inl q1) hca7 (Nat.lt_of_lt_of_le (by rw [gK_len]; exact lcx) (show 100000 ≤ sizeLine by decide)), ?_⟩
              rw [putK_gK V.int]
              refine ⟨S.up (.wrap b1 r1 k1 s1 o1 n1 p1 q1 c1), _, rfl, eS', ?_, ?_, s37.wrn n_ca, ck', ?_, ?_⟩
              · rw [up]
                exact upd_same
              · rw [up]
                exact (upd_ne ncs.symm).trans hsa7
              · rw [up]
                exact Nat.le_trans lq (Nat.succ_le_succ lc)
              · rw [up]
                exact Nat.le_succ_of_le ls
      | _ => cases is0
    · rintro σ H6 ⟨S, v5, rfl, eS, hca, hsa, s6, ck, lc, ls⟩
      rw [lxr, List.take_length] at ck eS
      rw [ck, Bool.true_and, ← eS] at k
      refine ⟨_, rfl, sa, _, rfl, hsa, _, _, rfl, rfl, ?_⟩
      rw [gK_len]
      have ei : decide ((S.starts.length : Int) < 2) = decide (S.starts.length < 2) := by
        rw [Bool.eq_iff_iff, decide_eq_true_eq, decide_eq_true_eq]
        omega
      show Q (.bl (decide ((S.starts.length : Int) < 2))) H6
      rw [ei]
      exact k H6 (s03.trans s6)
end
end Wn

namespace Wn
open PySem L2
/-! ### terms that make data, all of it new -/
def nw (H H' : Hp) : Hp := fun a => if H a = none then H' a else none
theorem nw_sub {H H' : Hp} : Same (nw H H') H' := fun a o h => by
  unfold nw at h
  split at h
  · exact h
  · cases h
theorem nw_right {H H1 H2 : Hp} (s : Same H1 H2) : Same (nw H H1) (nw H H2) := fun a o h => by
  unfold nw at h ⊢
  split at h
  · rename_i n
    rw [if_pos n]
    exact s _ _ h
  · cases h
theorem nw_left {H H1 H2 : Hp} (s : Same H H1) : Same (nw H1 H2) (nw H H2) := fun a o h => by
  unfold nw at h ⊢
  split at h
  · rename_i n
    have n0 : H a = none := by
      cases e : H a with
      | none => rfl
      | some x => rw [s _ _ e] at n; cases n
    rw [if_pos n0]
    exact h
  · cases h
theorem nw_at {H H1 H2 : Hp} {a : Addr} {o : HO} (s : Same H H1) (n : H1 a = none) (h : H2 a = some o) : nw H H2 a = some o := by
  have n0 : H a = none := by
    cases e : H a with
    | none => rfl
    | some x => rw [s _ _ e] at n; cases n
  unfold nw
  rw [if_pos n0]
  exact h
theorem nw_hid {M : List Addr} {H H' : Hp} (n : ∀ d ∈ M, H d ≠ none) : Same (nw H H') (hid M H') := fun a o h => by
  unfold nw at h
  split at h
  · rename_i z
    exact hid_at (fun e => n a e z) h
  · cases h
def Mk (K : PySem.W.Frag) (t : TE) (D : PyData) : Prop := ∀ σ H Q, (∀ H' v, Same H H' → Dk K (nw H H') v D → Q v H') → t σ H Q
def MkA (K : PySem.W.Frag) (t : TA) (Ds : List PyData) : Prop := ∀ σ H Q, (∀ H' vs, Same H H' → DkAll K (nw H H') vs Ds → Q vs H') → t σ H Q
theorem Mk.non {K : PySem.W.Frag} : Mk K (tC .non) .none := fun σ H Q h => h H .non (L2.Same.refl _) .non
theorem Mk.bl {K : PySem.W.Frag} {b : Bool} : Mk K (tC (.bl b)) (.bool b) := fun σ H Q h => h H (.bl b) (L2.Same.refl _) (.bl b)
theorem Mk.int {K : PySem.W.Frag} {i : Int} : Mk K (tC (.int i)) (.int i) := fun σ H Q h => h H (.int i) (L2.Same.refl _) (.int i)
theorem Mk.str {K : PySem.W.Frag} {x : Str} : Mk K (tC (.str x)) (.str x) := fun σ H Q h => h H (.str x) (L2.Same.refl _) (.str x)
theorem Mk.neg {K : PySem.W.Frag} {i : Int} : Mk K (tUn (rU fun i => V.int (-i)) (tC (.int i))) (.int (-i)) := fun σ H Q h => ⟨i, rfl, h H (.int (-i)) (L2.Same.refl _) (.int _)⟩
theorem Mk.pow {K : PySem.W.Frag} {i j : Int} (c : CPow i j) : Mk K (tOp (rI CPow fun i j => V.int (i ^ j.toNat)) (tC (.int i)) (tC (.int j))) (.int (i ^ j.toNat)) := fun σ H Q h => ⟨i, j, rfl, rfl, c, h H _ (L2.Same.refl _) (.int _)⟩
theorem Mk.dnew {K : PySem.W.Frag} : Mk K tDNewK (.dict []) := fun σ H Q h p np => h _ _ ((L2.Same.refl _).new np) (.dct (nw_at (L2.Same.refl _) np upd_same) .nil)
theorem MkA.nil {K : PySem.W.Frag} : MkA K tNil [] := fun σ H Q h => h H [] (L2.Same.refl _) .nil
theorem MkA.cons {K : PySem.W.Frag} {t : TE} {r : TA} {D : PyData} {Ds : List PyData} (h1 : Mk K t D) (h2 : MkA K r Ds) : MkA K (tCons t r) (D :: Ds) := fun σ H Q h =>
  h1 σ H _ fun H1 v s1 d1 => h2 σ H1 _ fun H2 vs s2 d2 => h H2 _ (s1.trans s2) (.cons (d1.sm (nw_right s2)) (d2.sm (nw_left s1)))
theorem Mk.tup {K : PySem.W.Frag} {r : TA} {Ds : List PyData} (h1 : MkA K r Ds) (l : Ds.length ≤ 100000) : Mk K (tTup r) (.tuple Ds) := fun σ H Q h =>
  h1 σ H _ fun H1 vs s1 d1 => ⟨by rw [d1.len]; exact Nat.le_trans l (by decide), fun p np => by
    have s2 : Same H1 (upd H1 p (.tup vs)) := (L2.Same.refl _).new np
    exact h _ _ (s1.trans s2) (.tup (SqT.of (nw_at s1 np upd_same)) (d1.sm (nw_right s2)))⟩
theorem Mk.lst {K : PySem.W.Frag} {r : TA} {Ds : List PyData} (h1 : MkA K r Ds) (l : Ds.length ≤ 100000) : Mk K (tLst r) (.list Ds) := fun σ H Q h =>
  h1 σ H _ fun H1 vs s1 d1 => ⟨by rw [d1.len]; exact Nat.le_trans l (by decide), fun p np => by
    have s2 : Same H1 (upd H1 p (.lst vs)) := (L2.Same.refl _).new np
    exact h _ _ (s1.trans s2) (.lst (SqL.of (nw_at s1 np upd_same)) (d1.sm (nw_right s2)))⟩
/-- a dict of texts with data -/
theorem Mk.disp1 {K : PySem.W.Frag} {x : Str} {i : Int} : Mk K (tDisp [(tC (.str x), tC (.int i))]) (.dict [(.str x, .int i)]) := fun σ H Q h p np => by
  have s1 : Same H (upd H p (.dK [])) := (L2.Same.refl _).new np
  refine ⟨upd_same, [(.inr x, .int i)], rfl, Nat.le_of_ble_eq_true rfl, ?_⟩
  have s2 : ∀ o, Same H (upd (upd H p (.dK [])) p o) := fun o => s1.wrn np
  exact h _ _ (s2 _) (.dct (nw_at (L2.Same.refl _) np upd_same) (.cons (.int i) .nil))
end Wn

set_option maxHeartbeats 1600000
namespace Wn
open PySem L2
set_option pp.maxSteps 700
set_option pp.deepTerms false
local macro_rules | `(tactic| walk_at "h") => `(tactic| first | with_reducible assumption | (with_reducible exact upd_same) | (with_reducible apply g_upd; (walk_at "neq"); (walk_at "h")) | (with_reducible apply g_same; (with_reducible assumption); (walk_at "h")) | (with_reducible apply g_kp; (with_reducible assumption); (walk_at "nin"); (walk_at "h")) | (with_reducible apply g_tk; (with_reducible assumption); (walk_at "h")))
local macro_rules | `(tactic| walk_at "neq") => `(tactic| first | with_reducible assumption | (with_reducible apply Ne.symm; with_reducible assumption) | (with_reducible apply ne_upd; (with_reducible assumption)) | (with_reducible apply Ne.symm; with_reducible apply ne_upd; with_reducible assumption) | (with_reducible apply ne_fr; (with_reducible assumption); (walk_at "h")) | (with_reducible apply ne_fr'; (with_reducible assumption); (walk_at "h")) | (with_reducible apply ne_kd; (walk_at "h"); (walk_at "h"); (with_unfolding_all (intro z; cases z))))
local macro_rules | `(tactic| walk_at "nin") => `(tactic| first | (with_reducible exact nin0) | with_reducible assumption | (with_reducible apply ninc; (walk_at "neq"); (walk_at "nin")))
local macro_rules | `(tactic| walk_at "none") => `(tactic| first | with_reducible assumption | (with_reducible apply n_upd; (with_reducible assumption)) | (with_reducible apply n_same; (with_reducible assumption); (walk_at "none")) | (with_reducible apply n_kp; (with_reducible assumption); (walk_at "nin"); (walk_at "none")))
local macro_rules | `(tactic| walk_at "mem") => `(tactic| first | (with_reducible exact List.mem_cons_self) | (with_reducible apply List.mem_cons_of_mem; (walk_at "mem")))
local macro_rules | `(tactic| walk_at "am") => `(tactic| first | (with_reducible exact am0) | (with_reducible apply am1; (first | (apply Or.inl; walk_at "mem") | (apply Or.inr; walk_at "none")); (walk_at "am")))
local macro_rules | `(tactic| walk_at "tk") => `(tactic| first | (with_reducible exact TK.refl _) | with_reducible assumption | (with_reducible apply t_tk; (with_reducible assumption); (walk_at "tk")) | (with_reducible apply t_same; (with_reducible assumption); (walk_at "tk")) | (with_reducible apply t_new; (with_reducible assumption); (walk_at "tk")) | (with_reducible apply t_wr; (walk_at "h"); (with_unfolding_all rfl); (walk_at "tk")))
local macro_rules | `(tactic| walk_at "same") => `(tactic| first | (with_reducible exact L2.Same.refl _) | with_reducible assumption | (with_reducible apply s_same; (with_reducible assumption); (walk_at "same")) | (with_reducible apply s_new; (with_reducible assumption); (walk_at "same")) | (with_reducible apply s_wrn; (walk_at "none"); (walk_at "same")))
local macro_rules | `(tactic| walk_at "kp") => `(tactic| first | (with_reducible exact Kp.refl _ _) | with_reducible assumption | (with_reducible apply k_same; (with_reducible assumption); (walk_at "kp")) | (with_reducible apply k_kp; (with_reducible assumption); (walk_at "kp")) | (with_reducible apply k_kpm; (with_reducible assumption); (walk_at "am"); (walk_at "kp")) | (with_reducible apply k_new; (with_reducible assumption); (walk_at "kp")) | (with_reducible apply k_wr; (walk_at "mem"); (walk_at "kp")) | (with_reducible apply k_wrn; (walk_at "none"); (walk_at "kp")))
local macro_rules | `(tactic| walk_at "rp") => `(tactic| first | with_reducible assumption | (with_reducible exact Rp.int) | (with_reducible exact Rp.str) | (with_reducible exact Rp.none) | (with_reducible exact Rp.bool) | (with_reducible apply Rp.tk'; (with_reducible assumption); (walk_at "tk")) | (with_reducible apply Rp.tup; (walk_at "h"); (walk_at "rpl")))
local macro_rules | `(tactic| walk_at "rpl") => `(tactic| first | with_reducible assumption | (with_reducible exact RpL.nil) | (with_reducible apply RpL.tk'; (with_reducible assumption); (walk_at "tk")) | (with_reducible apply RpL.cons; (walk_at "rp"); (walk_at "rpl")))
local macro_rules | `(tactic| walk_at "g") => `(tactic| repeat (first | refine ⟨_, rfl, ?_⟩ | refine ⟨_, _, rfl, rfl, ?_⟩ | refine ⟨rfl, _, rfl, ?_⟩ | refine ⟨_, _, rfl, rfl, (by first | decide | omega), ?_⟩))
abbrev sMade : Stmt := top 25
abbrev sBent : Stmt := top 26
theorem gqi {i : Int} (h : 0 ≤ i) (h2 : i ≤ 1000) : Fe (.int i) := ⟨decide_eq_true (by omega), Nat.zero_le _, rfl, rfl⟩
theorem gqc {d : PyData} {ds : List PyData} (h1 : Fe d) (h2 : ∀ e ∈ ds, Fe e) : ∀ e ∈ d :: ds, Fe e := List.forall_mem_cons.mpr ⟨h1, h2⟩
theorem gqo {o : Option Int} (h : oOk o) (h2 : ∀ i, o = some i → i ≤ 1000) : Fe (oD o) := by
  cases o with
  | none => exact ⟨rfl, Nat.zero_le _, rfl, rfl⟩
  | some i => exact gqi h (h2 i rfl)
theorem nilP {α : Type} {P : α → Prop} : ∀ r ∈ ([] : List α), P r := fun r h => by cases h
/-- pairs where they lie -/
def PrAll (K : PySem.W.Frag) (H : Hp) (xs : List V) (cl : List (Int × Int)) : Prop := xs.length = cl.length ∧ ∀ (i : Nat) (p : Int × Int), cl[i]? = some p → ∃ a, xs[i]? = some (.ref a) ∧ SqT K H a [.int p.1, .int p.2]
theorem PrAll.tk {K : PySem.W.Frag} {H H' : Hp} {xs : List V} {cl : List (Int × Int)} (h : PrAll K H xs cl) (s : TK H H') : PrAll K H' xs cl := ⟨h.1, fun i r e => let ⟨a, e1, e2⟩ := h.2 i r e; ⟨a, e1, SqT.tk e2 s⟩⟩
theorem WyAll.tk {K : PySem.W.Frag} {H H' : Hp} {xs : List V} {rs : List Wy} (h : WyAll K H xs rs) (s : TK H H') : WyAll K H' xs rs := ⟨h.1, fun i r e => let ⟨a, e1, e2⟩ := h.2 i r e; ⟨a, e1, SqT.tk e2 s⟩⟩
theorem snoc_get {α : Type} {l : List α} {x y : α} {i : Nat} (h : (l ++ [x])[i]? = some y) : l[i]? = some y ∨ i = l.length ∧ y = x := by
  by_cases hi : i < l.length
  · rw [List.getElem?_append_left hi] at h
    exact .inl h
  · rw [List.getElem?_append_right (by omega)] at h
    have : i - l.length = 0 := by
      by_cases z : i - l.length = 0
      · exact z
      · rw [List.getElem?_eq_none (by rw [List.length_singleton]; omega)] at h
        cases h
    rw [this] at h
    cases h
    exact .inr ⟨by omega, rfl⟩
theorem WyAll.snoc {K : PySem.W.Frag} {H : Hp} {xs : List V} {rs : List Wy} (h : WyAll K H xs rs) {a : Addr} {r : Wy} (hr : SqT K H a r.v) : WyAll K H (xs ++ [.ref a]) (rs ++ [r]) := ⟨by rw [List.length_append, List.length_append, h.1]; rfl, fun i q e => by
  rcases snoc_get e with e | ⟨rfl, rfl⟩
  · obtain ⟨b, e1, e2⟩ := h.2 i q e
    exact ⟨b, by rw [List.getElem?_append_left (List.getElem?_eq_some_iff.mp e1).1]; exact e1, e2⟩
  · exact ⟨a, by rw [← h.1, List.getElem?_append_right (Nat.le_refl _), Nat.sub_self]; rfl, hr⟩⟩
theorem PrAll.snoc {K : PySem.W.Frag} {H : Hp} {xs : List V} {cl : List (Int × Int)} (h : PrAll K H xs cl) {a : Addr} {p : Int × Int} (hr : SqT K H a [.int p.1, .int p.2]) : PrAll K H (xs ++ [.ref a]) (cl ++ [p]) := ⟨by rw [List.length_append, List.length_append, h.1]; rfl, fun i q e => by
  rcases snoc_get e with e | ⟨rfl, rfl⟩
  · obtain ⟨b, e1, e2⟩ := h.2 i q e
    exact ⟨b, by rw [List.getElem?_append_left (List.getElem?_eq_some_iff.mp e1).1]; exact e1, e2⟩
  · exact ⟨a, by rw [← h.1, List.getElem?_append_right (Nat.le_refl _), Nat.sub_self]; rfl, hr⟩⟩
/-- the state while a way is made -/
structure MS (K : PySem.W.Frag) (H0 H : Hp) (d cs rs : Addr) (n : Int) (ra ca : Addr) (f : Wy) (tl : List Wy) (b place : Int) (cl : List (Int × Int)) : Prop where
  kp : Kp [d, rs] H0 H
  dk : Deck2 H d cs rs n
  rows : ∃ xs, H ra = some (.lst xs) ∧ WyAll K H xs (f :: tl)
  came : ∃ zs, H ca = some (.lst zs) ∧ PrAll K H zs cl
  nr : H0 ra = none
  nc : H0 ca = none
  nra : ra ≠ d ∧ ra ≠ cs ∧ ra ≠ rs
  nca : ca ≠ d ∧ ca ≠ cs ∧ ca ≠ rs
  ne : ra ≠ ca
  mw : Mw f tl b place
  cb : ∀ p ∈ cl, 0 ≤ p.1 ∧ p.1 ≤ 100 ∧ 0 ≤ p.2 ∧ p.2 < 4
section
variable {K : PySem.W.Frag} {H0 H H' : Hp} {d cs rs ra ca : Addr} {n n' : Int} {f : Wy} {tl : List Wy} {b place : Int} {cl : List (Int × Int)}
theorem MS.draw (h : MS K H0 H d cs rs n ra ca f tl b place cl) (k : Kp [d, rs] H H') (t : TK H H') (D : Deck2 H' d cs rs n') : MS K H0 H' d cs rs n' ra ca f tl b place cl :=
  ⟨Kp.trans h.kp k, D, let ⟨xs, e, w⟩ := h.rows; ⟨xs, k _ _ (nin2 h.nra.1 h.nra.2.2) e, w.tk t⟩, let ⟨zs, e, w⟩ := h.came; ⟨zs, k _ _ (nin2 h.nca.1 h.nca.2.2) e, w.tk t⟩, h.nr, h.nc, h.nra, h.nca, h.ne, h.mw, h.cb⟩
theorem MS.same (h : MS K H0 H d cs rs n ra ca f tl b place cl) (s : Same H H') : MS K H0 H' d cs rs n ra ca f tl b place cl := h.draw (Kp.of s) (TK.of s) (h.dk.same s)
theorem MS.mono (h : MS K H0 H d cs rs n ra ca f tl b place cl) (hn : n ≤ n') : MS K H0 H d cs rs n' ra ca f tl b place cl := ⟨h.kp, h.dk.mono hn, h.rows, h.came, h.nr, h.nc, h.nra, h.nca, h.ne, h.mw, h.cb⟩
theorem tk_upd {ys zs : List V} {p : Addr} (e : H p = some (.lst ys)) : TK H (upd H p (.lst zs)) := by
  obtain ⟨H1, e1, _, t, _⟩ := wr_any (o := .lst zs) e rfl
  rw [← e1]
  exact t
theorem MS.addC (h : MS K H0 H d cs rs n ra ca f tl b place cl) {zs : List V} (e : H ca = some (.lst zs)) {t : Addr} {p : Int × Int} (ht : SqT K H t [.int p.1, .int p.2]) (w : PrAll K H zs cl) (hp : 0 ≤ p.1 ∧ p.1 ≤ 100 ∧ 0 ≤ p.2 ∧ p.2 < 4) :
    MS K H0 (upd H ca (.lst (zs ++ [.ref t]))) d cs rs n ra ca f tl b place (cl ++ [p]) := by
  have tk := tk_upd (zs := zs ++ [V.ref t]) e
  have k : Kp [ca] H (upd H ca (.lst (zs ++ [.ref t]))) := (Kp.refl _ _).wr List.mem_cons_self
  obtain ⟨n1, n2, n3⟩ := h.nca
  refine ⟨fun c o hc e2 => ?_, h.dk.kp k (nin1 n1.symm) (nin1 n2.symm) (nin1 n3.symm), ?_, ⟨_, upd_same, (w.tk tk).snoc (SqT.tk ht tk)⟩, h.nr, h.nc, h.nra, h.nca, h.ne, h.mw, fun x => mem_snoc h.cb hp⟩
  · rw [upd_ne (ne_of_none e2 h.nc).symm.symm]
    exact h.kp c o hc e2
  · obtain ⟨xs, e1, w1⟩ := h.rows
    exact ⟨xs, (upd_ne h.ne).trans e1, w1.tk tk⟩
theorem MS.addR (h : MS K H0 H d cs rs n ra ca f tl b place cl) {xs : List V} (e : H ra = some (.lst xs)) {t : Addr} {r : Wy} (ht : SqT K H t r.v) (w : WyAll K H xs (f :: tl)) {b' : Int} (m : Mw f (tl ++ [r]) b' place) :
    MS K H0 (upd H ra (.lst (xs ++ [.ref t]))) d cs rs n ra ca f (tl ++ [r]) b' place cl := by
  have tk := tk_upd (zs := xs ++ [V.ref t]) e
  have k : Kp [ra] H (upd H ra (.lst (xs ++ [.ref t]))) := (Kp.refl _ _).wr List.mem_cons_self
  obtain ⟨n1, n2, n3⟩ := h.nra
  refine ⟨fun c o hc e2 => ?_, h.dk.kp k (nin1 n1.symm) (nin1 n2.symm) (nin1 n3.symm), ⟨_, upd_same, (w.tk tk).snoc (SqT.tk ht tk)⟩, ?_, h.nr, h.nc, h.nra, h.nca, h.ne, m, h.cb⟩
  · rw [upd_ne (ne_of_none e2 h.nr).symm.symm]
    exact h.kp c o hc e2
  · obtain ⟨zs, e1, w1⟩ := h.came
    exact ⟨zs, (upd_ne h.ne.symm).trans e1, w1.tk tk⟩
end
theorem fm_len (tl : List Wy) : (tl.filterMap Wy.wr).length ≤ tl.length := List.length_filterMap_le _ _
theorem Mw.wrap {f : Wy} {tl : List Wy} {b b' place room snd num beat : Int} {o : Option Int} {tx : Str} (ef : Wy.sent beat room snd num o tx = f) (h : Mw f tl b place) (hb : b ≤ b') {k : Str} {ot p q c : Int} (hk : kindB k = true) (hp : isFk k = false → p = place) (hl : isFk k = true → ledOn (tl.filterMap Wy.wr) (p, q, c, true) = true) (hc : 0 ≤ c ∧ c < 4) (ht : 0 ≤ ot ∧ ot ≤ 100) (hq : 0 ≤ q ∧ q ≤ 100) (hp2 : 0 ≤ p ∧ p ≤ 100) (hb2 : b' ≤ 900)
    (sk : Fe (.str k)) : Mw f (tl ++ [.wrap b' room k snd ot num p q c]) b' place := by
  subst ef
  obtain ⟨g1, g2, g3, g4, _⟩ := h.okf
  have hbt : 0 ≤ b' := Int.le_trans g1 (Int.le_trans h.lf hb)
  have gf := h.gf
  have gs : ∀ i ∈ [room, snd, num], Fe (.int i) := fun i hi => by
    have all := gf
    simp only [List.mem_cons, List.not_mem_nil, or_false] at hi
    rcases hi with rfl | rfl | rfl
    · exact all _ (List.mem_cons_of_mem _ (List.mem_cons_of_mem _ List.mem_cons_self))
    · exact all _ (List.mem_cons_of_mem _ (List.mem_cons_of_mem _ (List.mem_cons_of_mem _ List.mem_cons_self)))
    · exact all _ (List.mem_cons_of_mem _ (List.mem_cons_of_mem _ (List.mem_cons_of_mem _ (List.mem_cons_of_mem _ List.mem_cons_self))))
  refine h.snoc (r := .wrap b' room k snd ot num p q c) hb rfl rfl rfl (fun v e hv => ?_) (fun v e => ?_) ⟨hbt, g2, g3, ht.1, g4, hp2.1, hq.1, hc.1⟩ hk ?_
  · cases e
    exact hp hv
  · cases e
    unfold ledStep
    rw [decide_eq_true hc.2, Bool.true_and]
    show (!isFk k || ledOn _ (p, q, c, isFk k)) = true
    cases ek : isFk k with
    | false => rfl
    | true => exact hl ek
  · exact gqc (show Fe (.str "wrapped") by decide +kernel) (gqc (gqi hbt (by omega)) (gqc (gs _ (by simp)) (gqc sk (gqc (gs _ (by simp)) (gqc (gqi ht.1 (by omega)) (gqc (gs _ (by simp)) (gqc (gqi hp2.1 (by omega)) (gqc (gqi hq.1 (by omega)) (gqc (gqi hc.1 (by omega)) nilP)))))))))
theorem Mw.hear {f : Wy} {tl : List Wy} {b b' place room snd num beat : Int} {o : Option Int} {tx : Str} (ef : Wy.sent beat room snd num o tx = f) (h : Mw f tl b place) (hb : b ≤ b') {hd : Int} (h1 : 0 ≤ hd ∧ hd ≤ 1000) (h2 : o = some hd ∨ o = none ∧ hd ≠ snd) (hb2 : b' ≤ 900) : Mw f (tl ++ [.heard b' room hd snd num tx]) b' place := by
  subst ef
  obtain ⟨g1, g2, g3, g4, _⟩ := h.okf
  have hbt : 0 ≤ b' := Int.le_trans g1 (Int.le_trans h.lf hb)
  have all := h.gf
  have m1 : Fe (.int room) := all _ (List.mem_cons_of_mem _ (List.mem_cons_of_mem _ List.mem_cons_self))
  have m2 : Fe (.int snd) := all _ (List.mem_cons_of_mem _ (List.mem_cons_of_mem _ (List.mem_cons_of_mem _ List.mem_cons_self)))
  have m3 : Fe (.int num) := all _ (List.mem_cons_of_mem _ (List.mem_cons_of_mem _ (List.mem_cons_of_mem _ (List.mem_cons_of_mem _ List.mem_cons_self))))
  have m4 : Fe (.str tx) := all _ (List.mem_cons_of_mem _ (List.mem_cons_of_mem _ (List.mem_cons_of_mem _ (List.mem_cons_of_mem _ (List.mem_cons_of_mem _ (List.mem_cons_of_mem _ List.mem_cons_self))))))
  refine h.snoc (r := .heard b' room hd snd num tx) hb rfl rfl ?_ (fun v e => by cases e) (fun v e => by cases e) ⟨hbt, g2, h1.1, g3, g4⟩ rfl ?_
  · show (decide (tx = tx) && (decide (oV o = V.int hd) || decide (o = none) && decide (hd ≠ snd))) = true
    rw [decide_eq_true rfl, Bool.true_and]
    rcases h2 with rfl | ⟨rfl, z⟩
    · rw [decide_eq_true (show oV (some hd) = V.int hd from rfl), Bool.true_or]
    · rw [decide_eq_true z, decide_eq_true rfl, Bool.true_and, Bool.or_true]
  · exact gqc (show Fe (.str "heard") by decide +kernel) (gqc (gqi hbt (by omega)) (gqc m1 (gqc (gqi h1.1 h1.2) (gqc m2 (gqc m3 (gqc m4 nilP))))))
theorem Mw.drop {f : Wy} {tl : List Wy} {b b' place room snd num beat : Int} {o : Option Int} {tx : Str} (ef : Wy.sent beat room snd num o tx = f) (h : Mw f tl b place) (hb : b ≤ b') {y k : Str} (hy : Fe (.str y)) (hk : kindB k = true) (sk : Fe (.str k)) (hb2 : b' ≤ 900) : Mw f (tl ++ [.drop b' y room k snd num]) b' place := by
  subst ef
  obtain ⟨g1, g2, g3, g4, _⟩ := h.okf
  have hbt : 0 ≤ b' := Int.le_trans g1 (Int.le_trans h.lf hb)
  have all := h.gf
  have m1 : Fe (.int room) := all _ (List.mem_cons_of_mem _ (List.mem_cons_of_mem _ List.mem_cons_self))
  have m2 : Fe (.int snd) := all _ (List.mem_cons_of_mem _ (List.mem_cons_of_mem _ (List.mem_cons_of_mem _ List.mem_cons_self)))
  have m3 : Fe (.int num) := all _ (List.mem_cons_of_mem _ (List.mem_cons_of_mem _ (List.mem_cons_of_mem _ (List.mem_cons_of_mem _ List.mem_cons_self))))
  refine h.snoc (r := .drop b' y room k snd num) hb rfl rfl rfl (fun v e => by cases e) (fun v e => by cases e) ⟨hbt, g2, g3, g4⟩ hk ?_
  exact gqc (show Fe (.str "dropped") by decide +kernel) (gqc (gqi hbt (by omega)) (gqc hy (gqc m1 (gqc sk (gqc m2 (gqc m3 nilP))))))
theorem Mw.pass {f : Wy} {tl : List Wy} {b b' place room snd num beat : Int} {o : Option Int} {tx : Str} (ef : Wy.sent beat room snd num o tx = f) (h : Mw f tl b place) (hb : b ≤ b') {g x y z : Int} (hg : 0 ≤ g ∧ g ≤ 1000) (hx : 0 ≤ x ∧ x ≤ 1000) (hy : 0 ≤ y ∧ y ≤ 1000) (hz : 0 ≤ z ∧ z ≤ 1000) (hb2 : b' ≤ 900) : Mw f (tl ++ [.pass b' g room snd num x y z]) b' place := by
  subst ef
  obtain ⟨g1, g2, g3, g4, _⟩ := h.okf
  have hbt : 0 ≤ b' := Int.le_trans g1 (Int.le_trans h.lf hb)
  have all := h.gf
  have m1 : Fe (.int room) := all _ (List.mem_cons_of_mem _ (List.mem_cons_of_mem _ List.mem_cons_self))
  have m2 : Fe (.int snd) := all _ (List.mem_cons_of_mem _ (List.mem_cons_of_mem _ (List.mem_cons_of_mem _ List.mem_cons_self)))
  have m3 : Fe (.int num) := all _ (List.mem_cons_of_mem _ (List.mem_cons_of_mem _ (List.mem_cons_of_mem _ (List.mem_cons_of_mem _ List.mem_cons_self))))
  refine h.snoc (r := .pass b' g room snd num x y z) hb rfl rfl rfl (fun v e => by cases e) (fun v e => by cases e) ⟨hbt, hg.1, g2, g3, g4, hx.1, hy.1, hz.1⟩ rfl ?_
  exact gqc (show Fe (.str "passed") by decide +kernel) (gqc (gqi hbt (by omega)) (gqc (gqi hg.1 hg.2) (gqc m1 (gqc m2 (gqc m3 (gqc (gqi hx.1 hx.2) (gqc (gqi hy.1 hy.2) (gqc (gqi hz.1 hz.2) nilP))))))))
theorem twoH {A : Hp → Prop} {Y : Hp → Prop} {G : Prop} (h1 : (∀ H, A H → Y H) → G) (h2 : ∀ H, A H → Y H) : G := h1 h2
theorem ledOn_of {ws : List Wp} {p q c : Int} {b : Bool} {cl : List (Int × Int)} (e : cl = ws.map fun w => (w.2.1, w.2.2.1)) {pr : Int × Int} (h : pr ∈ cl) (h1 : pr.1 = p) (h2 : c < pr.2) : ledOn ws (p, q, c, b) = true := by
  subst e
  obtain ⟨w, hw, rfl⟩ := List.mem_map.mp h
  unfold ledOn
  rw [List.any_eq_true]
  exact ⟨w, hw, by rw [Bool.and_eq_true, decide_eq_true_eq, decide_eq_true_eq]; exact ⟨h1, h2⟩⟩
def spMade (K : PySem.W.Frag) : Sp := fun vs H Q _ => ∃ (d cs rs : Addr) (n : Int), vs = [.ref d] ∧ Deck2 H d cs rs n ∧ n < 2 ^ 50 ∧
  ∀ (H' : Hp) (a : Addr) (xs : List V) (f : Wy) (tl : List Wy) (b place : Int), Kp [d, rs] H H' → Deck2 H' d cs rs (n + 200) → SqT K H' a xs → WyAll K H' xs (f :: tl) → Mw f tl b place → tl.length ≤ 13 → Q (.ref a) H'

section
variable {P : Program} {w : World} {K : PySem.W.Frag} {mg : Str → Option Value} {base : Heap}
theorem scMade : FnScope ["_law_deck_here", "_law_room", "_law_sender", "_law_number", "_law_beat", "_law_place", "_law_hearer", "_law_text", "_law_count", "_law_rows", "_law_kind", "_law_came", "_law_k", "_law_there", "_law_other", "_law_way", "_law_on", "_law_spot", "_law_much", "_law_hand", "_law_why", "_law_one_here"] ["_law_deck_here"] (defScope sMade) := ⟨rfl, rfl, rfl, by decide +kernel, rfl, by decide +kernel, by decide +kernel⟩
theorem ok_made {f : Addr} {fd : FuncData} (F : Fun K "_law_made" "_law_made" sMade f fd) (B : KBw mg) (cN : Cd P w K mg base 1 "_law_draw" ["_law_deck_here", "_law_many"] spDraw) (cO : Cd P w K mg base 2 "_law_one" ["_law_deck_here", "_law_some"] (spOneL K)) : FnOk P w K mg base CX0 3 f fd ["_law_deck_here"] (spMade K) := by
  obtain ⟨fN, fdN, GN, mN, kN, bN⟩ := cN.tk
  obtain ⟨fO, fdO, GO, mO, kO, bO⟩ := cO.tk
  refine F.ok scMade (fun vs H Q E h => ?_) (fun cdv A outer s H vs Q E hr h => ?_)
  · obtain ⟨d, cs, rs, n, rfl, _⟩ := h
    rfl
  · obtain ⟨d, cs, rs, n, rfl, D0, hn, k⟩ := h
    have hr1 : Room 1 _ := hr.mono (by decide)
    have hr2 : Room 2 _ := hr.mono (by decide)
    refine ⟨_, (pss_cons (ps_par3 (i := 1) (j := 2) (l := 3) (by rfl) scMade.nd rfl rfl rfl (by decide) (by decide) (by decide) rfl rfl rfl (pa_cons (pe_call GN hr1 rfl mN kN bN .nil pass0 (pa_cons (pv 0) (pa_cons pe_int pa_nil))) (pa_cons (pe_call GN hr1 rfl mN kN bN .nil pass0 (pa_cons (pv 0) (pa_cons pe_int pa_nil))) (pa_cons (pe_call GN hr1 rfl mN kN bN .nil pass0 (pa_cons (pv 0) (pa_cons pe_int pa_nil))) pa_nil))) (by rfl))
       (pss_cons (ps_par (i := 4) (j := 5) (by rfl) scMade.nd rfl rfl (by decide) rfl rfl (pa_cons (pe_call GN hr1 rfl mN kN bN .nil pass0 (pa_cons (pv 0) (pa_cons pe_int pa_nil))) (pa_cons (pe_call GN hr1 rfl mN kN bN .nil pass0 (pa_cons (pv 0) (pa_cons pe_int pa_nil))) pa_nil)) (by rfl))
       (pss_cons (ps_set (i := 6) scMade.nd rfl (Or.inl rfl) (pe_call GO hr2 rfl mO kO bO .nil pass0 (pa_cons (pv 0) (pa_cons (pe_lst (pa_cons pe_non (pa_cons (pe_call GN hr1 rfl mN kN bN .nil pass0 (pa_cons (pv 0) (pa_cons pe_int pa_nil))) pa_nil))) pa_nil))))
       (pss_cons (ps_set (i := 7) scMade.nd rfl (Or.inl rfl) (pe_call GO hr2 rfl mO kO bO .nil pass0 (pa_cons (pv 0) (pa_cons (pe_lst (pa_cons pe_str (pa_cons pe_str (pa_cons pe_str pa_nil)))) pa_nil))))
       (pss_cons (ps_set (i := 8) scMade.nd rfl (Or.inl rfl) (pe_call GN hr1 rfl mN kN bN .nil pass0 (pa_cons (pv 0) (pa_cons pe_int pa_nil))))
       (pss_cons (ps_set (i := 9) scMade.nd rfl (Or.inl rfl) (pe_lst (pa_cons (pe_tup (pa_cons pe_str (pa_cons (pv 4) (pa_cons (pv 1) (pa_cons (pv 2) (pa_cons (pv 3) (pa_cons (pv 6) (pa_cons (pv 7) pa_nil)))))))) pa_nil)))
       (pss_cons (ps_set (i := 10) scMade.nd rfl (Or.inl rfl) (pe_ix (ixL (K := K) rfl) (pe_lst (pa_cons pe_str (pa_cons (pe_call GO hr2 rfl mO kO bO .nil pass0 (pa_cons (pv 0) (pa_cons (pe_lst (pa_cons pe_str (pa_cons pe_str pa_nil))) pa_nil))) pa_nil))) (pe_callTy call_int1 (by rfl) B.int PyProof.Rows.boot_int (pa_cons (pe_cmp (pc_notN (pv 6)) rfl) pa_nil)) (fun _ _ => rfl)))
       (pss_cons (ps_set (i := 11) scMade.nd rfl (Or.inl rfl) (pe_lst pa_nil))
       (pss_cons (ps_for PassesOwn.never rfl (pi_range1 rfl B.range (pa_cons (pe_call GN hr1 rfl mN kN bN .nil pass0 (pa_cons (pv 0) (pa_cons pe_int pa_nil))) pa_nil)) (pg_name (i := 12) scMade.nd rfl (Or.inl rfl))
       (pss_cons (ps_set (i := 13) scMade.nd rfl (Or.inl rfl) (pe_call GN hr1 rfl mN kN bN .nil pass0 (pa_cons (pv 0) (pa_cons pe_int pa_nil))))
       (pss_cons (ps_expr (pe_bm PySem.F.plainAttrs_list PySem.F.slot_list_append PySem.F.type_list_append mt_append (pv 11) (pa_cons (pe_tup (pa_cons (pv 13) (pa_cons (pv 8) pa_nil))) pa_nil)))
       (pss_cons (ps_set (i := 14) scMade.nd rfl (Or.inl rfl) (pe_call GN hr1 rfl mN kN bN .nil pass0 (pa_cons (pv 0) (pa_cons pe_int pa_nil))))
       (pss_one (ps_expr (pe_bm PySem.F.plainAttrs_list PySem.F.slot_list_append PySem.F.type_list_append mt_append (pv 9) (pa_cons (pe_tup (pa_cons pe_str (pa_cons (pv 4) (pa_cons (pv 1) (pa_cons (pv 10) (pa_cons (pv 2) (pa_cons (pv 14) (pa_cons (pv 3) (pa_cons (pv 5) (pa_cons (pv 13) (pa_cons (pv 8) pa_nil))))))))))) pa_nil))))))))
       (pss_cons (ps_for PassesOwn.never rfl (pi_range1 rfl B.range (pa_cons (pe_call GN hr1 rfl mN kN bN .nil pass0 (pa_cons (pv 0) (pa_cons pe_int pa_nil))) pa_nil)) (pg_name (i := 12) scMade.nd rfl (Or.inl rfl))
       (pss_cons (ps_set (i := 4) scMade.nd rfl (Or.inl rfl) (pe_op op_add (pv 4) (pe_call GN hr1 rfl mN kN bN .nil pass0 (pa_cons (pv 0) (pa_cons pe_int pa_nil)))))
       (pss_cons (ps_set (i := 15) scMade.nd rfl (Or.inl rfl) (pe_call GN hr1 rfl mN kN bN .nil pass0 (pa_cons (pv 0) (pa_cons pe_int pa_nil))))
       (pss_cons (ps_setLc (i := 16) (own := [("_law_one_here", 21)]) (g := (gName 21)) (tt := _) rfl scMade.nd rfl rfl (sw_true rfl rfl rfl (by decide +kernel)) (pi_list (pv 11)) (blkOk_by (N := ["_law_deck_here", "_law_room", "_law_sender", "_law_number", "_law_beat", "_law_place", "_law_hearer", "_law_text", "_law_count", "_law_rows", "_law_kind", "_law_came", "_law_k", "_law_there", "_law_other", "_law_way", "_law_on", "_law_spot", "_law_much", "_law_hand", "_law_why", "_law_one_here"]) (sc := defScope sMade) (by decide +kernel))
       (fun _ _ _ _ _ => (pg_name (i := 21) scMade.nd rfl (Or.inl rfl))) (fun _ _ _ _ _ => (pts_one (pt_cmpR op_gt (pe_ix (ixT (K := K) rfl) (pv 21) pe_int (fun _ _ => rfl)) pe_int (nomark _)))) (fun _ _ _ _ _ => (pv 21)))
       (pss_one (ps_if (PW.pt (pw_and (pt_cmpR op_lt (pv 15) pe_int (nomark _)) (pw_and1 (pt_cmpR (op_neL0K (K := K) rfl (show _ < cLine from Nat.lt_of_le_of_lt (Nat.le_add_right _ 65) (room65 hr))) (pv 16) (pe_lst pa_nil) (nomark _)))))
       (pss_cons (ps_asg (pe_call GO hr2 rfl mO kO bO .nil pass0 (pa_cons (pv 0) (pa_cons (pv 16) pa_nil))) (pg_tup rfl (pgs_cons (pg_name (i := 17) scMade.nd rfl (Or.inl rfl)) (pgs_cons (pg_name (i := 18) scMade.nd rfl (Or.inl rfl)) pgs_nil))))
       (pss_cons (ps_expr (pe_bm PySem.F.plainAttrs_list PySem.F.slot_list_append PySem.F.type_list_append mt_append (pv 11) (pa_cons (pe_tup (pa_cons (pe_call GN hr1 rfl mN kN bN .nil pass0 (pa_cons (pv 0) (pa_cons pe_int pa_nil))) (pa_cons (pe_call GN hr1 rfl mN kN bN .nil pass0 (pa_cons (pv 0) (pa_cons (pv 18) pa_nil))) pa_nil))) pa_nil)))
       (pss_cons (ps_set (i := 14) scMade.nd rfl (Or.inl rfl) (pe_call GN hr1 rfl mN kN bN .nil pass0 (pa_cons (pv 0) (pa_cons pe_int pa_nil))))
       (pss_one (ps_expr (pe_bm PySem.F.plainAttrs_list PySem.F.slot_list_append PySem.F.type_list_append mt_append (pv 9) (pa_cons (pe_op (opCatA (K := K) rfl) (pe_tup (pa_cons pe_str (pa_cons (pv 4) (pa_cons (pv 1) (pa_cons pe_str (pa_cons (pv 2) (pa_cons (pv 14) (pa_cons (pv 3) (pa_cons (pv 17) pa_nil))))))))) (pe_ix (ixL (K := K) rfl) (pv 11) (pe_un un_neg pe_int) (fun _ _ => rfl))) pa_nil)))))))
       (pss_one (ps_if (pt_cmpR op_eq (pv 15) pe_int (nomark _))
       (pss_cons (ps_set (i := 19) scMade.nd rfl (Or.inl rfl) (pe_op op_mod (pe_op op_add (pe_op op_add (pv 2) pe_int) (pe_call GN hr1 rfl mN kN bN .nil pass0 (pa_cons (pv 0) (pa_cons pe_int pa_nil)))) pe_int))
       (pss_cons (ps_if (pt_cmp (pc_notN (pv 6)))
       (pss_one (ps_set (i := 19) scMade.nd rfl (Or.inl rfl) (pv 6)))
       pss_nil)
       (pss_one (ps_expr (pe_bm PySem.F.plainAttrs_list PySem.F.slot_list_append PySem.F.type_list_append mt_append (pv 9) (pa_cons (pe_tup (pa_cons pe_str (pa_cons (pv 4) (pa_cons (pv 1) (pa_cons (pv 19) (pa_cons (pv 2) (pa_cons (pv 3) (pa_cons (pv 7) pa_nil)))))))) pa_nil))))))
       (pss_one (ps_if (pt_cmpR op_eq (pv 15) pe_int (nomark _))
       (pss_cons (ps_set (i := 20) scMade.nd rfl (Or.inl rfl) (pe_call GO hr2 rfl mO kO bO .nil pass0 (pa_cons (pv 0) (pa_cons (pe_lst (pa_cons pe_str (pa_cons pe_str pa_nil))) pa_nil))))
       (pss_one (ps_expr (pe_bm PySem.F.plainAttrs_list PySem.F.slot_list_append PySem.F.type_list_append mt_append (pv 9) (pa_cons (pe_tup (pa_cons pe_str (pa_cons (pv 4) (pa_cons (pv 20) (pa_cons (pv 1) (pa_cons (pe_ix ix_str pe_str (pe_call GN hr1 rfl mN kN bN .nil pass0 (pa_cons (pv 0) (pa_cons pe_int pa_nil))) (fun _ _ => rfl)) (pa_cons (pv 2) (pa_cons (pv 3) pa_nil)))))))) pa_nil)))))
       (pss_one (ps_expr (pe_bm PySem.F.plainAttrs_list PySem.F.slot_list_append PySem.F.type_list_append mt_append (pv 9) (pa_cons (pe_tup (pa_cons pe_str (pa_cons (pv 4) (pa_cons (pe_call GN hr1 rfl mN kN bN .nil pass0 (pa_cons (pv 0) (pa_cons pe_int pa_nil))) (pa_cons (pv 1) (pa_cons (pv 2) (pa_cons (pv 3) (pa_cons (pe_call GN hr1 rfl mN kN bN .nil pass0 (pa_cons (pv 0) (pa_cons pe_int pa_nil))) (pa_cons pe_int (pa_cons pe_int pa_nil)))))))))) pa_nil))))))))))))))
       (pss_one (ps_ret (pe_callTy (tupOfK (K := K) rfl) (by rfl) B.tuple PyProof.Rows.boot_tuple (pa_cons (pv 9) pa_nil)))))))))))))), ?_⟩
    refine ⟨_, rfl, d, cs, rs, 6, _, rfl, by decide, by decide, by omega, D0, fun room H1 room0 room1 k1 D1 t1 => ?_⟩
    refine ⟨_, rfl, d, cs, rs, 16, _, rfl, by decide, by decide, by omega, D1, fun snd H2 snd0 snd1 k2 D2 t2 => ?_⟩
    refine ⟨_, rfl, d, cs, rs, 30, _, rfl, by decide, by decide, by omega, D2, fun num H3 num0 num1 k3 D3 t3 => ?_⟩
    refine ⟨_, _, _, rfl, ?_⟩
    dsimp only [gName, List.set, tNext, L2.start]
    refine ⟨_, rfl, d, cs, rs, 9, _, rfl, by decide, by decide, by omega, D3, fun beat H4 beat0 beat1 k4 D4 t4 => ?_⟩
    refine ⟨_, rfl, d, cs, rs, 8, _, rfl, by decide, by decide, by omega, D4, fun place H5 place0 place1 k5 D5 t5 => ?_⟩
    refine ⟨_, _, rfl, ?_⟩
    dsimp only [gName, List.set, tNext, L2.start]
    refine ⟨_, rfl, _, rfl, d, cs, rs, 16, _, rfl, by decide, by decide, by omega, D5, fun hv H6 hv0 hv1 k6 D6 t6 => ?_⟩
    refine ⟨(by show 2 ≤ sizeLine; decide), fun l7 n_l7 => ?_⟩
    obtain ⟨H7, e_H7, s7, r7⟩ := new_any n_l7
    rw [← e_H7]
    clear e_H7
    have D7 := D6.same s7
    have n7 := D6.new n_l7
    refine ⟨d, cs, rs, l7, _, _, rfl, SqL.of r7, n7.1, n7.2.2, Nat.le_of_ble_eq_true rfl, Nat.le_of_ble_eq_true rfl, by omega, D7, fun j8 hx H8 e8 k8 D8 t8 => ?_⟩
    obtain ⟨o, rfl, oo, o16⟩ : ∃ o, hx = oV o ∧ oOk o ∧ ∀ i, o = some i → i ≤ 1000 := by
      rcases j8 with _ | _ | j
      · cases e8
        exact ⟨none, rfl, trivial, fun i h => by cases h⟩
      · cases e8
        exact ⟨some hv, rfl, hv0, fun i h => by cases h; omega⟩
      · cases e8
    dsimp only [gName, List.set, tNext, L2.start]
    refine ⟨_, rfl, (by show 3 ≤ sizeLine; decide), fun l9 n_l9 => ?_⟩
    obtain ⟨H9, e_H9, s9, r9⟩ := new_any n_l9
    rw [← e_H9]
    clear e_H9
    have D9 := D8.same s9
    have n9 := D8.new n_l9
    refine ⟨d, cs, rs, l9, _, _, rfl, SqL.of r9, n9.1, n9.2.2, Nat.le_of_ble_eq_true rfl, Nat.le_of_ble_eq_true rfl, by omega, D9, fun j10 hx H10 e10 k10 D10 t10 => ?_⟩
    obtain ⟨tx, rfl, tok⟩ : ∃ tx : Str, hx = .str tx ∧ Fe (.str tx) := by
      rcases j10 with _ | _ | _ | j
      · cases e10
        exact ⟨_, rfl, by decide +kernel⟩
      · cases e10
        exact ⟨_, rfl, by decide +kernel⟩
      · cases e10
        exact ⟨_, rfl, by decide +kernel⟩
      · cases e10
    dsimp only [gName, List.set, tNext, L2.start]
    refine ⟨_, rfl, d, cs, rs, 4, _, rfl, by decide, by decide, by omega, D10, fun cnt H11 cnt0 cnt1 k11 D11 t11 => ?_⟩
    dsimp only [gName, List.set, tNext, L2.start]
    refine ⟨_, rfl, _, rfl, _, rfl, _, rfl, _, rfl, _, rfl, (by show 7 ≤ sizeLine; decide), fun fa n_fa => ?_⟩
    obtain ⟨H12, e_H12, s12, r12⟩ := new_any n_fa
    rw [← e_H12]
    clear e_H12
    refine ⟨(by show 1 ≤ sizeLine; decide), fun ra n_ra => ?_⟩
    obtain ⟨H13, e_H13, s13, r13⟩ := new_any n_ra
    rw [← e_H13]
    clear e_H13
    have D12 := D11.same s12
    have D13 := D12.same s13
    have nra := D12.new n_ra
    dsimp only [gName, List.set, tNext, L2.start]
    refine ⟨_, rfl, (by show 2 ≤ sizeLine; decide), fun l14 n_l14 => ?_⟩
    obtain ⟨H14, e_H14, s14, r14⟩ := new_any n_l14
    rw [← e_H14]
    clear e_H14
    have D14 := D13.same s14
    have n14 := D13.new n_l14
    refine ⟨d, cs, rs, l14, _, _, rfl, SqL.of r14, n14.1, n14.2.2, Nat.le_of_ble_eq_true rfl, Nat.le_of_ble_eq_true rfl, by omega, D14, fun j15 kx H15 e15 k15 D15 t15 => ?_⟩
    obtain ⟨kd, rfl, kd1⟩ : ∃ kd : Str, kx = .str kd ∧ (kd = ("l" : Str) ∨ kd = ("u" : Str)) := by
      rcases j15 with _ | _ | j
      · cases e15
        exact ⟨_, rfl, .inl rfl⟩
      · cases e15
        exact ⟨_, rfl, .inr rfl⟩
      · cases e15
    refine ⟨(by show 2 ≤ sizeLine; decide), fun l16 n_l16 => ?_⟩
    obtain ⟨H16, e_H16, s16, r16⟩ := new_any n_l16
    rw [← e_H16]
    clear e_H16
    have D16 := D15.same s16
    obtain ⟨kind, ak, kk1, kk2, kk3⟩ : ∃ kind : Str, atI [V.str "a", V.str kd] (if (!decide (oV o = V.non)) = true then 1 else 0) = some (.str kind) ∧ kindB kind = true ∧ isFk kind = false ∧ Fe (.str kind) := by
      cases o with
      | none => exact ⟨"a", rfl, by decide +kernel, by decide +kernel, by decide +kernel⟩
      | some i =>
        rcases kd1 with rfl | rfl
        · exact ⟨"l", rfl, by decide +kernel, by decide +kernel, by decide +kernel⟩
        · exact ⟨"u", rfl, by decide +kernel, by decide +kernel, by decide +kernel⟩
    refine ⟨_, rfl, .inr ⟨_, rfl, l16, _, _, _, rfl, rfl, SqL.of r16, ak, ?_⟩⟩
    dsimp only [gName, List.set, tNext, L2.start]
    refine ⟨(by show 0 ≤ sizeLine; decide), fun ca n_ca => ?_⟩
    obtain ⟨H17, e_H17, s17, r17⟩ := new_any n_ca
    rw [← e_H17]
    clear e_H17
    have D17 := D16.same s17
    dsimp only [gName, List.set, tNext, L2.start]
    refine ⟨_, rfl, d, cs, rs, 5, _, rfl, by decide, by decide, by omega, D17, fun q1 H18 q10 q11 k18 D18 t18 => ?_⟩
    refine ⟨q1, rfl, by omega, by omega, ?_⟩
    have s16' := s14
    -- the state
    have nra13 : ra ≠ d ∧ ra ≠ cs ∧ ra ≠ rs := nra
    have nca : ca ≠ d ∧ ca ≠ cs ∧ ca ≠ rs := D16.new n_ca
    have k013 : Kp [d, rs] H H13 := Kp.trans k1 (Kp.trans k2 (Kp.trans k3 (Kp.trans k4 (Kp.trans k5 (Kp.trans k6 (Kp.trans (Kp.of s7) (Kp.trans k8 (Kp.trans (Kp.of s9) (Kp.trans k10 (Kp.trans k11 (Kp.of (s12.trans s13))))))))))))
    have k1318 : Kp [d, rs] H13 H18 := Kp.trans (Kp.of s14) (Kp.trans k15 (Kp.trans (Kp.of (s16.trans s17)) k18))
    have nrs : ∀ {p : Addr}, p ≠ d → p ≠ rs → p ∉ [d, rs] := fun a b => nin2 a b
    have back : ∀ {G G' : Hp} {p : Addr}, Kp [d, rs] G G' → p ∉ [d, rs] → G' p = none → G p = none := fun {G G' p} kk np hp => by
      cases e : G p with
      | none => rfl
      | some o =>
        rw [kk _ _ np e] at hp
        cases hp
    have m0 : Mw (.sent beat room snd num o tx) [] beat place := by
      refine ⟨rfl, nilP, nilP, rfl, Int.le_refl _, nilP, nilP, nilP, rfl, ⟨beat0, room0, snd0, num0, oo⟩, nilP, nilP, ?_, nilP⟩
      exact gqc (show Fe (.str "sent") by decide +kernel) (gqc (gqi beat0 (by omega)) (gqc (gqi room0 (by omega)) (gqc (gqi snd0 (by omega)) (gqc (gqi num0 (by omega)) (gqc (gqo oo o16) (gqc tok nilP))))))
    have nra2 := nrs nra13.1 nra13.2.2
    have ms0 : MS K H H18 d cs rs (n + 13) ra ca (.sent beat room snd num o tx) [] beat place [] := by
      have k017 : Kp [d, rs] H H16 := Kp.trans k013 (Kp.trans (Kp.of s14) (Kp.trans k15 (Kp.of s16)))
      have tk1318 : TK H13 H18 := (TK.of s14).trans (t15.trans ((TK.of (s16.trans s17)).trans t18))
      have k1318 : Kp [d, rs] H13 H18 := Kp.trans (Kp.of s14) (Kp.trans k15 (Kp.trans (Kp.of (s16.trans s17)) k18))
      have hra : H16 ra = some (.lst [V.ref fa]) := (Kp.trans (Kp.of s14) (Kp.trans k15 (Kp.of s16))) _ _ nra2 r13
      refine ⟨Kp.trans k013 k1318, D18.mono (by omega), ⟨_, k1318 _ _ nra2 r13, rfl, fun i r e => ?_⟩, ⟨_, k18 _ _ (nrs nca.1 nca.2.2) r17, rfl, fun i p e => (by cases e)⟩, back (Kp.trans k1 (Kp.trans k2 (Kp.trans k3 (Kp.trans k4 (Kp.trans k5 (Kp.trans k6 (Kp.trans (Kp.of s7) (Kp.trans k8 (Kp.trans (Kp.of s9) (Kp.trans k10 (Kp.trans k11 (Kp.of s12)))))))))))) nra2 n_ra, back k017 (nrs nca.1 nca.2.2) n_ca, nra, nca, fun e => ?_, m0, nilP⟩
      · rcases i with _ | i
        · cases e
          exact ⟨fa, rfl, SqT.tk (SqT.sm (SqT.of r12) s13) tk1318⟩
        · cases e
      · rw [e, n_ca] at hra
        cases hra
    generalize ef : Wy.sent beat room snd num o tx = f at ms0
    generalize eH : H18 = G at ms0
    clear eH
    have q1n : q1.toNat ≤ 4 := by omega
    refine for_range (lo := 0) (n := q1.toNat) (fun i σ H' => ∃ (tl : List Wy) (cl : List (Int × Int)) (v12 v13 v14 : Option V), σ = [some (.ref d), some (.int room), some (.int snd), some (.int num), some (.int beat), some (.int place), some (oV o), some (.str tx), some (.int cnt), some (.ref ra), some (.str kind), some (.ref ca), v12, v13, v14, none, none, none, none, none, none, none] ∧ MS K H H' d cs rs (n + 13 + 2 * i) ra ca f tl beat place cl ∧ cl = (tl.filterMap Wy.wr).map (fun w => (w.2.1, w.2.2.1)) ∧ tl.length = i) ⟨[], [], _, _, _, rfl, ms0.mono (by omega), rfl, rfl⟩ ?_ ?_
    · rintro i σ G0 hi ⟨tl, cl, v12, v13, v14, rfl, ms, cw, ltl⟩
      refine ⟨_, rfl, d, cs, rs, 8, _, rfl, by decide, by decide, by omega, ms.dk, fun there G1 th0 th1 k1' D1' t1' => ?_⟩
      have ms1 := ms.draw k1' t1' D1'
      dsimp only [gName, List.set, tNext]
      obtain ⟨zs, ez, wz⟩ := ms1.came
      have lzs : zs.length ≤ 5 := by
        rw [wz.1, cw, List.length_map]
        have := fm_len tl
        omega
      refine ⟨_, rfl, .inl ⟨rfl, _, SqL.of ez⟩, _, rfl, _, rfl, (by show 2 ≤ sizeLine; decide), fun p n_p => ?_⟩
      obtain ⟨G2, e_G2, s2', r2'⟩ := new_any n_p
      rw [← e_G2]
      clear e_G2
      refine ⟨ca, zs, _, rfl, rfl, s2' _ _ ez, Nat.lt_of_le_of_lt lzs (by decide), ?_⟩
      have ms3 := (ms1.same s2').addC (s2' _ _ ez) (p := (there, cnt)) (SqT.of r2') (wz.tk (TK.of s2')) ⟨th0, by omega, cnt0, by omega⟩
      generalize upd G2 ca (.lst (zs ++ [.ref p])) = G3 at ms3
      refine ⟨_, rfl, d, cs, rs, 16, _, rfl, by decide, by decide, by omega, ms3.dk, fun oth G4 ot0 ot1 k4' D4' t4' => ?_⟩
      have ms4 := ms3.draw k4' t4' D4'
      dsimp only [gName, List.set, tNext]
      obtain ⟨xs, ex, wx⟩ := ms4.rows
      have lxs : xs.length ≤ 6 := by
        rw [wx.1, List.length_cons]
        omega
      refine ⟨_, rfl, .inl ⟨rfl, _, SqL.of ex⟩, ?_⟩
      refine ⟨_, rfl, _, rfl, _, rfl, _, rfl, _, rfl, _, rfl, _, rfl, _, rfl, _, rfl, (by show 10 ≤ sizeLine; decide), fun q n_q => ?_⟩
      obtain ⟨G5, e_G5, s5', r5'⟩ := new_any n_q
      rw [← e_G5]
      clear e_G5
      refine ⟨ra, xs, _, rfl, rfl, s5' _ _ ex, Nat.lt_of_le_of_lt lxs (by decide), ?_⟩
      have mw' := ms4.mw.wrap ef (Int.le_refl _) (k := kind) (ot := oth) (p := place) (q := there) (c := cnt) kk1 (fun _ => rfl) (fun z => by rw [kk2] at z; cases z) ⟨cnt0, cnt1⟩ ⟨ot0, by omega⟩ ⟨th0, by omega⟩ ⟨place0, by omega⟩ (by omega) kk3
      have ms6 := (ms4.same s5').addR (s5' _ _ ex) (t := q) (r := .wrap beat room kind snd oth num place there cnt) (SqT.of r5') (wx.tk (TK.of s5')) mw'
      exact ⟨_, _, _, _, _, rfl, ms6.mono (by omega), by rw [cw, List.filterMap_append, List.map_append]; rfl, by rw [List.length_append, ltl]; rfl⟩
    rintro σ G0 ⟨tl0, cl0, v12, v13, v14, rfl, ms00, cw0, ltl0⟩
    dsimp only
    refine ⟨_, rfl, d, cs, rs, 10, _, rfl, by decide, by decide, by omega, ms00.dk, fun q2 G1 q20 q21 k1' D1' t1' => ?_⟩
    have ms01 := ms00.draw k1' t1' D1'
    refine ⟨q2, rfl, by omega, by omega, ?_⟩
    have q2n : q2.toNat ≤ 9 := by omega
    refine for_range (lo := 0) (n := q2.toNat) (fun i σ H' => ∃ (tl : List Wy) (cl : List (Int × Int)) (b : Int) (v12 v13 v14 v15 v16 v17 v18 v19 v20 : Option V), σ = [some (.ref d), some (.int room), some (.int snd), some (.int num), some (.int b), some (.int place), some (oV o), some (.str tx), some (.int cnt), some (.ref ra), some (.str kind), some (.ref ca), v12, v13, v14, v15, v16, v17, v18, v19, v20, none] ∧ MS K H H' d cs rs (n + 30 + 10 * i) ra ca f tl b place cl ∧ cl = (tl.filterMap Wy.wr).map (fun w => (w.2.1, w.2.2.1)) ∧ tl.length ≤ 4 + i ∧ b ≤ 8 + 2 * i) ⟨tl0, cl0, beat, _, _, _, _, _, _, _, _, _, rfl, ms01.mono (by omega), cw0, by omega, by omega⟩ ?_ ?_
    · clear ms00 ms01 cw0 ltl0
      rintro i σ G0 hi ⟨tl, cl, b, v12, v13, v14, v15, v16, v17, v18, v19, v20, rfl, ms, cw, ltl, hb⟩
      refine ⟨_, rfl, _, rfl, d, cs, rs, 3, _, rfl, by decide, by decide, by omega, ms.dk, fun db G2 db0 db1 k2' D2' t2' => ⟨_, _, rfl, rfl, ?_⟩⟩
      have ms2 := ms.draw k2' t2' D2'
      have ms2 : MS K H G2 d cs rs (n + 30 + 10 * i + 1) ra ca f tl (b + db) place cl := ⟨ms2.kp, ms2.dk, ms2.rows, ms2.came, ms2.nr, ms2.nc, ms2.nra, ms2.nca, ms2.ne, ms2.mw.mono_b (by omega), ms2.cb⟩
      obtain ⟨b', eb', hb'⟩ : ∃ b', b + db = b' ∧ b' ≤ 8 + 2 * (i + 1 : Nat) := ⟨_, rfl, by omega⟩
      dsimp only [gName, List.set, tNext]
      rw [eb'] at ms2 ⊢
      have mwb := ms.mw.mono_b (show b ≤ b' by omega)
      refine ⟨_, rfl, d, cs, rs, 5, _, rfl, by decide, by decide, by omega, ms2.dk, fun way G3 way0 way1 k3' D3' t3' => ?_⟩
      have ms3 := ms2.draw k3' t3' D3'
      dsimp only [gName, List.set, tNext]
      obtain ⟨zs, ez, wz⟩ := ms3.came
      have lzs : zs.length ≤ 20 := by
        rw [wz.1, cw, List.length_map]
        have := fm_len tl
        omega
      refine ⟨_, rfl, ca, rfl, ⟨_, SqL.of ez⟩, fun D nD => ?_⟩
      have lz2 : (zs.zip cl).length = zs.length := by rw [List.length_zip, wz.1, Nat.min_self]
      have pairs : ∀ u ∈ zs.zip cl, ∃ a : Addr, u.1 = V.ref a ∧ SqT K G3 a [.int u.2.1, .int u.2.2] := fun u hu => by
        obtain ⟨j, hj⟩ := List.mem_iff_getElem?.mp hu
        obtain ⟨e1, e2⟩ := List.getElem?_zip_eq_some.mp hj
        obtain ⟨a, ea, ha⟩ := wz.2 j _ e2
        rw [ea] at e1
        exact ⟨a, (Option.some.inj e1).symm, ha⟩
      refine comp_ls (L := zs.zip cl) ((walk_list (K := K) (a := ca) (xs := zs)).cast lz2.symm) (fun H' s' => SqL.sm (SqL.of ez) s') (fun u => decide (0 < u.2.2)) (fun u => u.1) nD (by omega) ?_ ?_
      · rintro j u y H' H'' Q' N' hj s' ⟨rfl, hv⟩ hQ hN
        obtain ⟨a, eu, ha⟩ := pairs u (List.mem_of_getElem? hj)
        obtain ⟨e1, e2⟩ := List.getElem?_zip_eq_some.mp hj
        obtain rfl : u.1 = y := Option.some.inj (e1.symm.trans hv)
        rw [eu] at hQ ⊢
        refine ⟨rfl, _, rfl, a, _, 1, _, rfl, rfl, SqT.sm ha s', rfl, _, _, rfl, rfl, _, rfl, iteP (fun c => ?_) (fun c => ?_)⟩
        · exact ⟨_, rfl, hQ (decide_eq_true (show 0 < u.2.2 from c)) _ (L2.Same.refl _)⟩
        · exact hN (decide_eq_false c) _ (L2.Same.refl _)
      intro G4 s4' r4'
      have ms4 := ms3.same s4'
      have onm : ∀ u ∈ (zs.zip cl).filter (fun u => decide (0 < u.2.2)), ∃ a : Addr, u.1 = V.ref a ∧ SqT K G4 a [.int u.2.1, .int u.2.2] ∧ 0 < u.2.2 ∧ u.2 ∈ cl := fun u hu => by
        obtain ⟨hu, hp⟩ := List.mem_filter.mp hu
        obtain ⟨a, e1, e2⟩ := pairs u hu
        exact ⟨a, e1, SqT.sm e2 s4', of_decide_eq_true hp, (List.of_mem_zip (a := u.1) (b := u.2) hu).2⟩
      have lon : ((zs.zip cl).filter (fun u => decide (0 < u.2.2))).length ≤ 20 := by
        have := List.length_filter_le (fun u : V × (Int × Int) => decide (0 < u.2.2)) (zs.zip cl)
        omega
      generalize (zs.zip cl).filter (fun u => decide (0 < u.2.2)) = on at r4' onm lon
      have nD4 := ms3.dk.new nD
      clear pairs lz2
      dsimp only [gName, List.set, tNext]
      have fin : ∀ (v12 v13 v14 v15 v16 v17 v18 v19 v20 : Option V) (G' : Hp) (r : Wy) (cl' : List (Int × Int)), MS K H G' d cs rs (n + 30 + 10 * (i + 1 : Nat)) ra ca f (tl ++ [r]) b' place cl' → cl' = ((tl ++ [r]).filterMap Wy.wr).map (fun w => (w.2.1, w.2.2.1)) →
          ∃ (tl' : List Wy) (cl'' : List (Int × Int)) (b'' : Int) (w12 w13 w14 w15 w16 w17 w18 w19 w20 : Option V), [some (V.ref d), some (.int room), some (.int snd), some (.int num), some (.int b'), some (.int place), some (oV o), some (.str tx), some (.int cnt), some (.ref ra), some (.str kind), some (.ref ca), v12, v13, v14, v15, v16, v17, v18, v19, v20, none] = [some (.ref d), some (.int room), some (.int snd), some (.int num), some (.int b''), some (.int place), some (oV o), some (.str tx), some (.int cnt), some (.ref ra), some (.str kind), some (.ref ca), w12, w13, w14, w15, w16, w17, w18, w19, w20, none] ∧ MS K H G' d cs rs (n + 30 + 10 * (i + 1 : Nat)) ra ca f tl' b'' place cl'' ∧ cl'' = (tl'.filterMap Wy.wr).map (fun w => (w.2.1, w.2.2.1)) ∧ tl'.length ≤ 4 + (i + 1) ∧ b'' ≤ 8 + 2 * (i + 1 : Nat) :=
        fun v12 v13 v14 v15 v16 v17 v18 v19 v20 G' r cl' m e => ⟨_, _, _, _, _, _, _, _, _, _, _, _, rfl, m, e, by rw [List.length_append, List.length_singleton]; omega, hb'⟩
      have cw0 : ∀ r : Wy, r.wr = none → cl = ((tl ++ [r]).filterMap Wy.wr).map (fun w => (w.2.1, w.2.2.1)) := fun r e => by
        rw [List.filterMap_append, show [r].filterMap Wy.wr = [] by rw [List.filterMap_cons, e]; rfl, List.append_nil]
        exact cw
      apply twoH (A := fun G' => MS K H G' d cs rs (n + 30 + 10 * i + 2) ra ca f tl b' place cl)
      · intro hY
        refine ⟨_, rfl, _, _, rfl, rfl, _, rfl, iteP (fun c1 => ?_) (fun c1 => ?_)⟩
        rotate_left
        · obtain ⟨G', eG⟩ : ∃ G', G4 = G' := ⟨_, rfl⟩
          rw [eG] at ms4 ⊢
          exact hY G' (ms4.mono (by omega))
        refine ⟨_, rfl, (by show 0 ≤ sizeLine; decide), fun l n_l => ?_⟩
        obtain ⟨G5, e_G5, s5', r5'⟩ := new_any n_l
        rw [← e_G5]
        clear e_G5
        have ms5 := ms4.same s5'
        refine ⟨D, l, on.map (·.1), rfl, rfl, SqL.of (s5' _ _ r4'), SqL.of r5', _, rfl, iteNP (fun c2 => ?_) (fun c2 => hY G5 (ms5.mono (by omega)))⟩
        have lon1 : 0 < on.length := by
          rcases Nat.eq_zero_or_pos on.length with z | z
          · exact absurd (by rw [List.length_eq_zero_iff.mp z]; rfl) c2
          · exact z
        refine ⟨_, rfl, _, rfl, d, cs, rs, D, _, on.map (·.1), rfl, SqL.of (s5' _ _ r4'), nD4.1, nD4.2.2, by rw [List.length_map]; exact lon1, by rw [List.length_map]; omega, by omega, ms5.dk, fun j x G6 ej k6' D6' t6' => ?_⟩
        have ms6 := ms5.draw k6' t6' D6'
        rw [List.getElem?_map] at ej
        obtain ⟨u, eu, rfl⟩ : ∃ u, on[j]? = some u ∧ x = u.1 := by
          cases eu : on[j]? with
          | none => rw [eu] at ej; cases ej
          | some u => rw [eu] at ej; exact ⟨u, rfl, (Option.some.inj ej).symm⟩
        obtain ⟨pa, epa, hpa, much0, hcl⟩ := onm u (List.mem_of_getElem? eu)
        rw [epa]
        have hpa6 := SqT.tk (SqT.sm hpa s5') t6'
        obtain ⟨cb1, cb2, cb3, cb4⟩ := ms.cb _ hcl
        refine ⟨pa, _, rfl, hpa6, rfl, _, _, rfl, _, _, rfl, rfl, ?_⟩
        dsimp only [gName, List.set, tNext]
        obtain ⟨zs6, ez6, wz6⟩ := ms6.came
        have lzs6 : zs6.length ≤ 20 := by rw [wz6.1, ← wz.1]; exact lzs
        refine ⟨_, rfl, .inl ⟨rfl, _, SqL.of ez6⟩, ?_⟩
        refine ⟨_, rfl, d, cs, rs, 8, _, rfl, by decide, by decide, by omega, ms6.dk, fun pl G7 pl0 pl1 k7' D7' t7' => ?_⟩
        have ms7 := ms6.draw k7' t7' D7'
        refine ⟨_, rfl, _, rfl, d, cs, rs, u.2.2, _, rfl, by omega, by omega, by omega, ms7.dk, fun ct G8 ct0 ct1 k8' D8' t8' => ?_⟩
        have ms8 := ms7.draw k8' t8' D8'
        refine ⟨(by show 2 ≤ sizeLine; decide), fun p n_p => ?_⟩
        obtain ⟨G9, e_G9, s9', r9'⟩ := new_any n_p
        rw [← e_G9]
        clear e_G9
        have ez9 := s9' _ _ (k8' _ _ (nin2 ms6.nca.1 ms6.nca.2.2) (k7' _ _ (nin2 ms6.nca.1 ms6.nca.2.2) ez6))
        refine ⟨ca, zs6, _, rfl, rfl, ez9, Nat.lt_of_le_of_lt lzs6 (by decide), ?_⟩
        have tk9 : TK G9 (upd G9 ca (.lst (zs6 ++ [.ref p]))) := tk_upd ez9
        have hp10 := SqT.tk (SqT.of (K := K) r9') tk9
        have ec10 : upd G9 ca (.lst (zs6 ++ [.ref p])) ca = some (.lst (zs6 ++ [.ref p])) := upd_same
        have ms10 := (ms8.same s9').addC ez9 (p := (pl, ct)) (SqT.of r9') (wz6.tk (t7'.trans (t8'.trans (TK.of s9')))) ⟨pl0, by omega, ct0, by omega⟩
        generalize upd G9 ca (.lst (zs6 ++ [.ref p])) = G10 at ms10 hp10 ec10
        refine ⟨_, rfl, d, cs, rs, 16, _, rfl, by decide, by decide, by omega, ms10.dk, fun oth G11 ot0 ot1 k11' D11' t11' => ?_⟩
        have ms11 := ms10.draw k11' t11' D11'
        dsimp only [gName, List.set, tNext]
        obtain ⟨xs, ex, wx⟩ := ms11.rows
        have lxs : xs.length ≤ 20 := by
          rw [wx.1, List.length_cons]
          omega
        refine ⟨_, rfl, .inl ⟨rfl, _, SqL.of ex⟩, ?_⟩
        refine ⟨_, rfl, _, rfl, _, rfl, _, rfl, _, rfl, _, rfl, (by show 8 ≤ sizeLine; decide), fun q n_q => ?_⟩
        obtain ⟨G12, e_G12, s12', r12'⟩ := new_any n_q
        rw [← e_G12]
        clear e_G12
        have ec12 := s12' _ _ (k11' _ _ (nin2 ms6.nca.1 ms6.nca.2.2) ec10)
        refine ⟨_, rfl, _, rfl, ca, _, _, _, rfl, rfl, SqL.of ec12, atI_last _ _, ?_⟩
        refine catA_sq (SqT.of r12') (SqT.sm (SqT.tk hp10 t11') s12') (by show 10 ≤ 1000000; decide) fun G13 q2 s13' r13' => ?_
        have s1213 := s12'.trans s13'
        refine ⟨ra, xs, _, rfl, rfl, s1213 _ _ ex, Nat.lt_of_le_of_lt lxs (by decide), ?_⟩
        have mw' := mwb.wrap ef (Int.le_refl _) (k := ("f" : Str)) (ot := oth) (p := u.2.1) (q := pl) (c := ct) (by decide +kernel) (fun z => absurd z (by decide +kernel)) (fun _ => ledOn_of cw hcl rfl ct1) ⟨ct0, by omega⟩ ⟨ot0, by omega⟩ ⟨pl0, by omega⟩ ⟨cb1, cb2⟩ (by omega) (by decide +kernel)
        have ms14 := (ms11.same s1213).addR (s1213 _ _ ex) (t := q2) (r := .wrap b' room ("f" : Str) snd oth num u.2.1 pl ct) r13' (wx.tk (TK.of s1213)) mw'
        exact fin _ _ _ _ _ _ _ _ _ _ _ _ (ms14.mono (by omega)) (by rw [cw, List.filterMap_append, List.map_append]; rfl)
      intro G5 ms5
      obtain ⟨xs, ex, wx⟩ := ms5.rows
      have lxs : xs.length ≤ 20 := by
        rw [wx.1, List.length_cons]
        omega
      refine iteF ?_
      refine ⟨_, rfl, rfl, _, rfl, iteI (fun cw2 => ?_) (fun _ => ?_)⟩
      · refine ⟨_, rfl, _, _, rfl, rfl, _, rfl, d, cs, rs, 15, _, rfl, by decide, by decide, by omega, ms5.dk, fun hn G6 hn0 hn1 k6' D6' t6' => ?_⟩
        have ms6 := ms5.draw k6' t6' D6'
        refine ⟨_, _, rfl, rfl, _, _, rfl, rfl, (by show (0 : Int) < 16; decide), ?_⟩
        dsimp only [gName, List.set, tNext]
        obtain ⟨xs, ex, wx⟩ := ms6.rows
        have lxs : xs.length ≤ 20 := by
          rw [wx.1, List.length_cons]
          omega
        cases o with
        | none =>
          refine ⟨_, rfl, _, rfl, iteF ?_⟩
          refine ⟨_, rfl, .inl ⟨rfl, _, SqL.of ex⟩, ?_⟩
          refine ⟨_, rfl, _, rfl, _, rfl, _, rfl, _, rfl, _, rfl, (by show 7 ≤ sizeLine; decide), fun q n_q => ?_⟩
          obtain ⟨G7, e_G7, s7', r7'⟩ := new_any n_q
          rw [← e_G7]
          clear e_G7
          refine ⟨ra, xs, _, rfl, rfl, s7' _ _ ex, Nat.lt_of_le_of_lt lxs (by decide), ?_⟩
          have mw' := mwb.hear ef (Int.le_refl _) (hd := (snd + 1 + hn) % 16) ⟨Int.emod_nonneg _ (by decide), by have := Int.emod_lt_of_pos (snd + 1 + hn) (show (0 : Int) < 16 by decide); omega⟩ (.inr ⟨rfl, by omega⟩) (by omega)
          have ms8 := (ms6.same s7').addR (s7' _ _ ex) (t := q) (r := .heard b' room ((snd + 1 + hn) % 16) snd num tx) (SqT.of r7') (wx.tk (TK.of s7')) mw'
          exact fin _ _ _ _ _ _ _ _ _ _ _ _ (ms8.mono (by omega)) (cw0 _ rfl)
        | some hz =>
          refine ⟨_, rfl, _, rfl, iteT ?_⟩
          refine ⟨_, rfl, ?_⟩
          dsimp only [gName, List.set, tNext]
          refine ⟨_, rfl, .inl ⟨rfl, _, SqL.of ex⟩, ?_⟩
          refine ⟨_, rfl, _, rfl, _, rfl, _, rfl, _, rfl, _, rfl, (by show 7 ≤ sizeLine; decide), fun q n_q => ?_⟩
          obtain ⟨G7, e_G7, s7', r7'⟩ := new_any n_q
          rw [← e_G7]
          clear e_G7
          refine ⟨ra, xs, _, rfl, rfl, s7' _ _ ex, Nat.lt_of_le_of_lt lxs (by decide), ?_⟩
          have mw' := mwb.hear ef (Int.le_refl _) (hd := hz) ⟨oo, o16 hz rfl⟩ (.inl rfl) (by omega)
          have ms8 := (ms6.same s7').addR (s7' _ _ ex) (t := q) (r := .heard b' room hz snd num tx) (SqT.of r7') (wx.tk (TK.of s7')) mw'
          exact fin _ _ _ _ _ _ _ _ _ _ _ _ (ms8.mono (by omega)) (cw0 _ rfl)
      refine ⟨_, rfl, rfl, _, rfl, iteI (fun cw3 => ?_) (fun _ => ?_)⟩
      · refine ⟨_, rfl, (by show 2 ≤ sizeLine; decide), fun l6 n_l6 => ?_⟩
        obtain ⟨G6, e_G6, s6', r6'⟩ := new_any n_l6
        rw [← e_G6]
        clear e_G6
        have n6 := ms5.dk.new n_l6
        have ms6 := ms5.same s6'
        refine ⟨d, cs, rs, l6, _, _, rfl, SqL.of r6', n6.1, n6.2.2, Nat.le_of_ble_eq_true rfl, Nat.le_of_ble_eq_true rfl, by omega, ms6.dk, fun j x G7 ej k7' D7' t7' => ?_⟩
        have ms7 := ms6.draw k7' t7' D7'
        obtain ⟨why, rfl, wok⟩ : ∃ tx : Str, x = .str tx ∧ Fe (.str tx) := by
          rcases j with _ | _ | j
          · cases ej
            exact ⟨_, rfl, by decide +kernel⟩
          · cases ej
            exact ⟨_, rfl, by decide +kernel⟩
          · cases ej
        dsimp only [gName, List.set, tNext]
        obtain ⟨xs7, ex7, wx7⟩ := ms7.rows
        refine ⟨_, rfl, .inl ⟨rfl, _, SqL.of ex7⟩, ?_⟩
        refine ⟨_, rfl, _, rfl, _, rfl, _, rfl, d, cs, rs, 4, _, rfl, by decide, by decide, by omega, ms7.dk, fun kx G8 kx0 kx1 k8' D8' t8' => ?_⟩
        have ms8 := ms7.draw k8' t8' D8'
        obtain ⟨c, ac, ck1, ck2⟩ : ∃ c, atI ("luaf" : Str).cps.toList kx = some c ∧ kindB ⟨#[c]⟩ = true ∧ Fe (.str ⟨#[c]⟩) := by
          have : kx = 0 ∨ kx = 1 ∨ kx = 2 ∨ kx = 3 := by omega
          rcases this with rfl | rfl | rfl | rfl
          · exact ⟨108, by decide +kernel, by decide +kernel, by decide +kernel⟩
          · exact ⟨117, by decide +kernel, by decide +kernel, by decide +kernel⟩
          · exact ⟨97, by decide +kernel, by decide +kernel, by decide +kernel⟩
          · exact ⟨102, by decide +kernel, by decide +kernel, by decide +kernel⟩
        refine ⟨_, _, c, rfl, rfl, (by show 4 ≤ sizeLine; decide), ac, ?_⟩
        obtain ⟨xs, ex, wx⟩ := ms8.rows
        have lxs : xs.length ≤ 20 := by
          rw [wx.1, List.length_cons]
          omega
        refine ⟨_, rfl, _, rfl, (by show 7 ≤ sizeLine; decide), fun q n_q => ?_⟩
        obtain ⟨G9, e_G9, s9', r9'⟩ := new_any n_q
        rw [← e_G9]
        clear e_G9
        refine ⟨ra, xs, _, rfl, rfl, s9' _ _ ex, Nat.lt_of_le_of_lt lxs (by decide), ?_⟩
        have mw' := mwb.drop ef (Int.le_refl _) wok ck1 ck2 (by omega)
        have ms10 := (ms8.same s9').addR (s9' _ _ ex) (t := q) (r := .drop b' why room ⟨#[c]⟩ snd num) (SqT.of r9') (wx.tk (TK.of s9')) mw'
        exact fin _ _ _ _ _ _ _ _ _ _ _ _ (ms10.mono (by omega)) (cw0 _ rfl)
      · obtain ⟨xs5, ex5, wx5⟩ := ms5.rows
        refine ⟨_, rfl, .inl ⟨rfl, _, SqL.of ex5⟩, ?_⟩
        refine ⟨_, rfl, _, rfl, d, cs, rs, 3, _, rfl, by decide, by decide, by omega, ms5.dk, fun g1 G6 g10 g11 k6' D6' t6' => ?_⟩
        have ms6 := ms5.draw k6' t6' D6'
        refine ⟨_, rfl, _, rfl, _, rfl, _, rfl, d, cs, rs, 6, _, rfl, by decide, by decide, by omega, ms6.dk, fun x1 G7 x10 x11 k7' D7' t7' => ?_⟩
        have ms7 := ms6.draw k7' t7' D7'
        obtain ⟨xs, ex, wx⟩ := ms7.rows
        have lxs : xs.length ≤ 20 := by
          rw [wx.1, List.length_cons]
          omega
        refine ⟨(by show 9 ≤ sizeLine; decide), fun q n_q => ?_⟩
        obtain ⟨G8, e_G8, s8', r8'⟩ := new_any n_q
        rw [← e_G8]
        clear e_G8
        refine ⟨ra, xs, _, rfl, rfl, s8' _ _ ex, Nat.lt_of_le_of_lt lxs (by decide), ?_⟩
        have mw' := mwb.pass ef (Int.le_refl _) (g := g1) (x := x1) (y := 9) (z := 2) ⟨g10, by omega⟩ ⟨x10, by omega⟩ ⟨by decide, by decide⟩ ⟨by decide, by decide⟩ (by omega)
        have ms9 := (ms7.same s8').addR (s8' _ _ ex) (t := q) (r := .pass b' g1 room snd num x1 9 2) (SqT.of r8') (wx.tk (TK.of s8')) mw'
        exact fin _ _ _ _ _ _ _ _ _ _ _ _ (ms9.mono (by omega)) (cw0 _ rfl)
    rintro σ G0 ⟨tl, cl, b, v12, v13, v14, v15, v16, v17, v18, v19, v20, rfl, ms, cw, ltl, hb⟩
    obtain ⟨xs, ex, wx⟩ := ms.rows
    refine ⟨_, rfl, ra, xs, rfl, .inl ⟨SqL.of ex, fun t n_t => ?_⟩⟩
    obtain ⟨G1, e_G1, s1', r1'⟩ := new_any n_t
    rw [← e_G1]
    clear e_G1
    exact k G1 t xs f tl b place (Kp.trans ms.kp (Kp.of s1')) ((ms.dk.same s1').mono (by omega)) (SqT.of r1') (wx.sm s1') ms.mw (by omega)
theorem scBent : FnScope ["_law_deck_here", "_law_way", "_law_at", "_law_row", "_law_turn", "_law_some", "_law_spot", "_law_odd", "_law_new"] ["_law_deck_here", "_law_way"] (defScope sBent) := ⟨rfl, rfl, rfl, by decide +kernel, rfl, by decide +kernel, by decide +kernel⟩
end
end Wn

set_option maxHeartbeats 1600000
namespace Wn
open PySem L2
set_option pp.maxSteps 700
set_option pp.deepTerms false
local macro_rules | `(tactic| walk_at "h") => `(tactic| first | with_reducible assumption | (with_reducible exact upd_same) | (with_reducible apply g_upd; (walk_at "neq"); (walk_at "h")) | (with_reducible apply g_same; (with_reducible assumption); (walk_at "h")) | (with_reducible apply g_kp; (with_reducible assumption); (walk_at "nin"); (walk_at "h")) | (with_reducible apply g_tk; (with_reducible assumption); (walk_at "h")))
local macro_rules | `(tactic| walk_at "neq") => `(tactic| first | with_reducible assumption | (with_reducible apply Ne.symm; with_reducible assumption) | (with_reducible apply ne_upd; (with_reducible assumption)) | (with_reducible apply Ne.symm; with_reducible apply ne_upd; with_reducible assumption) | (with_reducible apply ne_fr; (with_reducible assumption); (walk_at "h")) | (with_reducible apply ne_fr'; (with_reducible assumption); (walk_at "h")) | (with_reducible apply ne_kd; (walk_at "h"); (walk_at "h"); (with_unfolding_all (intro z; cases z))))
local macro_rules | `(tactic| walk_at "nin") => `(tactic| first | (with_reducible exact nin0) | with_reducible assumption | (with_reducible apply ninc; (walk_at "neq"); (walk_at "nin")))
local macro_rules | `(tactic| walk_at "none") => `(tactic| first | with_reducible assumption | (with_reducible apply n_upd; (with_reducible assumption)) | (with_reducible apply n_same; (with_reducible assumption); (walk_at "none")) | (with_reducible apply n_kp; (with_reducible assumption); (walk_at "nin"); (walk_at "none")))
local macro_rules | `(tactic| walk_at "mem") => `(tactic| first | (with_reducible exact List.mem_cons_self) | (with_reducible apply List.mem_cons_of_mem; (walk_at "mem")))
local macro_rules | `(tactic| walk_at "am") => `(tactic| first | (with_reducible exact am0) | (with_reducible apply am1; (first | (apply Or.inl; walk_at "mem") | (apply Or.inr; walk_at "none")); (walk_at "am")))
local macro_rules | `(tactic| walk_at "tk") => `(tactic| first | (with_reducible exact TK.refl _) | with_reducible assumption | (with_reducible apply t_tk; (with_reducible assumption); (walk_at "tk")) | (with_reducible apply t_same; (with_reducible assumption); (walk_at "tk")) | (with_reducible apply t_new; (with_reducible assumption); (walk_at "tk")) | (with_reducible apply t_wr; (walk_at "h"); (with_unfolding_all rfl); (walk_at "tk")))
local macro_rules | `(tactic| walk_at "same") => `(tactic| first | (with_reducible exact L2.Same.refl _) | with_reducible assumption | (with_reducible apply s_same; (with_reducible assumption); (walk_at "same")) | (with_reducible apply s_new; (with_reducible assumption); (walk_at "same")) | (with_reducible apply s_wrn; (walk_at "none"); (walk_at "same")))
local macro_rules | `(tactic| walk_at "kp") => `(tactic| first | (with_reducible exact Kp.refl _ _) | with_reducible assumption | (with_reducible apply k_same; (with_reducible assumption); (walk_at "kp")) | (with_reducible apply k_kp; (with_reducible assumption); (walk_at "kp")) | (with_reducible apply k_kpm; (with_reducible assumption); (walk_at "am"); (walk_at "kp")) | (with_reducible apply k_new; (with_reducible assumption); (walk_at "kp")) | (with_reducible apply k_wr; (walk_at "mem"); (walk_at "kp")) | (with_reducible apply k_wrn; (walk_at "none"); (walk_at "kp")))
local macro_rules | `(tactic| walk_at "rp") => `(tactic| first | with_reducible assumption | (with_reducible exact Rp.int) | (with_reducible exact Rp.str) | (with_reducible exact Rp.none) | (with_reducible exact Rp.bool) | (with_reducible apply Rp.tk'; (with_reducible assumption); (walk_at "tk")) | (with_reducible apply Rp.tup; (walk_at "h"); (walk_at "rpl")))
local macro_rules | `(tactic| walk_at "rpl") => `(tactic| first | with_reducible assumption | (with_reducible exact RpL.nil) | (with_reducible apply RpL.tk'; (with_reducible assumption); (walk_at "tk")) | (with_reducible apply RpL.cons; (walk_at "rp"); (walk_at "rpl")))
local macro_rules | `(tactic| walk_at "g") => `(tactic| repeat (first | refine ⟨_, rfl, ?_⟩ | refine ⟨_, _, rfl, rfl, ?_⟩ | refine ⟨rfl, _, rfl, ?_⟩ | refine ⟨_, _, rfl, rfl, (by first | decide | omega), ?_⟩))
theorem DkAll.rev {K : PySem.W.Frag} {H : Hp} : ∀ {xs : List V} {ds : List PyData}, DkAll K H xs ds → DkAll K H xs.reverse ds.reverse
  | _, _, .nil => .nil
  | _, _, .cons h1 h2 => by
    rw [List.reverse_cons, List.reverse_cons]
    exact (DkAll.rev h2).app (.cons h1 .nil)
theorem Dk.of_hid {K : PySem.W.Frag} {M : List Addr} {H : Hp} {v : V} {D : PyData} (h : Dk K (hid M H) v D) : Dk K H v D := h.sm hid_sub
theorem Deck2.lm {d cs rs : Addr} {n : Int} {H : Hp} (D : Deck2 H d cs rs n) : LstM [d, rs] H := fun x hx => by
  simp only [List.mem_cons, List.not_mem_nil, or_false] at hx
  rcases hx with rfl | rfl
  · exact D.l1
  · exact D.l3
theorem Deck2.nn {d cs rs : Addr} {n : Int} {H : Hp} (D : Deck2 H d cs rs n) : ∀ x ∈ [d, rs], H x ≠ none := fun x hx e => by
  obtain ⟨zs, z⟩ := D.lm x hx
  rw [e] at z
  cases z
theorem Deck2.nm {d cs rs x : Addr} {n : Int} {H : Hp} (D : Deck2 H d cs rs n) (h : H x = none) : x ∉ [d, rs] := fun z => D.nn x z h
theorem bulk_le {B : Nat} : ∀ {es : List PyData}, (∀ e ∈ es, e.bulk ≤ B) → PyData.bulkAll es ≤ es.length * (B + 1)
  | [], _ => Nat.zero_le _
  | e :: es, h => by
    have := bulk_le (es := es) fun x hx => h x (List.mem_cons_of_mem _ hx)
    have h1 := h e List.mem_cons_self
    rw [List.length_cons, Nat.succ_mul]
    simp only [PyData.bulkAll]
    omega
theorem gq_tup {M N B W L : Nat} {es : List PyData} (h : ∀ e ∈ es, GQ M N B W e) (l : es.length ≤ L) (hw : L ≤ W) : GQ M (N + 1) (L * (B + 1)) W (.tuple es) := by
  refine ⟨gqs_all.mpr fun x hx => (h x hx).g, ?_, ?_, wid_t.mpr ⟨Nat.le_trans l hw, fun x hx => (h x hx).w⟩⟩
  · rw [depth_tup]
    have : PyData.depthAll es ≤ N := depthAll_le.mpr fun x hx => (h x hx).n
    omega
  · have z := bulk_le fun x hx => (h x hx).b
    simp only [PyData.bulk]
    exact Nat.le_trans z (Nat.mul_le_mul_right _ l)
theorem gq_lst {M N B W L : Nat} {es : List PyData} (h : ∀ e ∈ es, GQ M N B W e) (l : es.length ≤ L) (hw : L ≤ W) : GQ M (N + 1) (L * (B + 1)) W (.list es) := by
  have z := gq_tup h l hw
  exact ⟨z.g, by have := z.n; rw [depth_tup] at this; rw [depth_lst]; exact this, by have := z.b; simp only [PyData.bulk] at this ⊢; exact this, z.w⟩
/-- parts of rows, rows -/
abbrev Fl (e : PyData) : Prop := GQ (10 ^ 13) 1 20 20 e
abbrev El (e : PyData) : Prop := GQ (10 ^ 13) 2 210 20 e
theorem el_of {es : List PyData} (h : ∀ e ∈ es, Fl e) (l : es.length ≤ 10) : El (.tuple es) := (gq_tup h l (by decide)).mono (Nat.le_refl _) (Nat.le_refl _) (by decide) (Nat.le_refl _)
theorem fl_int {i : Int} (h : i.natAbs ≤ 10 ^ 13) : Fl (.int i) := ⟨decide_eq_true h, Nat.zero_le _, Nat.zero_le _, Nat.zero_le _⟩
theorem fl_row {r : Wy} (h : ∀ e ∈ PyData.str r.w :: r.pd, Fe e) : ∀ e ∈ PyData.str r.w :: r.pd, Fl e := fun e he => by
  obtain ⟨g, b, n, w⟩ := h e he
  exact ⟨gq_mono (by decide) g, by omega, b, by omega⟩
theorem row_len (r : Wy) : (PyData.str r.w :: r.pd).length ≤ 10 := by
  cases r <;> exact Nat.le_of_ble_eq_true rfl
theorem row_len1 (r : Wy) : 6 < (PyData.str r.w :: r.pd).length := by
  cases r <;> exact Nat.le_of_ble_eq_true rfl
theorem el_row {r : Wy} (h : ∀ e ∈ PyData.str r.w :: r.pd, Fe e) : El r.d := el_of (fl_row h) (row_len r)
/-- the values of a row -/
theorem dk_vals {K : PySem.W.Frag} {H : Hp} (r : Wy) : DkAll K H r.v (.str r.w :: r.pd) := by
  have oo : ∀ {o : Option Int}, Dk K H (oV o) (oD o) := fun {o} => by cases o <;> first | exact .non | exact .int _
  cases r with
  | sent => exact .cons (.str _) (.cons (.int _) (.cons (.int _) (.cons (.int _) (.cons (.int _) (.cons oo (.cons (.str _) .nil))))))
  | wrap => exact .cons (.str _) (.cons (.int _) (.cons (.int _) (.cons (.str _) (.cons (.int _) (.cons (.int _) (.cons (.int _) (.cons (.int _) (.cons (.int _) (.cons (.int _) .nil)))))))))
  | heard => exact .cons (.str _) (.cons (.int _) (.cons (.int _) (.cons (.int _) (.cons (.int _) (.cons (.int _) (.cons (.str _) .nil))))))
  | drop => exact .cons (.str _) (.cons (.int _) (.cons (.str _) (.cons (.int _) (.cons (.str _) (.cons (.int _) (.cons (.int _) .nil))))))
  | pass => exact .cons (.str _) (.cons (.int _) (.cons (.int _) (.cons (.int _) (.cons (.int _) (.cons (.int _) (.cons (.int _) (.cons (.int _) (.cons (.int _) .nil))))))))
theorem wy_dk {K : PySem.W.Frag} {M : List Addr} {H : Hp} (l : LstM M H) : ∀ {rs : List Wy} {xs : List V}, WyAll K H xs rs → DkAll K (hid M H) xs (rs.map Wy.d)
  | [], xs, h => by
    rw [List.length_eq_zero_iff.mp h.1]
    exact .nil
  | r :: rs, [], h => by cases h.1
  | r :: rs, x :: xs, h => by
    obtain ⟨a, e, ha⟩ := h.2 0 r rfl
    cases e
    exact .cons (.tup (SqT.hid ha l) (dk_vals r)) (wy_dk l (rs := rs) (xs := xs) (h.drop 1))
def spBent (K : PySem.W.Frag) : Sp := fun vs H Q _ => ∃ (d cs rd a : Addr) (n : Int) (xs : List V) (rs : List Wy), vs = [.ref d, .ref a] ∧ Deck2 H d cs rd n ∧ n < 2 ^ 50 ∧ SqT K H a xs ∧ WyAll K H xs rs ∧ 0 < rs.length ∧ rs.length ≤ 14 ∧ (∀ r ∈ rs, ∀ e ∈ PyData.str r.w :: r.pd, Fe e) ∧
  ∀ (H' : Hp) (v : V) (D : PyData), Kp [d, rd] H H' → Deck2 H' d cs rd (n + 10) → Dk K (hid [d, rd] H') v D → GQ (10 ^ 13) 6 9000 40 D → Q v H'
theorem lst_mk {K : PySem.W.Frag} {t : TA} {Ds : List PyData} {σ : L2.St} {H : Hp} {Q : VK} (h : MkA K t Ds) (k : ∀ H' xs, Same H H' → DkAll K (nw H H') xs Ds → xs.length ≤ sizeLine ∧ ∀ p, H' p = none → Q (.ref p) (upd H' p (.lst xs))) : tLst t σ H Q := h σ H _ k
def oddW : List PyData := [.bool true, .bool false, .none, .int (-1), .str "l", .str "f", .str "h", .str "sent", .str "heard", .int 0, .int 1, .int (10 ^ (12 : Int).toNat), .list [.int 0], .tuple [.int 0], .str ".ab"]
theorem odd_fl : ∀ D ∈ oddW, Fl D := by
  have h : ∀ D ∈ oddW, gq (10 ^ 13) D = true ∧ D.depth ≤ 1 ∧ D.bulk ≤ 20 ∧ wid D ≤ 20 := by decide +kernel
  exact fun D hD => ⟨(h D hD).1, (h D hD).2.1, (h D hD).2.2.1, (h D hD).2.2.2⟩

section
variable {P : Program} {w : World} {K : PySem.W.Frag} {mg : Str → Option Value} {base : Heap}
theorem ok_bent {f : Addr} {fd : FuncData} (F : Fun K "_law_bent" "_law_bent" sBent f fd) (B : KBw mg) (cN : Cd P w K mg base 1 "_law_draw" ["_law_deck_here", "_law_many"] spDraw) (cO : Cd P w K mg base 2 "_law_one" ["_law_deck_here", "_law_some"] (spOneL K)) (cI : Cd P w K mg base 1 "_law_is_number" ["_law_thing"] (spNumL K)) : FnOk P w K mg base CX0 3 f fd ["_law_deck_here", "_law_way"] (spBent K) := by
  obtain ⟨fN, fdN, GN, mN, kN, bN⟩ := cN.tk
  obtain ⟨fO, fdO, GO, mO, kO, bO⟩ := cO.tk
  obtain ⟨fI, fdI, GI, mI, kI, bI⟩ := cI
  refine F.ok scBent (fun vs H Q E h => ?_) (fun cdv A outer s H vs Q E hr h => ?_)
  · obtain ⟨d, cs, rd, a, n, xs, rs, rfl, _⟩ := h
    rfl
  · obtain ⟨d, cs, rd, a, n, xs, rs, rfl, D0, hn, ha, wx, l0, l14, hg, k⟩ := h
    have hr1 : Room 1 _ := hr.mono (by decide)
    have hr2 : Room 2 _ := hr.mono (by decide)
    refine ⟨_, (pss_cons (ps_set (i := 2) scBent.nd rfl (Or.inl rfl) (pe_call GN hr1 rfl mN kN bN .nil pass0 (pa_cons (pv 0) (pa_cons (pe_callB (lenK (K := K) rfl) (by rfl) B.len PySem.boot_len (pa_cons (pv 1) pa_nil)) pa_nil))))
       (pss_cons (ps_set (i := 3) scBent.nd rfl (Or.inl rfl) (pe_ix (ixT (K := K) rfl) (pv 1) (pv 2) (fun _ _ => rfl)))
       (pss_cons (ps_set (i := 4) scBent.nd rfl (Or.inl rfl) (pe_call GN hr1 rfl mN kN bN .nil pass0 (pa_cons (pv 0) (pa_cons pe_int pa_nil))))
       (pss_cons (ps_if (pt_cmpR op_eq (pv 4) pe_int (nomark _))
       (pss_one (ps_ret (pe_op (opCatA (K := K) rfl) (pe_slice (slA (K := K) rfl) (pv 1) po_none (po_some (pv 2))) (pe_slice (slA (K := K) rfl) (pv 1) (po_some (pe_op op_add (pv 2) pe_int)) po_none))))
       pss_nil)
       (pss_cons (ps_if (pt_cmpR op_eq (pv 4) pe_int (nomark _))
       (pss_one (ps_ret (pe_op (opCatA (K := K) rfl) (pe_op (opCatA (K := K) rfl) (pe_slice (slA (K := K) rfl) (pv 1) po_none (po_some (pv 2))) (pe_tup (pa_cons (pv 3) (pa_cons (pv 3) pa_nil)))) (pe_slice (slA (K := K) rfl) (pv 1) (po_some (pe_op op_add (pv 2) pe_int)) po_none))))
       pss_nil)
       (pss_cons (ps_if (PW.pt (pw_and (pt_cmpR op_eq (pv 4) pe_int (nomark _)) (pw_and1 (pt_cmpR op_lt (pe_op op_add (pv 2) pe_int) (pe_callB (lenK (K := K) rfl) (by rfl) B.len PySem.boot_len (pa_cons (pv 1) pa_nil)) (nomark _)))))
       (pss_one (ps_ret (pe_op (opCatA (K := K) rfl) (pe_op (opCatA (K := K) rfl) (pe_slice (slA (K := K) rfl) (pv 1) po_none (po_some (pv 2))) (pe_tup (pa_cons (pe_ix (ixT (K := K) rfl) (pv 1) (pe_op op_add (pv 2) pe_int) (fun _ _ => rfl)) (pa_cons (pv 3) pa_nil)))) (pe_slice (slA (K := K) rfl) (pv 1) (po_some (pe_op op_add (pv 2) pe_int)) po_none))))
       pss_nil)
       (pss_cons (ps_if (pt_cmpR op_eq (pv 4) pe_int (nomark _))
       (pss_cons (ps_set (i := 5) scBent.nd rfl (Or.inl rfl) (pe_lst (pa_cons (pe_callTy (lstOfK (K := K) rfl) (by rfl) B.list (by decide +kernel) (pa_cons (pv 1) pa_nil)) (pa_cons (pe_revT (K := K) rfl (pv 1) po_none) (pa_cons pe_non (pa_cons (pe_tup pa_nil) (pa_cons pe_str (pa_cons pe_int (pa_cons (pe_tup (pa_cons (pv 1) pa_nil)) (pa_cons (pe_op (opCatA (K := K) rfl) (pv 1) (pe_tup (pa_cons (pe_tup pa_nil) pa_nil))) (pa_cons (pe_op (opCatA (K := K) rfl) (pv 1) (pe_tup (pa_cons pe_non pa_nil))) pa_nil)))))))))))
       (pss_one (ps_ret (pe_call GO hr2 rfl mO kO bO .nil pass0 (pa_cons (pv 0) (pa_cons (pe_op op_cat (pv 5) (pe_lst (pa_cons (pe_op (opCatA (K := K) rfl) (pv 1) (pe_tup (pa_cons (pe_tup (pa_cons pe_str (pa_cons pe_int (pa_cons pe_int (pa_cons pe_int (pa_cons pe_str pa_nil)))))) pa_nil))) pa_nil))) pa_nil))))))
       pss_nil)
       (pss_cons (ps_set (i := 6) scBent.nd rfl (Or.inl rfl) (pe_call GN hr1 rfl mN kN bN .nil pass0 (pa_cons (pv 0) (pa_cons (pe_callB (lenK (K := K) rfl) (by rfl) B.len PySem.boot_len (pa_cons (pv 3) pa_nil)) pa_nil))))
       (pss_cons (ps_set (i := 7) scBent.nd rfl (Or.inl rfl) (pe_lst (pa_cons pe_bl (pa_cons pe_bl (pa_cons pe_non (pa_cons (pe_un un_neg pe_int) (pa_cons pe_str (pa_cons pe_str (pa_cons pe_str (pa_cons pe_str (pa_cons pe_str (pa_cons pe_int (pa_cons pe_int (pa_cons (pe_op op_pow pe_int pe_int) (pa_cons (pe_lst (pa_cons pe_int pa_nil)) (pa_cons (pe_tup (pa_cons pe_int pa_nil)) (pa_cons pe_str pa_nil)))))))))))))))))
       (pss_cons (ps_set (i := 8) scBent.nd rfl (Or.inl rfl) (pe_call GO hr2 rfl mO kO bO .nil pass0 (pa_cons (pv 0) (pa_cons (pv 7) pa_nil))))
       (pss_cons (ps_if (PW.pt (pw_and (pt_cmpR op_gt (pv 4) pe_int (nomark _)) (pw_and1 (pt_val (pe_call GI hr1 rfl mI kI bI .nil pass0 (pa_cons (pe_ix (ixT (K := K) rfl) (pv 3) (pv 6) (fun _ _ => rfl)) pa_nil))))))
       (pss_one (ps_set (i := 8) scBent.nd rfl (Or.inl rfl) (pe_op op_add (pe_ix (ixT (K := K) rfl) (pv 3) (pv 6) (fun _ _ => rfl)) (pe_call GO hr2 rfl mO kO bO .nil pass0 (pa_cons (pv 0) (pa_cons (pe_lst (pa_cons pe_int (pa_cons (pe_un un_neg pe_int) (pa_cons pe_int pa_nil)))) pa_nil))))))
       pss_nil)
       (pss_one (ps_ret (pe_op (opCatA (K := K) rfl) (pe_op (opCatA (K := K) rfl) (pe_slice (slA (K := K) rfl) (pv 1) po_none (po_some (pv 2))) (pe_tup (pa_cons (pe_op (opCatA (K := K) rfl) (pe_op (opCatA (K := K) rfl) (pe_slice (slA (K := K) rfl) (pv 3) po_none (po_some (pv 6))) (pe_tup (pa_cons (pv 8) pa_nil))) (pe_slice (slA (K := K) rfl) (pv 3) (po_some (pe_op op_add (pv 6) pe_int)) po_none)) pa_nil))) (pe_slice (slA (K := K) rfl) (pv 1) (po_some (pe_op op_add (pv 2) pe_int)) po_none))))))))))))))), ?_⟩
    have lx := wx.1
    refine ⟨_, rfl, _, rfl, _, xs.length, rfl, .inr ⟨_, ha, rfl⟩, d, cs, rd, _, _, rfl, by omega, by omega, by omega, D0, fun at' H1 at0 at1 k1 D1 t1 => ?_⟩
    obtain ⟨i, rfl⟩ : ∃ i : Nat, at' = (i : Int) := ⟨at'.toNat, by omega⟩
    have hi : i < rs.length := by omega
    have ha1 := SqT.tk ha t1
    have wx1 := wx.tk t1
    have ei := List.getElem?_eq_getElem hi
    have hgi := hg _ (List.getElem_mem hi)
    generalize rs[i] = r at ei hgi
    obtain ⟨b, eb, hb1⟩ := wx1.2 i r ei
    dsimp only [gName, List.set, tNext, L2.start]
    refine ⟨_, rfl, _, rfl, a, _, _, _, rfl, rfl, ha1, atI_nat eb, ?_⟩
    dsimp only [gName, List.set, tNext, L2.start]
    refine ⟨_, rfl, d, cs, rd, 10, _, rfl, by decide, by decide, by omega, D1, fun turn H2 tu0 tu1 k2 D2 t2 => ?_⟩
    dsimp only [gName, List.set, tNext, L2.start]
    have ha2 := SqT.tk ha1 t2
    have wx2 := wx1.tk t2
    have hb2 := SqT.tk hb1 t2
    have k02 := Kp.trans k1 k2
    have hx2 := wy_dk (K := K) D2.lm wx2
    have rowD : Dk K (hid [d, rd] H2) (.ref b) r.d := .tup (SqT.hid hb2 D2.lm) (dk_vals r)
    have elr : El r.d := el_row hgi
    have els : ∀ e ∈ rs.map Wy.d, El e := fun e he => by
      obtain ⟨q, hq, rfl⟩ := List.mem_map.mp he
      exact el_row (hg q hq)
    have lds : (rs.map Wy.d).length ≤ 14 := by rw [List.length_map]; exact l14
    generalize eds : rs.map Wy.d = ds at hx2 els lds
    have tp : ∀ es : List PyData, (∀ e ∈ es, El e) → es.length ≤ 20 → GQ (10 ^ 13) 6 9000 40 (.tuple es) := fun es h l => (gq_tup h l (Nat.le_refl 20)).mono (Nat.le_refl _) (by decide) (by decide) (by decide)
    have lp : ∀ es : List PyData, (∀ e ∈ es, El e) → es.length ≤ 20 → GQ (10 ^ 13) 6 9000 40 (.list es) := fun es h l => (gq_lst h l (Nat.le_refl 20)).mono (Nat.le_refl _) (by decide) (by decide) (by decide)
    have lxd : xs.length = ds.length := hx2.len
    have fin : ∀ (G : Hp) (x : Addr) (ys : List V) (es : List PyData), Same H2 G → SqT K G x ys → DkAll K (hid [d, rd] G) ys es → (∀ e ∈ es, El e) → es.length ≤ 20 → Q (.ref x) G := fun G x ys es s r dk h l => k G (.ref x) (.tuple es) (Kp.trans k02 (Kp.of s)) ((D2.same s).mono (by omega)) (.tup (SqT.hid r (D2.same s).lm) dk) (tp es h l)
    have eT : ∀ j, ∀ e ∈ ds.take j, El e := fun j e he => els e (List.mem_of_mem_take he)
    have eD : ∀ j, ∀ e ∈ ds.drop j, El e := fun j e he => els e (List.mem_of_mem_drop he)
    have eA : ∀ {as bs : List PyData}, (∀ e ∈ as, El e) → (∀ e ∈ bs, El e) → ∀ e ∈ as ++ bs, El e := fun ha hb e he => (List.mem_append.mp he).elim (ha e) (hb e)
    have lT : ∀ j, (ds.take j).length ≤ j := fun j => by rw [List.length_take]; omega
    have xT : ∀ j, (xs.take j).length ≤ 14 := fun j => by rw [List.length_take]; omega
    have xD : ∀ j, (xs.drop j).length ≤ 14 := fun j => by rw [List.length_drop]; omega
    -- turn 0
    refine ⟨_, rfl, rfl, _, rfl, iteI (fun c0 => ?_) (fun c0 => ?_)⟩
    · refine ⟨_, rfl, ?_⟩
      dsimp only [tNoPart]
      refine ⟨_, rfl, _, rfl, slA_sq ha2 fun H3 x3 s3 r3 => ?_⟩
      refine ⟨_, rfl, _, rfl, _, _, rfl, rfl, _, rfl, ?_⟩
      dsimp only [tNoPart]
      refine slA_sq (SqT.sm ha2 s3) fun H4 x4 s4 r4 => ?_
      rw [show cutL xs none (some (i : Int)) = xs.take i from cutL_to xs i] at r3
      rw [show cutL xs (some ((i : Int) + 1)) none = xs.drop (i + 1) from cutL_from xs (i + 1)] at r4
      refine catA_sq (SqT.sm r3 s4) r4 (by have := xT i; have := xD (i + 1); omega) fun H5 x5 s5 r5 => ?_
      have s25 := s3.trans (s4.trans s5)
      have hx5 := hx2.sm (hid_same s25)
      exact fin H5 x5 _ _ s25 r5 ((hx5.take i).app (hx5.drop (i + 1))) (eA (eT i) (eD (i + 1))) (by rw [List.length_append, List.length_drop, List.length_take]; omega)
    -- turn 1
    refine ⟨_, rfl, rfl, _, rfl, iteI (fun c1 => ?_) (fun c1 => ?_)⟩
    · refine ⟨_, rfl, ?_⟩
      dsimp only [tNoPart]
      refine ⟨_, rfl, _, rfl, slA_sq ha2 fun H3 x3 s3 r3 => ?_⟩
      rw [show cutL xs none (some (i : Int)) = xs.take i from cutL_to xs i] at r3
      refine ⟨_, rfl, _, rfl, (by show 2 ≤ sizeLine; decide), fun t4 n_t4 => ?_⟩
      obtain ⟨H4, e_H4, s4, r4⟩ := new_any n_t4
      rw [← e_H4]
      clear e_H4
      refine catA_sq (SqT.sm r3 s4) (SqT.of r4) (by have := xT i; rw [List.length_cons, List.length_cons, List.length_nil]; omega) fun H5 x5 s5 r5 => ?_
      refine ⟨_, rfl, _, rfl, _, _, rfl, rfl, _, rfl, ?_⟩
      dsimp only [tNoPart]
      refine slA_sq (SqT.sm ha2 (s3.trans (s4.trans s5))) fun H6 x6 s6 r6 => ?_
      rw [show cutL xs (some ((i : Int) + 1)) none = xs.drop (i + 1) from cutL_from xs (i + 1)] at r6
      refine catA_sq (SqT.sm r5 s6) r6 (by have := xT i; have := xD (i + 1); rw [List.length_append, List.length_cons, List.length_cons, List.length_nil]; omega) fun H7 x7 s7 r7 => ?_
      have s27 := s3.trans (s4.trans (s5.trans (s6.trans s7)))
      have hx7 := hx2.sm (hid_same s27)
      have rD := rowD.sm (hid_same s27)
      exact fin H7 x7 _ _ s27 r7 (((hx7.take i).app (.cons rD (.cons rD .nil))).app (hx7.drop (i + 1))) (eA (eA (eT i) (List.forall_mem_cons.mpr ⟨elr, List.forall_mem_cons.mpr ⟨elr, nilP⟩⟩)) (eD (i + 1))) (by rw [List.length_append, List.length_append, List.length_drop, List.length_take, List.length_cons, List.length_cons, List.length_nil]; omega)
    -- turn 2
    dsimp only [tNext]
    refine seq_if (fun σ' H' => σ' = [some (.ref d), some (.ref a), some (.int (i : Int)), some (.ref b), some (.int turn), none, none, none, none] ∧ H2 = H') ?rest (fun rest => ?_)
    rotate_left
    · refine ⟨_, rfl, rfl, _, rfl, iteI (fun c2 => ?_) (fun c2 => rest _ _ ⟨rfl, rfl⟩)⟩
      refine ⟨_, rfl, _, _, rfl, rfl, _, rfl, _, xs.length, rfl, .inr ⟨_, ha2, rfl⟩, _, _, rfl, rfl, _, rfl, iteP (fun c3 => ?_) (fun c3 => rest _ _ ⟨rfl, rfl⟩)⟩
      have hi1 : i + 1 < ds.length := by omega
      obtain ⟨y, ey, hy⟩ := hx2.get (List.getElem?_eq_getElem hi1)
      have ely := els _ (List.getElem_mem hi1)
      refine ⟨_, rfl, ?_⟩
      dsimp only [tNoPart]
      refine ⟨_, rfl, _, rfl, slA_sq ha2 fun H3 x3 s3 r3 => ?_⟩
      rw [show cutL xs none (some (i : Int)) = xs.take i from cutL_to xs i] at r3
      refine ⟨_, rfl, _, rfl, _, _, rfl, rfl, a, _, _, _, rfl, rfl, SqT.sm ha2 s3, atI_nat (j := i + 1) ey, _, rfl, (by show 2 ≤ sizeLine; decide), fun t4 n_t4 => ?_⟩
      obtain ⟨H4, e_H4, s4, r4⟩ := new_any n_t4
      rw [← e_H4]
      clear e_H4
      refine catA_sq (SqT.sm r3 s4) (SqT.of r4) (by have := xT i; rw [List.length_cons, List.length_cons, List.length_nil]; omega) fun H5 x5 s5 r5 => ?_
      refine ⟨_, rfl, _, rfl, _, _, rfl, rfl, _, rfl, ?_⟩
      dsimp only [tNoPart]
      refine slA_sq (SqT.sm ha2 (s3.trans (s4.trans s5))) fun H6 x6 s6 r6 => ?_
      rw [show cutL xs (some ((i : Int) + 2)) none = xs.drop (i + 2) from cutL_from xs (i + 2)] at r6
      refine catA_sq (SqT.sm r5 s6) r6 (by have := xT i; have := xD (i + 2); rw [List.length_append, List.length_cons, List.length_cons, List.length_nil]; omega) fun H7 x7 s7 r7 => ?_
      have s27 := s3.trans (s4.trans (s5.trans (s6.trans s7)))
      have hx7 := hx2.sm (hid_same s27)
      exact fin H7 x7 _ _ s27 r7 (((hx7.take i).app (.cons (hy.sm (hid_same s27)) (.cons (rowD.sm (hid_same s27)) .nil))).app (hx7.drop (i + 2))) (eA (eA (eT i) (List.forall_mem_cons.mpr ⟨ely, List.forall_mem_cons.mpr ⟨elr, nilP⟩⟩)) (eD (i + 2))) (by rw [List.length_append, List.length_append, List.length_drop, List.length_take, List.length_cons, List.length_cons, List.length_nil]; omega)
    rintro σ' H' ⟨rfl, rfl⟩
    -- turn 3
    refine ⟨_, rfl, rfl, _, rfl, iteI (fun c3 => ?_) (fun c3 => ?_)⟩
    · refine ⟨_, rfl, a, xs, rfl, .inr ha2, fun l3 n_l3 => ?_⟩
      obtain ⟨H3, e_H3, s3, r3⟩ := new_any n_l3
      rw [← e_H3]
      clear e_H3
      refine ⟨_, rfl, ?_⟩
      dsimp only [tNoPart]
      refine ⟨a, xs, rfl, SqT.sm ha2 s3, fun x4 n_x4 => ?_⟩
      obtain ⟨H4, e_H4, s4, r4⟩ := new_any n_x4
      rw [← e_H4]
      clear e_H4
      rw [show xs.take (revLen xs.length none) = xs from List.take_length] at r4
      have s24 := s3.trans s4
      refine ⟨(by show 0 ≤ sizeLine; decide), fun t5 n_t5 => ?_⟩
      obtain ⟨H5, e_H5, s5, r5⟩ := new_any n_t5
      rw [← e_H5]
      clear e_H5
      have s25 := s24.trans s5
      refine ⟨_, rfl, (by show 1 ≤ sizeLine; decide), fun t6 n_t6 => ?_⟩
      obtain ⟨H6, e_H6, s6, r6⟩ := new_any n_t6
      rw [← e_H6]
      clear e_H6
      have s26 := s25.trans s6
      refine ⟨_, rfl, (by show 0 ≤ sizeLine; decide), fun t7 n_t7 => ?_⟩
      obtain ⟨H7, e_H7, s7, r7⟩ := new_any n_t7
      rw [← e_H7]
      clear e_H7
      refine ⟨(by show 1 ≤ sizeLine; decide), fun t8 n_t8 => ?_⟩
      obtain ⟨H8, e_H8, s8, r8⟩ := new_any n_t8
      rw [← e_H8]
      clear e_H8
      have s28 := s26.trans (s7.trans s8)
      refine catA_sq (SqT.sm ha2 s28) (SqT.of r8) (by rw [List.length_singleton]; omega) fun H9 x9 s9 r9 => ?_
      have s29 := s28.trans s9
      refine ⟨_, rfl, (by show 1 ≤ sizeLine; decide), fun t10 n_t10 => ?_⟩
      obtain ⟨H10, e_H10, s10, r10⟩ := new_any n_t10
      rw [← e_H10]
      clear e_H10
      refine catA_sq (SqT.sm ha2 (s29.trans s10)) (SqT.of r10) (by rw [List.length_singleton]; omega) fun H11 x11 s11 r11 => ?_
      refine ⟨(by show 9 ≤ sizeLine; decide), fun l12 n_l12 => ?_⟩
      obtain ⟨H12, e_H12, s12, r12⟩ := new_any n_l12
      rw [← e_H12]
      clear e_H12
      have s212 := s29.trans (s10.trans (s11.trans s12))
      dsimp only [gName, List.set, tNext]
      refine ⟨_, rfl, _, rfl, _, rfl, (by show 5 ≤ sizeLine; decide), fun t13 n_t13 => ?_⟩
      obtain ⟨H13, e_H13, s13, r13⟩ := new_any n_t13
      rw [← e_H13]
      clear e_H13
      refine ⟨(by show 1 ≤ sizeLine; decide), fun t14 n_t14 => ?_⟩
      obtain ⟨H14, e_H14, s14, r14⟩ := new_any n_t14
      rw [← e_H14]
      clear e_H14
      have s214 := s212.trans (s13.trans s14)
      refine catA_sq (SqT.sm ha2 s214) (SqT.of r14) (by rw [List.length_singleton]; omega) fun H15 x15 s15 r15 => ?_
      refine ⟨(by show 1 ≤ sizeLine; decide), fun l16 n_l16 => ?_⟩
      obtain ⟨H16, e_H16, s16, r16⟩ := new_any n_l16
      rw [← e_H16]
      clear e_H16
      have s1216 := s13.trans (s14.trans (s15.trans s16))
      refine ⟨l12, l16, _, _, rfl, rfl, s1216 _ _ r12, r16, (by show 10 ≤ sizeLine; decide), fun l17 n_l17 => ?_⟩
      obtain ⟨H17, e_H17, s17, r17⟩ := new_any n_l17
      rw [← e_H17]
      clear e_H17
      have s217 := s212.trans (s1216.trans s17)
      have D17 := D2.same s217
      have n17 := (D2.same (s212.trans s1216)).new n_l17
      have lm := D17.lm
      have hx := hx2.sm (hid_same s217)
      have hm : ∀ {q : Addr} {ys : List V} {G : Hp}, SqT K G q ys → Same G H17 → SqT K (hid [d, rd] H17) q ys := fun h s => SqT.hid (SqT.sm h s) lm
      have hml : ∀ {q : Addr} {ys : List V} {G : Hp}, q ∉ [d, rd] → G q = some (.lst ys) → Same G H17 → SqL K (hid [d, rd] H17) q ys := fun n h s => SqL.of (hid_at n (s _ _ h))
      have z17 : Same H16 H17 := s17
      have z15 : Same H15 H17 := s16.trans s17
      have z14 : Same H14 H17 := s15.trans z15
      have z13 : Same H13 H17 := s14.trans z14
      have z12 : Same H12 H17 := s13.trans z13
      have z11 : Same H11 H17 := s12.trans z12
      have z10 : Same H10 H17 := s11.trans z11
      have z9 : Same H9 H17 := s10.trans z10
      have z8 : Same H8 H17 := s9.trans z9
      have z7 : Same H7 H17 := s8.trans z8
      have z6 : Same H6 H17 := s7.trans z7
      have z5 : Same H5 H17 := s6.trans z6
      have z4 : Same H4 H17 := s5.trans z5
      have z3 : Same H3 H17 := s4.trans z4
      have all : DkAll K (hid [d, rd] H17) ([.ref l3, .ref x4, .non, .ref t5, .str ("sent" : Str), .int 5, .ref t6, .ref x9, .ref x11] ++ [.ref x15]) ([.list ds, .tuple ds.reverse, .none, .tuple [], .str ("sent" : Str), .int 5, .tuple [.tuple ds], .tuple (ds ++ [.tuple []]), .tuple (ds ++ [.none])] ++ [.tuple (ds ++ [.tuple [.str ("came" : Str), .int 1, .int 2, .int 3, .str ("hand" : Str)]])]) :=
        .cons (.lst (hml (D2.nm n_l3) r3 z3) hx) (.cons (.tup (hm (SqT.of r4) z4) hx.rev) (.cons .non (.cons (.tup (hm (SqT.of r5) z5) .nil) (.cons (.str _) (.cons (.int _) (.cons (.tup (hm (SqT.of r6) z6) (.cons (.tup (hm ha2 s217) hx) .nil))
          (.cons (.tup (hm r9 z9) (hx.app (.cons (.tup (hm (SqT.of r7) z7) .nil) .nil))) (.cons (.tup (hm r11 z11) (hx.app (.cons .non .nil))) (.cons (.tup (hm r15 z15) (hx.app (.cons (.tup (hm (SqT.of r13) z13) (.cons (.str _) (.cons (.int _) (.cons (.int _) (.cons (.int _) (.cons (.str _) .nil)))))) .nil))) .nil)))))))))
      have e0 : El (.tuple []) := el_of nilP (by decide)
      have eN : El .none := ⟨rfl, Nat.zero_le _, Nat.zero_le _, Nat.zero_le _⟩
      have eC : El (.tuple [.str ("came" : Str), .int 1, .int 2, .int 3, .str ("hand" : Str)]) := by
        have h : gq (10 ^ 13) (.tuple [.str ("came" : Str), .int 1, .int 2, .int 3, .str ("hand" : Str)]) = true ∧ (PyData.tuple [.str ("came" : Str), .int 1, .int 2, .int 3, .str ("hand" : Str)]).depth ≤ 2 ∧ (PyData.tuple [.str ("came" : Str), .int 1, .int 2, .int 3, .str ("hand" : Str)]).bulk ≤ 210 ∧ wid (.tuple [.str ("came" : Str), .int 1, .int 2, .int 3, .str ("hand" : Str)]) ≤ 20 := by decide +kernel
        exact ⟨h.1, h.2.1, h.2.2.1, h.2.2.2⟩
      have one : ∀ {e : PyData}, El e → ∀ x ∈ [e], El x := fun h => List.forall_mem_cons.mpr ⟨h, nilP⟩
      have sml : ∀ {e : PyData}, El e → GQ (10 ^ 13) 6 9000 40 e := fun h => h.mono (Nat.le_refl _) (by decide) (by decide) (by decide)
      have bnd : ∀ D ∈ ([.list ds, .tuple ds.reverse, .none, .tuple [], .str ("sent" : Str), .int 5, .tuple [.tuple ds], .tuple (ds ++ [.tuple []]), .tuple (ds ++ [.none])] ++ [.tuple (ds ++ [.tuple [.str ("came" : Str), .int 1, .int 2, .int 3, .str ("hand" : Str)]])] : List PyData), GQ (10 ^ 13) 6 9000 40 D := by
        have a1 : ∀ {e : PyData}, (ds ++ [e]).length ≤ 20 := fun {e} => by rw [List.length_append, List.length_singleton]; omega
        simp only [List.cons_append, List.nil_append]
        refine List.forall_mem_cons.mpr ⟨lp ds els (by omega), List.forall_mem_cons.mpr ⟨tp _ (fun e he => els e (List.mem_reverse.mp he)) (by rw [List.length_reverse]; omega), List.forall_mem_cons.mpr ⟨sml eN, List.forall_mem_cons.mpr ⟨sml e0, List.forall_mem_cons.mpr ⟨⟨by decide +kernel, by decide +kernel, by decide +kernel, by decide +kernel⟩, List.forall_mem_cons.mpr ⟨⟨by decide +kernel, by decide +kernel, by decide +kernel, by decide +kernel⟩, List.forall_mem_cons.mpr ⟨?_, List.forall_mem_cons.mpr ⟨tp _ (eA els (one e0)) a1, List.forall_mem_cons.mpr ⟨tp _ (eA els (one eN)) a1, List.forall_mem_cons.mpr ⟨tp _ (eA els (one eC)) a1, nilP⟩⟩⟩⟩⟩⟩⟩⟩⟩⟩
        have z := gq_tup els (show ds.length ≤ 20 by omega) (Nat.le_refl 20)
        have z2 := gq_tup (es := [.tuple ds]) (L := 1) (List.forall_mem_cons.mpr ⟨z, nilP⟩) (Nat.le_refl 1) (by decide)
        exact z2.mono (Nat.le_refl _) (by decide) (by decide) (by decide)
      refine ⟨d, cs, rd, l17, _, _, rfl, SqL.of r17, n17.1, n17.2.2, Nat.le_of_ble_eq_true rfl, Nat.le_of_ble_eq_true rfl, by omega, D17, fun j x H18 ej k18 D18 t18 => ?_⟩
      obtain ⟨D, eD', dD⟩ := all.getV ej
      exact k H18 x D (Kp.trans k02 (Kp.trans (Kp.of s217) k18)) (D18.mono (by omega)) (dD.sm (hid_kp k18)) (bnd D (List.mem_of_getElem? eD'))
    dsimp only [tNext]
    refine ⟨_, rfl, _, rfl, _, r.v.length, rfl, .inr ⟨_, hb2, rfl⟩, d, cs, rd, _, _, rfl, ?_, ?_, by omega, D2, fun sp' H3 sp0 sp1 k3 D3 t3 => ?_⟩
    · have := row_len1 r
      have h2 := (dk_vals (K := K) (H := H2) r).len
      omega
    · have := row_len r
      have h2 := (dk_vals (K := K) (H := H2) r).len
      omega
    obtain ⟨sp, rfl⟩ : ∃ sp : Nat, sp' = (sp : Int) := ⟨sp'.toNat, by omega⟩
    dsimp only [gName, List.set, tNext]
    have lrv : r.v.length = (PyData.str r.w :: r.pd).length := (dk_vals (K := K) (H := H2) r).len
    have hsp : sp < r.v.length := by omega
    have ha3 := SqT.tk ha2 t3
    have wx3 := wx2.tk t3
    have hb3 := SqT.tk hb2 t3
    refine seq_set (lst_mk (K := K) (Ds := oddW) (by repeat first | exact Mk.non | exact Mk.bl | exact Mk.int | exact Mk.str | exact Mk.neg | exact MkA.nil | refine MkA.cons ?_ ?_ | refine Mk.tup ?_ (by decide) | refine Mk.lst ?_ (by decide) | refine Mk.pow ⟨by decide, by decide, by decide⟩) fun H4 xs4 s4 d4 => ?_)
    have x4 : xs4.length = 15 := d4.len
    refine ⟨by rw [x4]; decide, fun l5 n_l5 => ?_⟩
    obtain ⟨H5, e_H5, s5, r5⟩ := new_any n_l5
    rw [← e_H5]
    clear e_H5
    have D5 := (D3.same s4).same s5
    have n5 := (D3.same s4).new n_l5
    have q5 := (d4.sm (nw_hid D3.nn)).sm (hid_same s5)
    refine ⟨_, rfl, _, rfl, d, cs, rd, l5, _, _, rfl, SqL.of r5, n5.1, n5.2.2, by rw [x4]; decide, by rw [x4]; decide, by omega, D5, fun j x H6 ej k6 D6 t6 => ?_⟩
    obtain ⟨X, eX, dX⟩ := q5.getV ej
    have fX := odd_fl X (List.mem_of_getElem? eX)
    have dX6 := dX.sm (hid_kp k6)
    have tk6 : TK H3 H6 := (TK.of (s4.trans s5)).trans t6
    have k06 : Kp [d, rd] H H6 := Kp.trans k02 (Kp.trans k3 (Kp.trans (Kp.of (s4.trans s5)) k6))
    have ha6 := SqT.tk ha3 tk6
    have wx6 := wx3.tk tk6
    have hb6 := SqT.tk hb3 tk6
    dsimp only [gName, List.set, tNext]
    refine seq_if (fun σ' H' => ∃ (y : V) (Y : PyData) (v7 : Option V), σ' = [some (.ref d), some (.ref a), some (.int (i : Int)), some (.ref b), some (.int turn), none, some (.int (sp : Int)), v7, some y] ∧ Kp [d, rd] H H' ∧ Deck2 H' d cs rd (n + 6) ∧ Dk K (hid [d, rd] H') y Y ∧ Fl Y ∧ TK H6 H') ?rest2 (fun rest => ?_)
    rotate_left
    · have r0 := rest _ _ ⟨x, X, some (.ref l5), rfl, k06, D6.mono (by omega), dX6, fX, TK.refl _⟩
      refine ⟨_, rfl, _, _, rfl, rfl, _, rfl, iteP (fun c4 => ?_) (fun _ => r0)⟩
      obtain ⟨y, ey⟩ : ∃ y, r.v[sp]? = some y := ⟨_, List.getElem?_eq_getElem hsp⟩
      obtain ⟨Y, eY, dY⟩ := (dk_vals (K := K) (H := H6) r).getV ey
      have fe := hgi Y (List.mem_of_getElem? eY)
      refine ⟨_, rfl, _, rfl, b, _, _, _, rfl, rfl, hb6, atI_nat ey, y, Y, rfl, dY, _, rfl, iteB (fun c5 => ?_) (fun _ => r0)⟩
      obtain ⟨q, rfl, q0⟩ := cnt_inv c5
      obtain rfl := dY.inv_int
      have q1 : q.natAbs ≤ 1000 := of_decide_eq_true fe.1
      refine ⟨_, rfl, _, rfl, b, _, _, _, rfl, rfl, hb6, atI_nat ey, ?_⟩
      refine ⟨_, rfl, 1, rfl, (by show 3 ≤ sizeLine; decide), fun l7 n_l7 => ?_⟩
      obtain ⟨H7, e_H7, s7, r7⟩ := new_any n_l7
      rw [← e_H7]
      clear e_H7
      have n7 := D6.new n_l7
      refine ⟨d, cs, rd, l7, _, _, rfl, SqL.of r7, n7.1, n7.2.2, Nat.le_of_ble_eq_true rfl, Nat.le_of_ble_eq_true rfl, by omega, D6.same s7, fun j7 x7 H8 ej7 k8 D8 t8 => ?_⟩
      obtain ⟨c, rfl, c0, c1⟩ : ∃ c : Int, x7 = .int c ∧ -2 ≤ c ∧ c ≤ 2 := by
        rcases j7 with _ | _ | _ | j7
        · cases ej7
          exact ⟨_, rfl, by decide, by decide⟩
        · cases ej7
          exact ⟨_, rfl, by decide, by decide⟩
        · cases ej7
          exact ⟨_, rfl, by decide, by decide⟩
        · cases ej7
      refine ⟨_, _, rfl, rfl, ?_⟩
      exact rest _ _ ⟨_, .int (q + c), some (.ref l5), rfl, Kp.trans k06 (Kp.trans (Kp.of s7) k8), D8.mono (by omega), .int _, fl_int (by omega), (TK.of s7).trans t8⟩
    rintro σ' H7 ⟨y, Y, v7, rfl, k7, D7, dY, fY, t7⟩
    have ha7 := SqT.tk ha6 t7
    have wx7 := wx6.tk t7
    have hb7 := SqT.tk hb6 t7
    have hx7 := wy_dk (K := K) D7.lm wx7
    rw [eds] at hx7
    refine ⟨_, rfl, ?_⟩
    dsimp only [tNoPart]
    refine ⟨_, rfl, _, rfl, slA_sq ha7 fun H8 x8 s8 r8 => ?_⟩
    rw [show cutL xs none (some (i : Int)) = xs.take i from cutL_to xs i] at r8
    refine ⟨_, rfl, ?_⟩
    dsimp only [tNoPart]
    refine ⟨_, rfl, _, rfl, slA_sq (SqT.sm hb7 s8) fun H9 x9 s9 r9 => ?_⟩
    rw [show cutL r.v none (some (sp : Int)) = r.v.take sp from cutL_to r.v sp] at r9
    refine ⟨_, rfl, (by show 1 ≤ sizeLine; decide), fun t10 n_t10 => ?_⟩
    obtain ⟨H10, e_H10, s10, r10⟩ := new_any n_t10
    rw [← e_H10]
    clear e_H10
    have lrv2 := row_len r
    refine catA_sq (SqT.sm r9 s10) (SqT.of r10) (by rw [List.length_take, List.length_singleton]; omega) fun H11 x11 s11 r11 => ?_
    refine ⟨_, rfl, _, rfl, _, _, rfl, rfl, _, rfl, ?_⟩
    dsimp only [tNoPart]
    refine slA_sq (SqT.sm hb7 (s8.trans (s9.trans (s10.trans s11)))) fun H12 x12 s12 r12 => ?_
    rw [show cutL r.v (some ((sp : Int) + 1)) none = r.v.drop (sp + 1) from cutL_from r.v (sp + 1)] at r12
    refine catA_sq (SqT.sm r11 s12) r12 (by rw [List.length_append, List.length_take, List.length_drop, List.length_singleton]; omega) fun H13 x13 s13 r13 => ?_
    refine ⟨(by show 1 ≤ sizeLine; decide), fun t14 n_t14 => ?_⟩
    obtain ⟨H14, e_H14, s14, r14⟩ := new_any n_t14
    rw [← e_H14]
    clear e_H14
    have s814 := s9.trans (s10.trans (s11.trans (s12.trans (s13.trans s14))))
    refine catA_sq (SqT.sm r8 s814) (SqT.of r14) (by have := xT i; rw [List.length_singleton]; omega) fun H15 x15 s15 r15 => ?_
    refine ⟨_, rfl, _, rfl, _, _, rfl, rfl, _, rfl, ?_⟩
    dsimp only [tNoPart]
    have s715 := s8.trans (s814.trans s15)
    refine slA_sq (SqT.sm ha7 s715) fun H16 x16 s16 r16 => ?_
    rw [show cutL xs (some ((i : Int) + 1)) none = xs.drop (i + 1) from cutL_from xs (i + 1)] at r16
    refine catA_sq (SqT.sm r15 s16) r16 (by have := xT i; have := xD (i + 1); rw [List.length_append, List.length_singleton]; omega) fun H17 x17 s17 r17 => ?_
    have s717 := s715.trans (s16.trans s17)
    have D17 := D7.same s717
    have hx17 := hx7.sm (hid_same s717)
    have dv := dk_vals (K := K) (H := hid [d, rd] H17) r
    have dRow : Dk K (hid [d, rd] H17) (.ref x13) (.tuple ((PyData.str r.w :: r.pd).take sp ++ [Y] ++ (PyData.str r.w :: r.pd).drop (sp + 1))) :=
      .tup (SqT.hid (SqT.sm r13 (s14.trans (s15.trans (s16.trans s17)))) D17.lm) (((dv.take sp).app (.cons (dY.sm (hid_same s717)) .nil)).app (dv.drop (sp + 1)))
    have fr := fl_row hgi
    have eRow : El (.tuple ((PyData.str r.w :: r.pd).take sp ++ [Y] ++ (PyData.str r.w :: r.pd).drop (sp + 1))) := by
      refine el_of (fun e he => ?_) ?_
      · rcases List.mem_append.mp he with h | h
        · rcases List.mem_append.mp h with h | h
          · exact fr e (List.mem_of_mem_take h)
          · rw [List.mem_singleton.mp h]
            exact fY
        · exact fr e (List.mem_of_mem_drop h)
      · rw [List.length_append, List.length_append, List.length_take, List.length_drop, List.length_singleton]
        omega
    exact k H17 (.ref x17) _ (Kp.trans k7 (Kp.of s717)) (D17.mono (by omega)) (.tup (SqT.hid r17 D17.lm) (((hx17.take i).app (.cons dRow .nil)).app (hx17.drop (i + 1)))) (tp _ (eA (eA (eT i) (List.forall_mem_cons.mpr ⟨eRow, nilP⟩)) (eD (i + 1))) (by rw [List.length_append, List.length_append, List.length_drop, List.length_take, List.length_singleton]; omega))
end
end Wn

set_option maxHeartbeats 1600000
namespace Wn
open PySem L2
set_option pp.maxSteps 700
set_option pp.deepTerms false
local macro_rules | `(tactic| walk_at "h") => `(tactic| first | with_reducible assumption | (with_reducible exact upd_same) | (with_reducible apply g_upd; (walk_at "neq"); (walk_at "h")) | (with_reducible apply g_same; (with_reducible assumption); (walk_at "h")) | (with_reducible apply g_kp; (with_reducible assumption); (walk_at "nin"); (walk_at "h")) | (with_reducible apply g_tk; (with_reducible assumption); (walk_at "h")))
local macro_rules | `(tactic| walk_at "neq") => `(tactic| first | with_reducible assumption | (with_reducible apply Ne.symm; with_reducible assumption) | (with_reducible apply ne_upd; (with_reducible assumption)) | (with_reducible apply Ne.symm; with_reducible apply ne_upd; with_reducible assumption) | (with_reducible apply ne_fr; (with_reducible assumption); (walk_at "h")) | (with_reducible apply ne_fr'; (with_reducible assumption); (walk_at "h")) | (with_reducible apply ne_kd; (walk_at "h"); (walk_at "h"); (with_unfolding_all (intro z; cases z))))
local macro_rules | `(tactic| walk_at "nin") => `(tactic| first | (with_reducible exact nin0) | with_reducible assumption | (with_reducible apply ninc; (walk_at "neq"); (walk_at "nin")))
local macro_rules | `(tactic| walk_at "none") => `(tactic| first | with_reducible assumption | (with_reducible apply n_upd; (with_reducible assumption)) | (with_reducible apply n_same; (with_reducible assumption); (walk_at "none")) | (with_reducible apply n_kp; (with_reducible assumption); (walk_at "nin"); (walk_at "none")))
local macro_rules | `(tactic| walk_at "mem") => `(tactic| first | (with_reducible exact List.mem_cons_self) | (with_reducible apply List.mem_cons_of_mem; (walk_at "mem")))
local macro_rules | `(tactic| walk_at "am") => `(tactic| first | (with_reducible exact am0) | (with_reducible apply am1; (first | (apply Or.inl; walk_at "mem") | (apply Or.inr; walk_at "none")); (walk_at "am")))
local macro_rules | `(tactic| walk_at "tk") => `(tactic| first | (with_reducible exact TK.refl _) | with_reducible assumption | (with_reducible apply t_tk; (with_reducible assumption); (walk_at "tk")) | (with_reducible apply t_same; (with_reducible assumption); (walk_at "tk")) | (with_reducible apply t_new; (with_reducible assumption); (walk_at "tk")) | (with_reducible apply t_wr; (walk_at "h"); (with_unfolding_all rfl); (walk_at "tk")))
local macro_rules | `(tactic| walk_at "same") => `(tactic| first | (with_reducible exact L2.Same.refl _) | with_reducible assumption | (with_reducible apply s_same; (with_reducible assumption); (walk_at "same")) | (with_reducible apply s_new; (with_reducible assumption); (walk_at "same")) | (with_reducible apply s_wrn; (walk_at "none"); (walk_at "same")))
local macro_rules | `(tactic| walk_at "kp") => `(tactic| first | (with_reducible exact Kp.refl _ _) | with_reducible assumption | (with_reducible apply k_same; (with_reducible assumption); (walk_at "kp")) | (with_reducible apply k_kp; (with_reducible assumption); (walk_at "kp")) | (with_reducible apply k_kpm; (with_reducible assumption); (walk_at "am"); (walk_at "kp")) | (with_reducible apply k_new; (with_reducible assumption); (walk_at "kp")) | (with_reducible apply k_wr; (walk_at "mem"); (walk_at "kp")) | (with_reducible apply k_wrn; (walk_at "none"); (walk_at "kp")))
local macro_rules | `(tactic| walk_at "rp") => `(tactic| first | with_reducible assumption | (with_reducible exact Rp.int) | (with_reducible exact Rp.str) | (with_reducible exact Rp.none) | (with_reducible exact Rp.bool) | (with_reducible apply Rp.tk'; (with_reducible assumption); (walk_at "tk")) | (with_reducible apply Rp.tup; (walk_at "h"); (walk_at "rpl")))
local macro_rules | `(tactic| walk_at "rpl") => `(tactic| first | with_reducible assumption | (with_reducible exact RpL.nil) | (with_reducible apply RpL.tk'; (with_reducible assumption); (walk_at "tk")) | (with_reducible apply RpL.cons; (walk_at "rp"); (walk_at "rpl")))
local macro_rules | `(tactic| walk_at "g") => `(tactic| repeat (first | refine ⟨_, rfl, ?_⟩ | refine ⟨_, _, rfl, rfl, ?_⟩ | refine ⟨rfl, _, rfl, ?_⟩ | refine ⟨_, _, rfl, rfl, (by first | decide | omega), ?_⟩))
abbrev sLaw : Stmt := top 27
structure KBl (mg : Str → Option Value) : Prop where
  repr : mg "repr" = none
  range : mg "range" = none

theorem reprQK {X : Cx} {K : PySem.W.Frag} (hK : X.K = K) (hg : X.A.guards = some []) (hu : X.A.units + 64 < cLine) : CallR X (.builtin "repr") (rReprQ K) := hK ▸ call_reprQ hg hu
section
variable {P : Program} {w : World} {K : PySem.W.Frag} {mg : Str → Option Value} {base : Heap}
theorem scLaw : FnScope ["_law_script", "_law_deck_here", "_law_turn", "_law_way", "_law_k", "_law_thing", "_law_kept"] ["_law_script"] (defScope sLaw) := ⟨rfl, rfl, rfl, by decide +kernel, rfl, by decide +kernel, by decide +kernel⟩
theorem ok_law {f : Addr} {fd : FuncData} (F : Fun K "law" "law" sLaw f fd) (B : KBl mg) (cD : Cd P w K mg base 1 "_law_deck" ["_law_script"] (spDeck2 K)) (cM : Cd P w K mg base 3 "_law_made" ["_law_deck_here"] (spMade K)) (cB : Cd P w K mg base 3 "_law_bent" ["_law_deck_here", "_law_way"] (spBent K))
    (cW : Cd P w K mg base 3 "is_way" ["thing"] (spWay K)) (cL : Cd P w K mg base 4 "_law_is_way" ["_law_thing"] (spWay K)) : LawOk P w K mg base f fd ["_law_script"] (spLaw K) := by
  obtain ⟨fD, fdD, GD, mD, kD, bD⟩ := cD
  obtain ⟨fM, fdM, GM, mM, kM, bM⟩ := cM
  obtain ⟨fB, fdB, GB, mB, kB, bB⟩ := cB.tk
  obtain ⟨fW, fdW, GW, mW, kW, bW⟩ := cW
  obtain ⟨fL, fdL, GL, mL, kL, bL⟩ := cL
  refine law_ok (k := 4) F scLaw (fun vs H Q E h => ?_) ⟨rfl, by decide, by decide⟩ (fun cdv A s H vs Q hA hr h => ?_)
  · obtain ⟨a, ns, rfl, _⟩ := h
    rfl
  · obtain ⟨a, ns, rfl, hS, hl, k⟩ := h
    subst hA
    have hr1 : Room 1 _ := hr.mono (by decide)
    have hr3 : Room 3 _ := hr.mono (by decide)
    have hr4 : Room 4 _ := hr.mono (by decide)
    refine ⟨_, (pss_cons (ps_set (i := 1) scLaw.nd rfl (Or.inl rfl) (pe_call GD hr1 rfl mD kD bD .nil pass0 (pa_cons (pv 0) pa_nil)))
       (pss_cons (ps_for PassesOwn.never rfl (pi_range1 rfl B.range (pa_cons pe_int pa_nil)) (pg_name (i := 2) scLaw.nd rfl (Or.inl rfl))
       (pss_cons (ps_set (i := 3) scLaw.nd rfl (Or.inl rfl) (pe_call GM hr3 rfl mM kM bM .nil pass0 (pa_cons (pv 1) pa_nil)))
       (pss_cons (ps_if (pt_cmpR op_isnot_bl (pe_call GW hr3 rfl mW kW bW .nil pass0 (pa_cons (pv 3) pa_nil)) pe_bl (nomark _))
       (pss_one (ps_ret pe_bl))
       pss_nil)
       (pss_one (ps_for PassesOwn.never rfl (pi_range1 rfl B.range (pa_cons pe_int pa_nil)) (pg_name (i := 4) scLaw.nd rfl (Or.inl rfl))
       (pss_cons (ps_set (i := 5) scLaw.nd rfl (Or.inl rfl) (pe_call GB hr3 rfl mB kB bB .nil pass0 (pa_cons (pv 1) (pa_cons (pv 3) pa_nil))))
       (pss_cons (ps_set (i := 6) scLaw.nd rfl (Or.inl rfl) (pe_callB (reprQK (K := K) rfl rfl hr.units) (by rfl) B.repr (by decide +kernel) (pa_cons (pv 5) pa_nil)))
       (pss_one (ps_if (PW.pt (pw_or (pt_cmpR op_ne (pe_callB (reprQK (K := K) rfl rfl hr.units) (by rfl) B.repr (by decide +kernel) (pa_cons (pe_call GW hr3 rfl mW kW bW .nil pass0 (pa_cons (pv 5) pa_nil)) pa_nil)) (pe_callB (reprQK (K := K) rfl rfl hr.units) (by rfl) B.repr (by decide +kernel) (pa_cons (pe_call GL hr4 rfl mL kL bL .nil pass0 (pa_cons (pv 5) pa_nil)) pa_nil)) (nomark _)) (pw_or1 (pt_cmpR op_ne (pe_callB (reprQK (K := K) rfl rfl hr.units) (by rfl) B.repr (by decide +kernel) (pa_cons (pv 5) pa_nil)) (pv 6) (nomark _)))))
       (pss_one (ps_ret pe_bl))
       pss_nil)))))))))
       (pss_one (ps_ret pe_bl)))), ?_⟩
    refine ⟨_, rfl, a, ns, rfl, hS, hl, fun H1 d cs rd nd ncs nrd s1 D1 => ?_⟩
    refine ⟨4, rfl, by decide, by decide, ?_⟩
    refine for_range (lo := 0) (fun i σ H' => ∃ (v2 v3 v4 v5 v6 : Option V), σ = [some (.ref a), some (.ref d), v2, v3, v4, v5, v6] ∧ Deck2 H' d cs rd (1000 * i)) ⟨_, _, _, _, _, rfl, D1.mono (by omega)⟩ ?_ ?_
    · rintro i σ H2 hi ⟨v2, v3, v4, v5, v6, rfl, D2⟩
      have hi : i < 4 := hi
      refine ⟨_, rfl, d, cs, rd, _, rfl, D2, by omega, fun H3 wa xs fr tl bt pl k3 D3 ha wx mw ltl => ?_⟩
      have gAll : ∀ r ∈ fr :: tl, ∀ e ∈ PyData.str r.w :: r.pd, Fe e := List.forall_mem_cons.mpr ⟨mw.gf, mw.g⟩
      have hD : Dk K H3 (.ref wa) (.tuple ((fr :: tl).map Wy.d)) := Dk.of_hid (.tup (SqT.hid ha D3.lm) (wy_dk D3.lm wx))
      have hok : ∀ r ∈ fr :: tl, r.ok0 ∧ r.kindOk = true := List.forall_mem_cons.mpr ⟨⟨mw.okf, (sent_wr mw.sent).2.2⟩, fun r hr => ⟨mw.ok r hr, mw.kind r hr⟩⟩
      have hw : wid (.tuple ((fr :: tl).map Wy.d)) ≤ 1000 := wid_t.mpr ⟨by rw [List.length_map, List.length_cons]; omega, fun x hx => by
        obtain ⟨r, hr, rfl⟩ := List.mem_map.mp hx
        exact Nat.le_trans (el_row (gAll r hr)).w (by decide)⟩
      dsimp only [gName, List.set, tNext]
      refine ⟨_, rfl, _, _, rfl, hD, hw, fun H4 s4 => ?_⟩
      rw [wayJ_rows hok, mw.way]
      refine ⟨_, _, rfl, rfl, _, rfl, iteF ?_⟩
      have D4 := D3.same s4
      refine ⟨8, rfl, by decide, by decide, ?_⟩
      refine for_range (lo := 0) (fun q σ H' => ∃ (v4 v5 v6 : Option V), σ = [some (.ref a), some (.ref d), some (.int (0 + (i : Nat))), some (.ref wa), v4, v5, v6] ∧ Deck2 H' d cs rd (1000 * i + 200 + 20 * q) ∧ TK H4 H') ⟨_, _, _, rfl, D4.mono (by omega), TK.refl _⟩ ?_ ?_
      · rintro q σ H5 hq ⟨v4, v5, v6, rfl, D5, t5⟩
        have hq : q < 8 := hq
        have tk := (TK.of s4).trans t5
        refine ⟨_, rfl, _, rfl, d, cs, rd, wa, _, xs, _, rfl, D5, by omega, SqT.tk ha tk, wx.tk tk, by rw [List.length_cons]; omega, by rw [List.length_cons]; omega, gAll, fun H6 v E k6 D6 q6 G6 t6 => ?_⟩
        have q6' := q6.of_hid
        obtain ⟨e1, e2, e3, e4⟩ := G6.rep (by decide) (by decide) (by decide)
        have wE : wid E ≤ 1000 := Nat.le_trans G6.w (by decide)
        dsimp only [gName, List.set, tNext]
        refine ⟨_, rfl, v, E, rfl, q6', e1, e2, e3, e4, ?_⟩
        refine ⟨_, rfl, v, E, rfl, q6', wE, fun H7 s7 => ?_⟩
        have bl : ∀ b : Bool, okQ (.bool b) = true ∧ (PyData.bool b).showable = true ∧ (PyData.bool b).depth ≤ 60 ∧ (PyData.bool b).shown.length ≤ sizeLine := fun b => by
          cases b <;> exact ⟨rfl, rfl, by decide, by decide +kernel⟩
        obtain ⟨b1, b2, b3, b4⟩ := bl (wayJ E)
        refine ⟨_, .bool (wayJ E), rfl, .bl _, b1, b2, b3, b4, ?_⟩
        refine ⟨_, rfl, v, E, rfl, q6'.sm s7, wE, fun H8 s8 => ?_⟩
        refine ⟨_, .bool (wayJ E), rfl, .bl _, b1, b2, b3, b4, rfl, _, rfl, iteNS' (fun z => absurd rfl z) fun _ => ?_⟩
        refine ⟨_, rfl, v, E, rfl, q6'.sm (s7.trans s8), e1, e2, e3, e4, _, rfl, rfl, _, rfl, iteNS' (fun z => absurd rfl z) fun _ => ?_⟩
        exact ⟨_, _, _, rfl, (D6.same (s7.trans s8)).mono (by omega), t5.trans (t6.trans (TK.of (s7.trans s8)))⟩
      · rintro σ H5 ⟨v4, v5, v6, rfl, D5, _⟩
        exact ⟨_, _, _, _, _, rfl, D5.mono (by omega)⟩
    · rintro σ H2 ⟨v2, v3, v4, v5, v6, rfl, _⟩
      exact k H2
end
end Wn

namespace Wn
open PySem L2
/-! ### the tables of ways.py, from what the head tells -/
theorem nsIn_dw {K : PySem.W.Frag} {a : Addr} {c : Value} {od : Option Addr} {es : List DictEntry} {n : Nat} {sl : Array (Option Value)} (h : K.lookup a = some ⟨c, od, .dict es.toArray n, sl⟩) (z : Str) :
    PySem.W.nsIn K a z = match es.find? (·.key.isStr z) with
      | some e => some (some e.val)
      | none => if es.any (·.refKey) then none else some none := by
  unfold PySem.W.nsIn
  rw [h]
  rfl
theorem findw_cons {x z : Str} {t : Tok} {hh : Int} {v : Value} {es : List DictEntry} : List.find? (fun e : DictEntry => e.key.isStr z) (⟨hh, .str x t, v⟩ :: es) = if z = x then some ⟨hh, .str x t, v⟩ else es.find? (fun e : DictEntry => e.key.isStr z) := by
  rw [List.find?_cons]
  by_cases h : z = x
  · rw [if_pos h]
    have : (DictEntry.key ⟨hh, .str x t, v⟩).isStr z = true := by
      show (x == z) = true
      rw [h]
      exact beq_self_eq_true x
    rw [this]
  · rw [if_neg h]
    have : (DictEntry.key ⟨hh, .str x t, v⟩).isStr z = false := by
      show (x == z) = false
      exact beq_eq_false_iff_ne.mpr fun q => h q.symm
    rw [this]
def w5 {α : Type} (a b c d e : α) (z : Str) : α := if z = ("sent" : Str) then a else if z = ("wrapped" : Str) then b else if z = ("heard" : Str) then c else if z = ("dropped" : Str) then d else e
section
variable {K : PySem.W.Frag} {w : World} {h1 h2 h3 h4 h5 : Int} {t1 t2 t3 t4 t5 : Tok} {A : Addr} {v1 v2 v3 v4 v5 : Value} {n : Nat}
theorem lookW (lk : K.lookup A = some ⟨.type "dict", none, .dict #[⟨h1, .str "sent" t1, v1⟩, ⟨h2, .str "wrapped" t2, v2⟩, ⟨h3, .str "heard" t3, v3⟩, ⟨h4, .str "dropped" t4, v4⟩, ⟨h5, .str "passed" t5, v5⟩] n, #[]⟩) (z : Str) :
    PySem.W.nsIn K A z = some ((formsOf z).map fun _ => w5 v1 v2 v3 v4 v5 z) := by
  rw [nsIn_dw (es := [⟨h1, .str "sent" t1, v1⟩, ⟨h2, .str "wrapped" t2, v2⟩, ⟨h3, .str "heard" t3, v3⟩, ⟨h4, .str "dropped" t4, v4⟩, ⟨h5, .str "passed" t5, v5⟩]) lk]
  rw [findw_cons, findw_cons, findw_cons, findw_cons, findw_cons]
  unfold formsOf w5
  by_cases c1 : z = ("sent" : Str)
  · simp only [if_pos c1]; rfl
  by_cases c2 : z = ("wrapped" : Str)
  · simp only [if_neg c1, if_pos c2]; rfl
  by_cases c3 : z = ("heard" : Str)
  · simp only [if_neg c1, if_neg c2, if_pos c3]; rfl
  by_cases c4 : z = ("dropped" : Str)
  · simp only [if_neg c1, if_neg c2, if_neg c3, if_pos c4]; rfl
  by_cases c5 : z = ("passed" : Str)
  · simp only [if_neg c1, if_neg c2, if_neg c3, if_neg c4, if_pos c5]; rfl
  simp only [if_neg c1, if_neg c2, if_neg c3, if_neg c4, if_neg c5]
  rfl
theorem kdW (lk : K.lookup A = some ⟨.type "dict", none, .dict #[⟨h1, .str "sent" t1, v1⟩, ⟨h2, .str "wrapped" t2, v2⟩, ⟨h3, .str "heard" t3, v3⟩, ⟨h4, .str "dropped" t4, v4⟩, ⟨h5, .str "passed" t5, v5⟩] n, #[]⟩) (lo : (A == sysModules) = false)
    (e1 : h1 = PyData.keyHash w.params "sent") (e2 : h2 = PyData.keyHash w.params "wrapped") (e3 : h3 = PyData.keyHash w.params "heard") (e4 : h4 = PyData.keyHash w.params "dropped") (e5 : h5 = PyData.keyHash w.params "passed") :
    KDict K w A #[⟨h1, .str "sent" t1, v1⟩, ⟨h2, .str "wrapped" t2, v2⟩, ⟨h3, .str "heard" t3, v3⟩, ⟨h4, .str "dropped" t4, v4⟩, ⟨h5, .str "passed" t5, v5⟩] n :=
  ⟨lk, ⟨⟨_, _, rfl, e1⟩, ⟨_, _, rfl, e2⟩, ⟨_, _, rfl, e3⟩, ⟨_, _, rfl, e4⟩, ⟨_, _, rfl, e5⟩, trivial⟩, lo⟩
theorem sizesW {q1 q2 q3 q4 q5 : Tok} {z : Str} : (formsOf z).map (fun _ => w5 (Value.int 7 q1) (.int 10 q2) (.int 7 q3) (.int 7 q4) (.int 9 q5) z) = (formsOf z).map fun fs => Value.int ((fs.length + 1 : Nat) : Int) (w5 q1 q2 q3 q4 q5 z) := by
  cases e : formsOf z with
  | none => rfl
  | some fs => rcases formsOf_cases e with ⟨rfl, rfl⟩ | ⟨rfl, rfl⟩ | ⟨rfl, rfl⟩ | ⟨rfl, rfl⟩ | ⟨rfl, rfl⟩ <;> rfl
theorem refsW {a b c d e : Addr} {z : Str} : (formsOf z).map (fun _ => w5 (Value.ref a) (.ref b) (.ref c) (.ref d) (.ref e) z) = (formsOf z).map fun _ => Value.ref (w5 a b c d e z) := by
  cases q : formsOf z with
  | none => rfl
  | some fs => rcases formsOf_cases q with ⟨rfl, rfl⟩ | ⟨rfl, rfl⟩ | ⟨rfl, rfl⟩ | ⟨rfl, rfl⟩ | ⟨rfl, rfl⟩ <;> rfl
theorem tupsW {a b c d e : Addr} {f : Str → List Nat} (k1 : ∀ H, SqT K H a (nsV (f "sent"))) (k2 : ∀ H, SqT K H b (nsV (f "wrapped"))) (k3 : ∀ H, SqT K H c (nsV (f "heard"))) (k4 : ∀ H, SqT K H d (nsV (f "dropped"))) (k5 : ∀ H, SqT K H e (nsV (f "passed"))) :
    ∀ z, (formsOf z).isSome = true → ∀ H, SqT K H (w5 a b c d e z) (nsV (f z)) := by
  intro z h H
  cases q : formsOf z with
  | none => rw [q] at h; cases h
  | some fs =>
    rcases formsOf_cases q with ⟨rfl, rfl⟩ | ⟨rfl, rfl⟩ | ⟨rfl, rfl⟩ | ⟨rfl, rfl⟩ | ⟨rfl, rfl⟩
    · exact k1 H
    · exact k2 H
    · exact k3 H
    · exact k4 H
    · exact k5 H
theorem look2 (lk : K.lookup A = some ⟨.type "dict", none, .dict #[⟨h1, .str "wrapped" t1, .int 3 t3⟩, ⟨h2, .str "dropped" t2, .int 4 t4⟩] n, #[]⟩) (z : Str) :
    PySem.W.nsIn K A z = some ((kindAt z).map fun k => Value.int (k : Int) (if z = ("wrapped" : Str) then t3 else t4)) := by
  rw [nsIn_dw (es := [⟨h1, .str "wrapped" t1, .int 3 t3⟩, ⟨h2, .str "dropped" t2, .int 4 t4⟩]) lk]
  rw [findw_cons, findw_cons]
  unfold kindAt
  by_cases c1 : z = ("wrapped" : Str)
  · simp only [if_pos c1]; rfl
  by_cases c2 : z = ("dropped" : Str)
  · simp only [if_neg c1, if_pos c2]; rfl
  simp only [if_neg c1, if_neg c2]
  rfl
theorem kd2 (lk : K.lookup A = some ⟨.type "dict", none, .dict #[⟨h1, .str "wrapped" t1, v1⟩, ⟨h2, .str "dropped" t2, v2⟩] n, #[]⟩) (lo : (A == sysModules) = false) (e1 : h1 = PyData.keyHash w.params "wrapped") (e2 : h2 = PyData.keyHash w.params "dropped") :
    KDict K w A #[⟨h1, .str "wrapped" t1, v1⟩, ⟨h2, .str "dropped" t2, v2⟩] n := ⟨lk, ⟨⟨_, _, rfl, e1⟩, ⟨_, _, rfl, e2⟩, trivial⟩, lo⟩
theorem sqi3 {p : Addr} {d : Option Addr} {m : Nat} {sl : Array (Option Value)} {i j k : Nat} (h : K.lookup p = some ⟨.type "tuple", d, .seq #[.int i t1, .int j t2, .int k t3] m, sl⟩) : ∀ H, SqT K H p (nsV [i, j, k]) := fun H => .inr ⟨_, _, _, h, rfl, rfl, (by show 3 ≤ sizeLine; decide), .cons ⟨_, rfl⟩ (.cons ⟨_, rfl⟩ (.cons ⟨_, rfl⟩ .nil))⟩
theorem sqi2 {p : Addr} {d : Option Addr} {m : Nat} {sl : Array (Option Value)} {i j : Nat} (h : K.lookup p = some ⟨.type "tuple", d, .seq #[.int i t1, .int j t2] m, sl⟩) : ∀ H, SqT K H p (nsV [i, j]) := fun H => .inr ⟨_, _, _, h, rfl, rfl, (by show 2 ≤ sizeLine; decide), .cons ⟨_, rfl⟩ (.cons ⟨_, rfl⟩ .nil)⟩
theorem sqi1 {p : Addr} {d : Option Addr} {m : Nat} {sl : Array (Option Value)} {i : Nat} (h : K.lookup p = some ⟨.type "tuple", d, .seq #[.int i t1] m, sl⟩) : ∀ H, SqT K H p (nsV [i]) := fun H => .inr ⟨_, _, _, h, rfl, rfl, (by show 1 ≤ sizeLine; decide), .cons ⟨_, rfl⟩ .nil⟩
theorem sqi0 {p : Addr} {d : Option Addr} {m : Nat} {sl : Array (Option Value)} (h : K.lookup p = some ⟨.type "tuple", d, .seq #[] m, sl⟩) : ∀ H, SqT K H p (nsV []) := fun H => .inr ⟨_, _, _, h, rfl, rfl, (by show 0 ≤ sizeLine; decide), .nil⟩
end
end Wn

set_option maxHeartbeats 4000000
namespace Wn
open PySem L2
theorem all_mk {l : PySem.W.OpenLaw} {w : World} {K : PySem.W.Frag} {h : Heap} {mg : Str → Option Value} {fa A_KINDS f_is_whole f_letter_of f_is_row f_is_led_on f_are_wraps f_is_heard f_is_way f_law_deck f_law_draw f_law_one f_law_is_number f_law_forms f_law_fits f_law_is_row f_law_key f_law_is_way f_law_made f_law_bent f_law A_SIZES A_LETTERS A_WORDS A_KIND_AT TL_sent TL_wrapped TL_heard TL_dropped TL_passed TW_sent TW_wrapped TW_heard TW_dropped TW_passed : Addr} (X : K.In h) (G : h.Ns mainGlobals mg) (hfa : mg "law" = some (.ref fa))
    {dd_KINDS od_is_whole an_is_whole od_letter_of an_letter_of od_is_row an_is_row od_is_led_on an_is_led_on od_are_wraps an_are_wraps od_is_heard an_is_heard od_is_way an_is_way od_law_deck an_law_deck od_law_draw an_law_draw od_law_one an_law_one od_law_is_number an_law_is_number od_law_forms an_law_forms od_law_fits an_law_fits od_law_is_row an_law_is_row od_law_key an_law_key od_law_is_way an_law_is_way od_law_made an_law_made od_law_bent an_law_bent od_law an_law : Option Addr} {sl_KINDS sl_is_whole sl_letter_of sl_is_row sl_is_led_on sl_are_wraps sl_is_heard sl_is_way sl_law_deck sl_law_draw sl_law_one sl_law_is_number sl_law_forms sl_law_fits sl_law_is_row sl_law_key sl_law_is_way sl_law_made sl_law_bent sl_law : Array (Option Value)} {oc_is_whole kV_is_whole dc_is_whole pm_is_whole cd_is_whole ct_is_whole oc_letter_of kV_letter_of dc_letter_of pm_letter_of cd_letter_of ct_letter_of oc_is_row kV_is_row dc_is_row pm_is_row cd_is_row ct_is_row oc_is_led_on kV_is_led_on dc_is_led_on pm_is_led_on cd_is_led_on ct_is_led_on oc_are_wraps kV_are_wraps dc_are_wraps pm_are_wraps cd_are_wraps ct_are_wraps oc_is_heard kV_is_heard dc_is_heard pm_is_heard cd_is_heard ct_is_heard oc_is_way kV_is_way dc_is_way pm_is_way cd_is_way ct_is_way oc_law_deck kV_law_deck dc_law_deck pm_law_deck cd_law_deck ct_law_deck oc_law_draw kV_law_draw dc_law_draw pm_law_draw cd_law_draw ct_law_draw oc_law_one kV_law_one dc_law_one pm_law_one cd_law_one ct_law_one oc_law_is_number kV_law_is_number dc_law_is_number pm_law_is_number cd_law_is_number ct_law_is_number oc_law_forms kV_law_forms dc_law_forms pm_law_forms cd_law_forms ct_law_forms oc_law_fits kV_law_fits dc_law_fits pm_law_fits cd_law_fits ct_law_fits oc_law_is_row kV_law_is_row dc_law_is_row pm_law_is_row cd_law_is_row ct_law_is_row oc_law_key kV_law_key dc_law_key pm_law_key cd_law_key ct_law_key oc_law_is_way kV_law_is_way dc_law_is_way pm_law_is_way cd_law_is_way ct_law_is_way oc_law_made kV_law_made dc_law_made pm_law_made cd_law_made ct_law_made oc_law_bent kV_law_bent dc_law_bent pm_law_bent cd_law_bent ct_law_bent oc_law kV_law dc_law pm_law cd_law ct_law : Value} {t_COUNT tk_l tk_u tk_a tk_f : Tok}
    {n_tup_KINDS : Nat}
    {hS_sent hS_wrapped hS_heard hS_dropped hS_passed hL_sent hL_wrapped hL_heard hL_dropped hL_passed hW_sent hW_wrapped hW_heard hW_dropped hW_passed hK_wrapped hK_dropped : Int} {tS_sent tS_wrapped tS_heard tS_dropped tS_passed tL_sent tL_wrapped tL_heard tL_dropped tL_passed tW_sent tW_wrapped tW_heard tW_dropped tW_passed tK_wrapped tK_dropped iS_sent iS_wrapped iS_heard iS_dropped iS_passed iK_wrapped iK_dropped xTL_sent_0 xTL_sent_1 xTL_sent_2 xTL_wrapped_0 xTL_wrapped_1 xTL_wrapped_2 xTL_heard_0 xTL_heard_1 xTL_heard_2 xTL_dropped_0 xTL_dropped_1 xTL_dropped_2 xTL_passed_0 xTL_passed_1 xTL_passed_2 xTW_sent_0 xTW_wrapped_0 xTW_heard_0 xTW_dropped_0 xTW_dropped_1 : Tok} {n_SIZES n_LETTERS n_WORDS n_KIND_AT nTL_sent nTL_wrapped nTL_heard nTL_dropped nTL_passed nTW_sent nTW_wrapped nTW_heard nTW_dropped nTW_passed : Nat} {dTL_sent dTL_wrapped dTL_heard dTL_dropped dTL_passed dTW_sent dTW_wrapped dTW_heard dTW_dropped dTW_passed : Option Addr} {sTL_sent sTL_wrapped sTL_heard sTL_dropped sTL_passed sTW_sent sTW_wrapped sTW_heard sTW_dropped sTW_passed : Array (Option Value)}
    (a_COUNT : PySem.W.nsIn K mainGlobals "COUNT" = some (some (.int 4 t_COUNT)))
    (a_KINDS : PySem.W.nsIn K mainGlobals "KINDS" = some (some (.ref A_KINDS)))
    (lk_KINDS : K.lookup A_KINDS = some ⟨.type "tuple", dd_KINDS, .seq #[.str "l" tk_l, .str "u" tk_u, .str "a" tk_a, .str "f" tk_f] n_tup_KINDS, sl_KINDS⟩)
    (a_is_whole : PySem.W.nsIn K mainGlobals "is_whole" = some (some (.ref f_is_whole)))
    (l_is_whole : K.lookup f_is_whole = some ⟨oc_is_whole, od_is_whole, .func (PySem.W.fnOf "is_whole" "is_whole" (defArgs sWhole) (defBody sWhole) (defScope sWhole) .none kV_is_whole dc_is_whole pm_is_whole an_is_whole cd_is_whole ct_is_whole), sl_is_whole⟩)
    (c_is_whole : PySem.W.codeIn K cd_is_whole "is_whole" = true)
    (k_is_whole : PySem.W.keepIn K (.ref f_is_whole) = true)
    (a_letter_of : PySem.W.nsIn K mainGlobals "letter_of" = some (some (.ref f_letter_of)))
    (l_letter_of : K.lookup f_letter_of = some ⟨oc_letter_of, od_letter_of, .func (PySem.W.fnOf "letter_of" "letter_of" (defArgs sLetter) (defBody sLetter) (defScope sLetter) .none kV_letter_of dc_letter_of pm_letter_of an_letter_of cd_letter_of ct_letter_of), sl_letter_of⟩)
    (c_letter_of : PySem.W.codeIn K cd_letter_of "letter_of" = true)
    (k_letter_of : PySem.W.keepIn K (.ref f_letter_of) = true)
    (a_is_row : PySem.W.nsIn K mainGlobals "is_row" = some (some (.ref f_is_row)))
    (l_is_row : K.lookup f_is_row = some ⟨oc_is_row, od_is_row, .func (PySem.W.fnOf "is_row" "is_row" (defArgs sIsRow) (defBody sIsRow) (defScope sIsRow) .none kV_is_row dc_is_row pm_is_row an_is_row cd_is_row ct_is_row), sl_is_row⟩)
    (c_is_row : PySem.W.codeIn K cd_is_row "is_row" = true)
    (k_is_row : PySem.W.keepIn K (.ref f_is_row) = true)
    (a_is_led_on : PySem.W.nsIn K mainGlobals "is_led_on" = some (some (.ref f_is_led_on)))
    (l_is_led_on : K.lookup f_is_led_on = some ⟨oc_is_led_on, od_is_led_on, .func (PySem.W.fnOf "is_led_on" "is_led_on" (defArgs sLedOn) (defBody sLedOn) (defScope sLedOn) .none kV_is_led_on dc_is_led_on pm_is_led_on an_is_led_on cd_is_led_on ct_is_led_on), sl_is_led_on⟩)
    (c_is_led_on : PySem.W.codeIn K cd_is_led_on "is_led_on" = true)
    (k_is_led_on : PySem.W.keepIn K (.ref f_is_led_on) = true)
    (a_are_wraps : PySem.W.nsIn K mainGlobals "are_wraps" = some (some (.ref f_are_wraps)))
    (l_are_wraps : K.lookup f_are_wraps = some ⟨oc_are_wraps, od_are_wraps, .func (PySem.W.fnOf "are_wraps" "are_wraps" (defArgs sWraps) (defBody sWraps) (defScope sWraps) .none kV_are_wraps dc_are_wraps pm_are_wraps an_are_wraps cd_are_wraps ct_are_wraps), sl_are_wraps⟩)
    (c_are_wraps : PySem.W.codeIn K cd_are_wraps "are_wraps" = true)
    (k_are_wraps : PySem.W.keepIn K (.ref f_are_wraps) = true)
    (a_is_heard : PySem.W.nsIn K mainGlobals "is_heard" = some (some (.ref f_is_heard)))
    (l_is_heard : K.lookup f_is_heard = some ⟨oc_is_heard, od_is_heard, .func (PySem.W.fnOf "is_heard" "is_heard" (defArgs sHeardW) (defBody sHeardW) (defScope sHeardW) .none kV_is_heard dc_is_heard pm_is_heard an_is_heard cd_is_heard ct_is_heard), sl_is_heard⟩)
    (c_is_heard : PySem.W.codeIn K cd_is_heard "is_heard" = true)
    (k_is_heard : PySem.W.keepIn K (.ref f_is_heard) = true)
    (a_is_way : PySem.W.nsIn K mainGlobals "is_way" = some (some (.ref f_is_way)))
    (l_is_way : K.lookup f_is_way = some ⟨oc_is_way, od_is_way, .func (PySem.W.fnOf "is_way" "is_way" (defArgs sWay) (defBody sWay) (defScope sWay) .none kV_is_way dc_is_way pm_is_way an_is_way cd_is_way ct_is_way), sl_is_way⟩)
    (c_is_way : PySem.W.codeIn K cd_is_way "is_way" = true)
    (k_is_way : PySem.W.keepIn K (.ref f_is_way) = true)
    (a_law_deck : PySem.W.nsIn K mainGlobals "_law_deck" = some (some (.ref f_law_deck)))
    (l_law_deck : K.lookup f_law_deck = some ⟨oc_law_deck, od_law_deck, .func (PySem.W.fnOf "_law_deck" "_law_deck" (defArgs sDeck) (defBody sDeck) (defScope sDeck) .none kV_law_deck dc_law_deck pm_law_deck an_law_deck cd_law_deck ct_law_deck), sl_law_deck⟩)
    (c_law_deck : PySem.W.codeIn K cd_law_deck "_law_deck" = true)
    (k_law_deck : PySem.W.keepIn K (.ref f_law_deck) = true)
    (a_law_draw : PySem.W.nsIn K mainGlobals "_law_draw" = some (some (.ref f_law_draw)))
    (l_law_draw : K.lookup f_law_draw = some ⟨oc_law_draw, od_law_draw, .func (PySem.W.fnOf "_law_draw" "_law_draw" (defArgs sDraw) (defBody sDraw) (defScope sDraw) .none kV_law_draw dc_law_draw pm_law_draw an_law_draw cd_law_draw ct_law_draw), sl_law_draw⟩)
    (c_law_draw : PySem.W.codeIn K cd_law_draw "_law_draw" = true)
    (k_law_draw : PySem.W.keepIn K (.ref f_law_draw) = true)
    (a_law_one : PySem.W.nsIn K mainGlobals "_law_one" = some (some (.ref f_law_one)))
    (l_law_one : K.lookup f_law_one = some ⟨oc_law_one, od_law_one, .func (PySem.W.fnOf "_law_one" "_law_one" (defArgs sOne) (defBody sOne) (defScope sOne) .none kV_law_one dc_law_one pm_law_one an_law_one cd_law_one ct_law_one), sl_law_one⟩)
    (c_law_one : PySem.W.codeIn K cd_law_one "_law_one" = true)
    (k_law_one : PySem.W.keepIn K (.ref f_law_one) = true)
    (a_law_is_number : PySem.W.nsIn K mainGlobals "_law_is_number" = some (some (.ref f_law_is_number)))
    (l_law_is_number : K.lookup f_law_is_number = some ⟨oc_law_is_number, od_law_is_number, .func (PySem.W.fnOf "_law_is_number" "_law_is_number" (defArgs sNumL) (defBody sNumL) (defScope sNumL) .none kV_law_is_number dc_law_is_number pm_law_is_number an_law_is_number cd_law_is_number ct_law_is_number), sl_law_is_number⟩)
    (c_law_is_number : PySem.W.codeIn K cd_law_is_number "_law_is_number" = true)
    (k_law_is_number : PySem.W.keepIn K (.ref f_law_is_number) = true)
    (a_law_forms : PySem.W.nsIn K mainGlobals "_law_forms" = some (some (.ref f_law_forms)))
    (l_law_forms : K.lookup f_law_forms = some ⟨oc_law_forms, od_law_forms, .func (PySem.W.fnOf "_law_forms" "_law_forms" (defArgs sFormsL) (defBody sFormsL) (defScope sFormsL) .none kV_law_forms dc_law_forms pm_law_forms an_law_forms cd_law_forms ct_law_forms), sl_law_forms⟩)
    (c_law_forms : PySem.W.codeIn K cd_law_forms "_law_forms" = true)
    (k_law_forms : PySem.W.keepIn K (.ref f_law_forms) = true)
    (a_law_fits : PySem.W.nsIn K mainGlobals "_law_fits" = some (some (.ref f_law_fits)))
    (l_law_fits : K.lookup f_law_fits = some ⟨oc_law_fits, od_law_fits, .func (PySem.W.fnOf "_law_fits" "_law_fits" (defArgs sFitsL) (defBody sFitsL) (defScope sFitsL) .none kV_law_fits dc_law_fits pm_law_fits an_law_fits cd_law_fits ct_law_fits), sl_law_fits⟩)
    (c_law_fits : PySem.W.codeIn K cd_law_fits "_law_fits" = true)
    (k_law_fits : PySem.W.keepIn K (.ref f_law_fits) = true)
    (a_law_is_row : PySem.W.nsIn K mainGlobals "_law_is_row" = some (some (.ref f_law_is_row)))
    (l_law_is_row : K.lookup f_law_is_row = some ⟨oc_law_is_row, od_law_is_row, .func (PySem.W.fnOf "_law_is_row" "_law_is_row" (defArgs sRowL) (defBody sRowL) (defScope sRowL) .none kV_law_is_row dc_law_is_row pm_law_is_row an_law_is_row cd_law_is_row ct_law_is_row), sl_law_is_row⟩)
    (c_law_is_row : PySem.W.codeIn K cd_law_is_row "_law_is_row" = true)
    (k_law_is_row : PySem.W.keepIn K (.ref f_law_is_row) = true)
    (a_law_key : PySem.W.nsIn K mainGlobals "_law_key" = some (some (.ref f_law_key)))
    (l_law_key : K.lookup f_law_key = some ⟨oc_law_key, od_law_key, .func (PySem.W.fnOf "_law_key" "_law_key" (defArgs sKeyL) (defBody sKeyL) (defScope sKeyL) .none kV_law_key dc_law_key pm_law_key an_law_key cd_law_key ct_law_key), sl_law_key⟩)
    (c_law_key : PySem.W.codeIn K cd_law_key "_law_key" = true)
    (k_law_key : PySem.W.keepIn K (.ref f_law_key) = true)
    (a_law_is_way : PySem.W.nsIn K mainGlobals "_law_is_way" = some (some (.ref f_law_is_way)))
    (l_law_is_way : K.lookup f_law_is_way = some ⟨oc_law_is_way, od_law_is_way, .func (PySem.W.fnOf "_law_is_way" "_law_is_way" (defArgs sWayL) (defBody sWayL) (defScope sWayL) .none kV_law_is_way dc_law_is_way pm_law_is_way an_law_is_way cd_law_is_way ct_law_is_way), sl_law_is_way⟩)
    (c_law_is_way : PySem.W.codeIn K cd_law_is_way "_law_is_way" = true)
    (k_law_is_way : PySem.W.keepIn K (.ref f_law_is_way) = true)
    (a_law_made : PySem.W.nsIn K mainGlobals "_law_made" = some (some (.ref f_law_made)))
    (l_law_made : K.lookup f_law_made = some ⟨oc_law_made, od_law_made, .func (PySem.W.fnOf "_law_made" "_law_made" (defArgs sMade) (defBody sMade) (defScope sMade) .none kV_law_made dc_law_made pm_law_made an_law_made cd_law_made ct_law_made), sl_law_made⟩)
    (c_law_made : PySem.W.codeIn K cd_law_made "_law_made" = true)
    (k_law_made : PySem.W.keepIn K (.ref f_law_made) = true)
    (a_law_bent : PySem.W.nsIn K mainGlobals "_law_bent" = some (some (.ref f_law_bent)))
    (l_law_bent : K.lookup f_law_bent = some ⟨oc_law_bent, od_law_bent, .func (PySem.W.fnOf "_law_bent" "_law_bent" (defArgs sBent) (defBody sBent) (defScope sBent) .none kV_law_bent dc_law_bent pm_law_bent an_law_bent cd_law_bent ct_law_bent), sl_law_bent⟩)
    (c_law_bent : PySem.W.codeIn K cd_law_bent "_law_bent" = true)
    (k_law_bent : PySem.W.keepIn K (.ref f_law_bent) = true)
    (a_law : PySem.W.nsIn K mainGlobals "law" = some (some (.ref f_law)))
    (l_law : K.lookup f_law = some ⟨oc_law, od_law, .func (PySem.W.fnOf "law" "law" (defArgs sLaw) (defBody sLaw) (defScope sLaw) .none kV_law dc_law pm_law an_law cd_law ct_law), sl_law⟩)
    (c_law : PySem.W.codeIn K cd_law "law" = true)
    (k_law : PySem.W.keepIn K (.ref f_law) = true)
    (z_isinstance : PySem.W.nsIn K mainGlobals "isinstance" = some none)
    (z_str : PySem.W.nsIn K mainGlobals "str" = some none)
    (z_tuple : PySem.W.nsIn K mainGlobals "tuple" = some none)
    (z_len : PySem.W.nsIn K mainGlobals "len" = some none)
    (z_all : PySem.W.nsIn K mainGlobals "all" = some none)
    (z_any : PySem.W.nsIn K mainGlobals "any" = some none)
    (z_zip : PySem.W.nsIn K mainGlobals "zip" = some none)
    (z_range : PySem.W.nsIn K mainGlobals "range" = some none)
    (z_enumerate : PySem.W.nsIn K mainGlobals "enumerate" = some none)
    (z_int : PySem.W.nsIn K mainGlobals "int" = some none)
    (z_bool : PySem.W.nsIn K mainGlobals "bool" = some none)
    (z_list : PySem.W.nsIn K mainGlobals "list" = some none)
    (z_max : PySem.W.nsIn K mainGlobals "max" = some none)
    (z_repr : PySem.W.nsIn K mainGlobals "repr" = some none)
    (a_SIZES : PySem.W.nsIn K mainGlobals "SIZES" = some (some (.ref A_SIZES)))
    (lk_SIZES : K.lookup A_SIZES = some ⟨.type "dict", none, .dict #[⟨hS_sent, .str "sent" tS_sent, .int 7 iS_sent⟩, ⟨hS_wrapped, .str "wrapped" tS_wrapped, .int 10 iS_wrapped⟩, ⟨hS_heard, .str "heard" tS_heard, .int 7 iS_heard⟩, ⟨hS_dropped, .str "dropped" tS_dropped, .int 7 iS_dropped⟩, ⟨hS_passed, .str "passed" tS_passed, .int 9 iS_passed⟩] n_SIZES, #[]⟩)
    (lo_SIZES : (A_SIZES == sysModules) = false)
    (eS_sent : hS_sent = PyData.keyHash w.params "sent")
    (eS_wrapped : hS_wrapped = PyData.keyHash w.params "wrapped")
    (eS_heard : hS_heard = PyData.keyHash w.params "heard")
    (eS_dropped : hS_dropped = PyData.keyHash w.params "dropped")
    (eS_passed : hS_passed = PyData.keyHash w.params "passed")
    (a_LETTERS : PySem.W.nsIn K mainGlobals "LETTERS" = some (some (.ref A_LETTERS)))
    (lk_LETTERS : K.lookup A_LETTERS = some ⟨.type "dict", none, .dict #[⟨hL_sent, .str "sent" tL_sent, .ref TL_sent⟩, ⟨hL_wrapped, .str "wrapped" tL_wrapped, .ref TL_wrapped⟩, ⟨hL_heard, .str "heard" tL_heard, .ref TL_heard⟩, ⟨hL_dropped, .str "dropped" tL_dropped, .ref TL_dropped⟩, ⟨hL_passed, .str "passed" tL_passed, .ref TL_passed⟩] n_LETTERS, #[]⟩)
    (lo_LETTERS : (A_LETTERS == sysModules) = false)
    (eL_sent : hL_sent = PyData.keyHash w.params "sent")
    (eL_wrapped : hL_wrapped = PyData.keyHash w.params "wrapped")
    (eL_heard : hL_heard = PyData.keyHash w.params "heard")
    (eL_dropped : hL_dropped = PyData.keyHash w.params "dropped")
    (eL_passed : hL_passed = PyData.keyHash w.params "passed")
    (a_WORDS : PySem.W.nsIn K mainGlobals "WORDS" = some (some (.ref A_WORDS)))
    (lk_WORDS : K.lookup A_WORDS = some ⟨.type "dict", none, .dict #[⟨hW_sent, .str "sent" tW_sent, .ref TW_sent⟩, ⟨hW_wrapped, .str "wrapped" tW_wrapped, .ref TW_wrapped⟩, ⟨hW_heard, .str "heard" tW_heard, .ref TW_heard⟩, ⟨hW_dropped, .str "dropped" tW_dropped, .ref TW_dropped⟩, ⟨hW_passed, .str "passed" tW_passed, .ref TW_passed⟩] n_WORDS, #[]⟩)
    (lo_WORDS : (A_WORDS == sysModules) = false)
    (eW_sent : hW_sent = PyData.keyHash w.params "sent")
    (eW_wrapped : hW_wrapped = PyData.keyHash w.params "wrapped")
    (eW_heard : hW_heard = PyData.keyHash w.params "heard")
    (eW_dropped : hW_dropped = PyData.keyHash w.params "dropped")
    (eW_passed : hW_passed = PyData.keyHash w.params "passed")
    (a_KIND_AT : PySem.W.nsIn K mainGlobals "KIND_AT" = some (some (.ref A_KIND_AT)))
    (lk_KIND_AT : K.lookup A_KIND_AT = some ⟨.type "dict", none, .dict #[⟨hK_wrapped, .str "wrapped" tK_wrapped, .int 3 iK_wrapped⟩, ⟨hK_dropped, .str "dropped" tK_dropped, .int 4 iK_dropped⟩] n_KIND_AT, #[]⟩)
    (lo_KIND_AT : (A_KIND_AT == sysModules) = false)
    (eK_wrapped : hK_wrapped = PyData.keyHash w.params "wrapped")
    (eK_dropped : hK_dropped = PyData.keyHash w.params "dropped")
    (lk_TL_sent : K.lookup TL_sent = some ⟨.type "tuple", dTL_sent, .seq #[.int 2 xTL_sent_0, .int 3 xTL_sent_1, .int 4 xTL_sent_2] nTL_sent, sTL_sent⟩)
    (lk_TL_wrapped : K.lookup TL_wrapped = some ⟨.type "tuple", dTL_wrapped, .seq #[.int 2 xTL_wrapped_0, .int 4 xTL_wrapped_1, .int 6 xTL_wrapped_2] nTL_wrapped, sTL_wrapped⟩)
    (lk_TL_heard : K.lookup TL_heard = some ⟨.type "tuple", dTL_heard, .seq #[.int 2 xTL_heard_0, .int 4 xTL_heard_1, .int 5 xTL_heard_2] nTL_heard, sTL_heard⟩)
    (lk_TL_dropped : K.lookup TL_dropped = some ⟨.type "tuple", dTL_dropped, .seq #[.int 3 xTL_dropped_0, .int 5 xTL_dropped_1, .int 6 xTL_dropped_2] nTL_dropped, sTL_dropped⟩)
    (lk_TL_passed : K.lookup TL_passed = some ⟨.type "tuple", dTL_passed, .seq #[.int 3 xTL_passed_0, .int 4 xTL_passed_1, .int 5 xTL_passed_2] nTL_passed, sTL_passed⟩)
    (lk_TW_sent : K.lookup TW_sent = some ⟨.type "tuple", dTW_sent, .seq #[.int 6 xTW_sent_0] nTW_sent, sTW_sent⟩)
    (lk_TW_wrapped : K.lookup TW_wrapped = some ⟨.type "tuple", dTW_wrapped, .seq #[.int 3 xTW_wrapped_0] nTW_wrapped, sTW_wrapped⟩)
    (lk_TW_heard : K.lookup TW_heard = some ⟨.type "tuple", dTW_heard, .seq #[.int 6 xTW_heard_0] nTW_heard, sTW_heard⟩)
    (lk_TW_dropped : K.lookup TW_dropped = some ⟨.type "tuple", dTW_dropped, .seq #[.int 2 xTW_dropped_0, .int 4 xTW_dropped_1] nTW_dropped, sTW_dropped⟩)
    (lk_TW_passed : K.lookup TW_passed = some ⟨.type "tuple", dTW_passed, .seq #[] nTW_passed, sTW_passed⟩) :
    ∃ fd : FuncData, (∀ (s : Shared) (v : Value), BindsTo s fd ⟨[v], []⟩ [("_law_script", v)]) ∧ ∀ base : Heap, K.In base → base.Ns mainGlobals mg → LawOk l.prog w K mg base fa fd ["_law_script"] (spLaw K) := by
  have e := hfa.symm.trans (PySem.W.mg_of X G a_law)
  cases e
  have m_COUNT := PySem.W.mg_of X G a_COUNT
  have m_KINDS := PySem.W.mg_of X G a_KINDS
  have F_is_whole := fun_mk (st := sWhole) l_is_whole c_is_whole k_is_whole
  have b_is_whole := F_is_whole.binds (ps := ["thing"]) fun _ _ _ _ _ _ us hl => match us, hl with | [_], _ => rfl
  have m_is_whole := PySem.W.mg_of X G a_is_whole
  have F_letter_of := fun_mk (st := sLetter) l_letter_of c_letter_of k_letter_of
  have b_letter_of := F_letter_of.binds (ps := ["row"]) fun _ _ _ _ _ _ us hl => match us, hl with | [_], _ => rfl
  have m_letter_of := PySem.W.mg_of X G a_letter_of
  have F_is_row := fun_mk (st := sIsRow) l_is_row c_is_row k_is_row
  have b_is_row := F_is_row.binds (ps := ["thing"]) fun _ _ _ _ _ _ us hl => match us, hl with | [_], _ => rfl
  have m_is_row := PySem.W.mg_of X G a_is_row
  have F_is_led_on := fun_mk (st := sLedOn) l_is_led_on c_is_led_on k_is_led_on
  have b_is_led_on := F_is_led_on.binds (ps := ["row", "ahead"]) fun _ _ _ _ _ _ us hl => match us, hl with | [_, _], _ => rfl
  have m_is_led_on := PySem.W.mg_of X G a_is_led_on
  have F_are_wraps := fun_mk (st := sWraps) l_are_wraps c_are_wraps k_are_wraps
  have b_are_wraps := F_are_wraps.binds (ps := ["rows"]) fun _ _ _ _ _ _ us hl => match us, hl with | [_], _ => rfl
  have m_are_wraps := PySem.W.mg_of X G a_are_wraps
  have F_is_heard := fun_mk (st := sHeardW) l_is_heard c_is_heard k_is_heard
  have b_is_heard := F_is_heard.binds (ps := ["row", "first"]) fun _ _ _ _ _ _ us hl => match us, hl with | [_, _], _ => rfl
  have m_is_heard := PySem.W.mg_of X G a_is_heard
  have F_is_way := fun_mk (st := sWay) l_is_way c_is_way k_is_way
  have b_is_way := F_is_way.binds (ps := ["thing"]) fun _ _ _ _ _ _ us hl => match us, hl with | [_], _ => rfl
  have m_is_way := PySem.W.mg_of X G a_is_way
  have F_law_deck := fun_mk (st := sDeck) l_law_deck c_law_deck k_law_deck
  have b_law_deck := F_law_deck.binds (ps := ["_law_script"]) fun _ _ _ _ _ _ us hl => match us, hl with | [_], _ => rfl
  have m_law_deck := PySem.W.mg_of X G a_law_deck
  have F_law_draw := fun_mk (st := sDraw) l_law_draw c_law_draw k_law_draw
  have b_law_draw := F_law_draw.binds (ps := ["_law_deck_here", "_law_many"]) fun _ _ _ _ _ _ us hl => match us, hl with | [_, _], _ => rfl
  have m_law_draw := PySem.W.mg_of X G a_law_draw
  have F_law_one := fun_mk (st := sOne) l_law_one c_law_one k_law_one
  have b_law_one := F_law_one.binds (ps := ["_law_deck_here", "_law_some"]) fun _ _ _ _ _ _ us hl => match us, hl with | [_, _], _ => rfl
  have m_law_one := PySem.W.mg_of X G a_law_one
  have F_law_is_number := fun_mk (st := sNumL) l_law_is_number c_law_is_number k_law_is_number
  have b_law_is_number := F_law_is_number.binds (ps := ["_law_thing"]) fun _ _ _ _ _ _ us hl => match us, hl with | [_], _ => rfl
  have m_law_is_number := PySem.W.mg_of X G a_law_is_number
  have F_law_forms := fun_mk (st := sFormsL) l_law_forms c_law_forms k_law_forms
  have b_law_forms := F_law_forms.binds (ps := ["_law_word"]) fun _ _ _ _ _ _ us hl => match us, hl with | [_], _ => rfl
  have m_law_forms := PySem.W.mg_of X G a_law_forms
  have F_law_fits := fun_mk (st := sFitsL) l_law_fits c_law_fits k_law_fits
  have b_law_fits := F_law_fits.binds (ps := ["_law_sign", "_law_thing"]) fun _ _ _ _ _ _ us hl => match us, hl with | [_, _], _ => rfl
  have m_law_fits := PySem.W.mg_of X G a_law_fits
  have F_law_is_row := fun_mk (st := sRowL) l_law_is_row c_law_is_row k_law_is_row
  have b_law_is_row := F_law_is_row.binds (ps := ["_law_thing"]) fun _ _ _ _ _ _ us hl => match us, hl with | [_], _ => rfl
  have m_law_is_row := PySem.W.mg_of X G a_law_is_row
  have F_law_key := fun_mk (st := sKeyL) l_law_key c_law_key k_law_key
  have b_law_key := F_law_key.binds (ps := ["_law_row"]) fun _ _ _ _ _ _ us hl => match us, hl with | [_], _ => rfl
  have m_law_key := PySem.W.mg_of X G a_law_key
  have F_law_is_way := fun_mk (st := sWayL) l_law_is_way c_law_is_way k_law_is_way
  have b_law_is_way := F_law_is_way.binds (ps := ["_law_thing"]) fun _ _ _ _ _ _ us hl => match us, hl with | [_], _ => rfl
  have m_law_is_way := PySem.W.mg_of X G a_law_is_way
  have F_law_made := fun_mk (st := sMade) l_law_made c_law_made k_law_made
  have b_law_made := F_law_made.binds (ps := ["_law_deck_here"]) fun _ _ _ _ _ _ us hl => match us, hl with | [_], _ => rfl
  have m_law_made := PySem.W.mg_of X G a_law_made
  have F_law_bent := fun_mk (st := sBent) l_law_bent c_law_bent k_law_bent
  have b_law_bent := F_law_bent.binds (ps := ["_law_deck_here", "_law_way"]) fun _ _ _ _ _ _ us hl => match us, hl with | [_, _], _ => rfl
  have m_law_bent := PySem.W.mg_of X G a_law_bent
  have F_law := fun_mk (st := sLaw) l_law c_law k_law
  have b_law := F_law.binds (ps := ["_law_script"]) fun _ _ _ _ _ _ us hl => match us, hl with | [_], _ => rfl
  have n_isinstance := PySem.W.mg_none_of X G z_isinstance
  have n_str := PySem.W.mg_none_of X G z_str
  have n_tuple := PySem.W.mg_none_of X G z_tuple
  have n_len := PySem.W.mg_none_of X G z_len
  have n_all := PySem.W.mg_none_of X G z_all
  have n_any := PySem.W.mg_none_of X G z_any
  have n_zip := PySem.W.mg_none_of X G z_zip
  have n_range := PySem.W.mg_none_of X G z_range
  have n_enumerate := PySem.W.mg_none_of X G z_enumerate
  have n_int := PySem.W.mg_none_of X G z_int
  have n_bool := PySem.W.mg_none_of X G z_bool
  have n_list := PySem.W.mg_none_of X G z_list
  have n_max := PySem.W.mg_none_of X G z_max
  have n_repr := PySem.W.mg_none_of X G z_repr
  refine ⟨PySem.W.fnOf "law" "law" (defArgs sLaw) (defBody sLaw) (defScope sLaw) .none kV_law dc_law pm_law an_law cd_law ct_law, fun s v => .of_eq rfl, fun base _ _ => ?_⟩
  have PWx : PW K w mg := ⟨⟨A_KINDS, m_KINDS, fun H => .inr ⟨_, _, _, lk_KINDS, rfl, rfl, (by show 4 ≤ sizeLine; decide), .cons ⟨_, rfl⟩ (.cons ⟨_, rfl⟩ (.cons ⟨_, rfl⟩ (.cons ⟨_, rfl⟩ .nil)))⟩⟩, ⟨_, m_COUNT⟩, ⟨A_SIZES, _, _, w5 iS_sent iS_wrapped iS_heard iS_dropped iS_passed, PySem.W.mg_of X G a_SIZES, kdW lk_SIZES lo_SIZES eS_sent eS_wrapped eS_heard eS_dropped eS_passed, fun z => (lookW lk_SIZES z).trans (congrArg some sizesW)⟩, ⟨A_LETTERS, _, _, w5 TL_sent TL_wrapped TL_heard TL_dropped TL_passed, PySem.W.mg_of X G a_LETTERS, kdW lk_LETTERS lo_LETTERS eL_sent eL_wrapped eL_heard eL_dropped eL_passed, fun z => (lookW lk_LETTERS z).trans (congrArg some refsW), tupsW (sqi3 lk_TL_sent) (sqi3 lk_TL_wrapped) (sqi3 lk_TL_heard) (sqi3 lk_TL_dropped) (sqi3 lk_TL_passed)⟩, ⟨A_WORDS, _, _, w5 TW_sent TW_wrapped TW_heard TW_dropped TW_passed, PySem.W.mg_of X G a_WORDS, kdW lk_WORDS lo_WORDS eW_sent eW_wrapped eW_heard eW_dropped eW_passed, fun z => (lookW lk_WORDS z).trans (congrArg some refsW), tupsW (sqi1 lk_TW_sent) (sqi1 lk_TW_wrapped) (sqi1 lk_TW_heard) (sqi2 lk_TW_dropped) (sqi0 lk_TW_passed)⟩, ⟨A_KIND_AT, _, _, _, PySem.W.mg_of X G a_KIND_AT, kd2 lk_KIND_AT lo_KIND_AT eK_wrapped eK_dropped, look2 lk_KIND_AT⟩⟩
  have Bx : PWb mg := ⟨n_isinstance, n_str, n_tuple, n_len, n_all, n_any, n_zip, n_range, n_enumerate⟩
  have KBx : KBw mg := ⟨n_isinstance, n_str, n_int, n_bool, n_tuple, n_list, n_range, n_len, n_max⟩
  have DBx : DB mg := ⟨n_len, n_list, n_int⟩
  have cW : Cd l.prog w K mg base 1 "is_whole" ["thing"] (spWholeK K) := ⟨_, _, ok_wholeK F_is_whole ⟨n_isinstance, n_int, n_bool⟩, m_is_whole, k_is_whole, b_is_whole⟩
  have cL : Cd l.prog w K mg base 1 "letter_of" ["row"] (spLetter K) := ⟨_, _, ok_letter F_letter_of Bx PWx, m_letter_of, k_letter_of, b_letter_of⟩
  have cR : Cd l.prog w K mg base 2 "is_row" ["thing"] (spRowW K) := ⟨_, _, ok_isrowW F_is_row Bx PWx cW cL, m_is_row, k_is_row, b_is_row⟩
  have cO : Cd l.prog w K mg base 1 "is_led_on" ["row", "ahead"] (spLed K) := ⟨_, _, ok_ledon F_is_led_on Bx, m_is_led_on, k_is_led_on, b_is_led_on⟩
  have cA : Cd l.prog w K mg base 2 "are_wraps" ["rows"] (spWraps K) := ⟨_, _, ok_wraps F_are_wraps Bx PWx cO, m_are_wraps, k_are_wraps, b_are_wraps⟩
  have cH : Cd l.prog w K mg base 1 "is_heard" ["row", "first"] (spHeardW K) := ⟨_, _, ok_heardW F_is_heard, m_is_heard, k_is_heard, b_is_heard⟩
  have cY : Cd l.prog w K mg base 3 "is_way" ["thing"] (spWay K) := ⟨_, _, ok_way F_is_way Bx cL cR cA cH, m_is_way, k_is_way, b_is_way⟩
  have dN : Cd l.prog w K mg base 1 "_law_draw" ["_law_deck_here", "_law_many"] spDraw := ⟨_, _, ok_draw F_law_draw DBx, m_law_draw, k_law_draw, b_law_draw⟩
  have dD : Cd l.prog w K mg base 1 "_law_deck" ["_law_script"] (spDeck2 K) := ⟨_, _, ok_deck2 F_law_deck DBx, m_law_deck, k_law_deck, b_law_deck⟩
  have dO : Cd l.prog w K mg base 2 "_law_one" ["_law_deck_here", "_law_some"] (spOneL K) := ⟨_, _, ok_oneL F_law_one DBx dN, m_law_one, k_law_one, b_law_one⟩
  have lN : Cd l.prog w K mg base 1 "_law_is_number" ["_law_thing"] (spNumL K) := ⟨_, _, ok_numL F_law_is_number KBx, m_law_is_number, k_law_is_number, b_law_is_number⟩
  have lF : Cd l.prog w K mg base 1 "_law_forms" ["_law_word"] spFormsL := ⟨_, _, ok_formsL F_law_forms, m_law_forms, k_law_forms, b_law_forms⟩
  have lI : Cd l.prog w K mg base 2 "_law_fits" ["_law_sign", "_law_thing"] (spFitsL K) := ⟨_, _, ok_fitsL F_law_fits KBx lN, m_law_fits, k_law_fits, b_law_fits⟩
  have lR : Cd l.prog w K mg base 3 "_law_is_row" ["_law_thing"] (spRowW K) := ⟨_, _, ok_rowL F_law_is_row KBx lF lI, m_law_is_row, k_law_is_row, b_law_is_row⟩
  have lK : Cd l.prog w K mg base 1 "_law_key" ["_law_row"] (spKeyL K) := ⟨_, _, ok_keyL F_law_key, m_law_key, k_law_key, b_law_key⟩
  have lW : Cd l.prog w K mg base 4 "_law_is_way" ["_law_thing"] (spWay K) := ⟨_, _, ok_wayL F_law_is_way KBx lR lK, m_law_is_way, k_law_is_way, b_law_is_way⟩
  have lM : Cd l.prog w K mg base 3 "_law_made" ["_law_deck_here"] (spMade K) := ⟨_, _, ok_made F_law_made KBx dN dO, m_law_made, k_law_made, b_law_made⟩
  have lB : Cd l.prog w K mg base 3 "_law_bent" ["_law_deck_here", "_law_way"] (spBent K) := ⟨_, _, ok_bent F_law_bent KBx dN dO lN, m_law_bent, k_law_bent, b_law_bent⟩
  exact ok_law F_law ⟨n_repr, n_range⟩ dD lM lB cY lW
theorem walk {l : PySem.W.OpenLaw} {q : Program} {loose : List Str} {XP : (Str → Option Value) → Heap → Prop} {YP : World → Heap → Prop} {d : DefRec} {K : Params → PySem.W.Frag} (hn : l.most = some 63) (hdf : d.params.defaults = [])
    (hY : ∀ (w : World) (h : Heap), YP w h → (K w.params).In h)
    (F : ∀ (w : World) (mg : Str → Option Value) (fa : Addr) (h : Heap), (K w.params).In h → h.Ns mainGlobals mg → mg d.name = some (.ref fa) →
      ∃ fd : FuncData, (∀ (s : Shared) (u : Value), BindsTo s fd ⟨[u], []⟩ [("_law_script", u)]) ∧ ∀ base : Heap, (K w.params).In base → base.Ns mainGlobals mg → LawOk l.prog w (K w.params) mg base fa fd ["_law_script"] (spLaw (K w.params))) :
    PySem.W.WalkO q loose XP YP l.row.toRowW d [] (fun f vs => PySem.call f vs) :=
  walkG (n := 63) (x := "_law_script") (sp := fun w => spLaw (K w.params)) hn (by decide) hdf hY F fun _ _ a ns hl hS => ⟨a, ns, rfl, hS, hl, fun _ => rfl⟩
end Wn

open PySem PySem.W PyProof.Rows in
set_option maxRecDepth 100000 in
set_option maxHeartbeats 0 in
theorem PySem.Challenge.cw_wrapnets_k47_ways_judged_holds : PySem.Challenge.rw_wrapnets_k47_ways_judged.Holds := by
  w_on; o_law; k_head; (case hw => w_witness2)
  k_fill
  refine Wn.walk (l := PySem.Challenge.rw_wrapnets_k47_ways_judged) rfl rfl (fun w h Y => PySem.W.kIn_of Y) ?F
  case F =>
    intro w mg fa h KX G hmg
    refine' Wn.all_mk KX G hmg ?a_COUNT ?a_KINDS ?lk_KINDS ?a_is_whole ?l_is_whole ?c_is_whole ?k_is_whole ?a_letter_of ?l_letter_of ?c_letter_of ?k_letter_of ?a_is_row ?l_is_row ?c_is_row ?k_is_row ?a_is_led_on ?l_is_led_on ?c_is_led_on ?k_is_led_on ?a_are_wraps ?l_are_wraps ?c_are_wraps ?k_are_wraps ?a_is_heard ?l_is_heard ?c_is_heard ?k_is_heard ?a_is_way ?l_is_way ?c_is_way ?k_is_way ?a_law_deck ?l_law_deck ?c_law_deck ?k_law_deck ?a_law_draw ?l_law_draw ?c_law_draw ?k_law_draw ?a_law_one ?l_law_one ?c_law_one ?k_law_one ?a_law_is_number ?l_law_is_number ?c_law_is_number ?k_law_is_number ?a_law_forms ?l_law_forms ?c_law_forms ?k_law_forms ?a_law_fits ?l_law_fits ?c_law_fits ?k_law_fits ?a_law_is_row ?l_law_is_row ?c_law_is_row ?k_law_is_row ?a_law_key ?l_law_key ?c_law_key ?k_law_key ?a_law_is_way ?l_law_is_way ?c_law_is_way ?k_law_is_way ?a_law_made ?l_law_made ?c_law_made ?k_law_made ?a_law_bent ?l_law_bent ?c_law_bent ?k_law_bent ?a_law ?l_law ?c_law ?k_law ?z_isinstance ?z_str ?z_tuple ?z_len ?z_all ?z_any ?z_zip ?z_range ?z_enumerate ?z_int ?z_bool ?z_list ?z_max ?z_repr ?a_SIZES ?lk_SIZES ?lo_SIZES ?eS_sent ?eS_wrapped ?eS_heard ?eS_dropped ?eS_passed ?a_LETTERS ?lk_LETTERS ?lo_LETTERS ?eL_sent ?eL_wrapped ?eL_heard ?eL_dropped ?eL_passed ?a_WORDS ?lk_WORDS ?lo_WORDS ?eW_sent ?eW_wrapped ?eW_heard ?eW_dropped ?eW_passed ?a_KIND_AT ?lk_KIND_AT ?lo_KIND_AT ?eK_wrapped ?eK_dropped ?lk_TL_sent ?lk_TL_wrapped ?lk_TL_heard ?lk_TL_dropped ?lk_TL_passed ?lk_TW_sent ?lk_TW_wrapped ?lk_TW_heard ?lk_TW_dropped ?lk_TW_passed
    (case a_COUNT => k_is)
    (case a_KINDS => k_is)
    (case lk_KINDS => k_is)
    (case a_is_whole => k_is)
    (case l_is_whole => k_is)
    (case c_is_whole => k_is)
    (case k_is_whole => k_is)
    (case a_letter_of => k_is)
    (case l_letter_of => k_is)
    (case c_letter_of => k_is)
    (case k_letter_of => k_is)
    (case a_is_row => k_is)
    (case l_is_row => k_is)
    (case c_is_row => k_is)
    (case k_is_row => k_is)
    (case a_is_led_on => k_is)
    (case l_is_led_on => k_is)
    (case c_is_led_on => k_is)
    (case k_is_led_on => k_is)
    (case a_are_wraps => k_is)
    (case l_are_wraps => k_is)
    (case c_are_wraps => k_is)
    (case k_are_wraps => k_is)
    (case a_is_heard => k_is)
    (case l_is_heard => k_is)
    (case c_is_heard => k_is)
    (case k_is_heard => k_is)
    (case a_is_way => k_is)
    (case l_is_way => k_is)
    (case c_is_way => k_is)
    (case k_is_way => k_is)
    (case a_law_deck => k_is)
    (case l_law_deck => k_is)
    (case c_law_deck => k_is)
    (case k_law_deck => k_is)
    (case a_law_draw => k_is)
    (case l_law_draw => k_is)
    (case c_law_draw => k_is)
    (case k_law_draw => k_is)
    (case a_law_one => k_is)
    (case l_law_one => k_is)
    (case c_law_one => k_is)
    (case k_law_one => k_is)
    (case a_law_is_number => k_is)
    (case l_law_is_number => k_is)
    (case c_law_is_number => k_is)
    (case k_law_is_number => k_is)
    (case a_law_forms => k_is)
    (case l_law_forms => k_is)
    (case c_law_forms => k_is)
    (case k_law_forms => k_is)
    (case a_law_fits => k_is)
    (case l_law_fits => k_is)
    (case c_law_fits => k_is)
    (case k_law_fits => k_is)
    (case a_law_is_row => k_is)
    (case l_law_is_row => k_is)
    (case c_law_is_row => k_is)
    (case k_law_is_row => k_is)
    (case a_law_key => k_is)
    (case l_law_key => k_is)
    (case c_law_key => k_is)
    (case k_law_key => k_is)
    (case a_law_is_way => k_is)
    (case l_law_is_way => k_is)
    (case c_law_is_way => k_is)
    (case k_law_is_way => k_is)
    (case a_law_made => k_is)
    (case l_law_made => k_is)
    (case c_law_made => k_is)
    (case k_law_made => k_is)
    (case a_law_bent => k_is)
    (case l_law_bent => k_is)
    (case c_law_bent => k_is)
    (case k_law_bent => k_is)
    (case a_law => k_is)
    (case l_law => k_is)
    (case c_law => k_is)
    (case k_law => k_is)
    (case z_isinstance => k_is)
    (case z_str => k_is)
    (case z_tuple => k_is)
    (case z_len => k_is)
    (case z_all => k_is)
    (case z_any => k_is)
    (case z_zip => k_is)
    (case z_range => k_is)
    (case z_enumerate => k_is)
    (case z_int => k_is)
    (case z_bool => k_is)
    (case z_list => k_is)
    (case z_max => k_is)
    (case z_repr => k_is)
    (case a_SIZES => k_is)
    (case lk_SIZES => k_is)
    (case lo_SIZES => first | k_is | rfl | decide)
    (case eS_sent => first | rfl | k_is)
    (case eS_wrapped => first | rfl | k_is)
    (case eS_heard => first | rfl | k_is)
    (case eS_dropped => first | rfl | k_is)
    (case eS_passed => first | rfl | k_is)
    (case a_LETTERS => k_is)
    (case lk_LETTERS => k_is)
    (case lo_LETTERS => first | k_is | rfl | decide)
    (case eL_sent => first | rfl | k_is)
    (case eL_wrapped => first | rfl | k_is)
    (case eL_heard => first | rfl | k_is)
    (case eL_dropped => first | rfl | k_is)
    (case eL_passed => first | rfl | k_is)
    (case a_WORDS => k_is)
    (case lk_WORDS => k_is)
    (case lo_WORDS => first | k_is | rfl | decide)
    (case eW_sent => first | rfl | k_is)
    (case eW_wrapped => first | rfl | k_is)
    (case eW_heard => first | rfl | k_is)
    (case eW_dropped => first | rfl | k_is)
    (case eW_passed => first | rfl | k_is)
    (case a_KIND_AT => k_is)
    (case lk_KIND_AT => k_is)
    (case lo_KIND_AT => first | k_is | rfl | decide)
    (case eK_wrapped => first | rfl | k_is)
    (case eK_dropped => first | rfl | k_is)
    (case lk_TL_sent => k_is)
    (case lk_TL_wrapped => k_is)
    (case lk_TL_heard => k_is)
    (case lk_TL_dropped => k_is)
    (case lk_TL_passed => k_is)
    (case lk_TW_sent => k_is)
    (case lk_TW_wrapped => k_is)
    (case lk_TW_heard => k_is)
    (case lk_TW_dropped => k_is)
    (case lk_TW_passed => k_is)
