import PyProof.Rows.All
import Wide.All
import OpenK.AllK
import Wide.FinOn
import HandS.ForMost
import HandS.IsInst
import HandS.Flow
import HandS.SortInts
import HandS.More
import HandS.Text
import HandS.Walk
import HandS.Conv
import PyProof.Draws
import PyProof.EnumMake
import PyProof.ReprRoads
import HandS.Codes
import KE.KRevSl
import HandS.Style
import HandS.TupAny
import HandS.TryOnly
import HandS.Deep
import PyProof.ReprBulk
import HandS.TupLe
import PySem.Challenge.RW_wrapnets_k23_whole_what_are_parts
set_option Elab.async false
set_option maxRecDepth 100000
set_option linter.all false
namespace Wn
open PySem L2

/-- what a caller knows of a def: that it keeps a promise, and where it stands -/
def Cd (P : Program) (w : World) (K : PySem.W.Frag) (mg : Str → Option Value) (base : Heap) (k : Nat) (name : Str) (ps : List Str) (sp : Sp) : Prop :=
  ∃ (f : Addr) (fd : FuncData), FnOk P w K mg base CX0 k f fd ps sp ∧ mg name = some (.ref f) ∧ PySem.W.keepIn K (.ref f) = true ∧ Binds K fd ps []
/-- what a caller knows of a method -/
def Md (P : Program) (w : World) (K : PySem.W.Frag) (mg : Str → Option Value) (base : Heap) (k : Nat) (C : Addr) (name : Str) (ps : List Str) (sp : Sp) : Prop :=
  ∃ (f : Addr) (fd : FuncData), FnOk P w K mg base CX0 k f fd ps sp ∧ Meth K C name f ∧ Binds K fd ps []

/-- all but some addresses stay -/
def Kp (M : List Addr) (H H' : Hp) : Prop := ∀ b o, b ∉ M → H b = some o → H' b = some o
theorem Kp.refl (M : List Addr) (H : Hp) : Kp M H H := fun _ _ _ h => h
theorem Kp.trans {M : List Addr} {H H1 H2 : Hp} (a : Kp M H H1) (b : Kp M H1 H2) : Kp M H H2 := fun c o hc h => b c o hc (a c o hc h)
theorem Kp.mono {M M' : List Addr} {H H1 : Hp} (a : Kp M H H1) (h : ∀ x ∈ M, x ∈ M') : Kp M' H H1 := fun c o hc q => a c o (fun z => hc (h c z)) q
theorem Kp.of {M : List Addr} {H H1 : Hp} (a : Same H H1) : Kp M H H1 := fun c o _ q => a c o q
theorem Kp.new {M : List Addr} {H H1 : Hp} {p : Addr} {o : HO} (a : Kp M H H1) (hp : H1 p = none) : Kp M H (upd H1 p o) := fun c u hc q => by
  rw [upd_ne (ne_of_none (a c u hc q) hp)]
  exact a c u hc q
theorem Kp.wr {M : List Addr} {H H1 : Hp} {p : Addr} {o : HO} (a : Kp M H H1) (hp : p ∈ M) : Kp M H (upd H1 p o) := fun c u hc q => by
  rw [upd_ne (show c ≠ p from fun z => hc (by rw [z]; exact hp))]
  exact a c u hc q
/-- a write to what wasn't there at first -/
theorem Kp.wrn {M : List Addr} {H H1 : Hp} {p : Addr} {o : HO} (a : Kp M H H1) (hp : H p = none) : Kp M H (upd H1 p o) := fun c u hc q => by
  rw [upd_ne (ne_of_none q hp)]
  exact a c u hc q
theorem _root_.L2.Same.new {H H1 : Hp} {p : Addr} {o : HO} (a : Same H H1) (hp : H1 p = none) : Same H (upd H1 p o) := fun c u q => by
  rw [upd_ne (ne_of_none (a c u q) hp)]
  exact a c u q
theorem _root_.L2.Same.wrn {H H1 : Hp} {p : Addr} {o : HO} (a : Same H H1) (hp : H p = none) : Same H (upd H1 p o) := fun c u q => by
  rw [upd_ne (ne_of_none q hp)]
  exact a c u q

/-- a while by a word and a measure -/
theorem while_m {c : TT} {tb : TS} {D : Ends} {σ : L2.St} {H : Hp} (Pv : L2.St → Hp → Prop) (μ : L2.St → Hp → Nat) (h0 : Pv σ H)
    (hs : ∀ m σ H, m = μ σ H → Pv σ H → c σ H fun b H1 => if b = true then ∃ N : L2.St → Hp → Prop, (∀ σ' H', N σ' H' → ∃ m', m' < m ∧ (m' = μ σ' H' ∧ Pv σ' H')) ∧ tb { D with nx := N, ct := N, bk := D.nx } σ H1 else D.nx σ H1) : tWhile c tb D σ H :=
  ⟨fun m σ H => m = μ σ H ∧ Pv σ H, ⟨_, rfl, h0⟩, fun m σ H ⟨e, p⟩ => hs m σ H e p⟩

/-! ### the deck -/
def spMixed : Sp := fun vs H Q _ => ∃ (c a : Int), vs = [.int c, .int a] ∧ -1 ≤ a ∧ a < 2 ^ 60 ∧ ∀ r : Int, Q (.int r) H
/-- a deck at d, of which n draws were taken at most -/
def Deck (H : Hp) (d f : Addr) (n : Int) : Prop :=
  ∃ (a wh : Int) (xs : List Int), H d = some (.lst [.int a, .int wh, .ref f]) ∧ H f = some (.lst (xs.map V.int)) ∧ 0 ≤ a ∧ a ≤ n ∧ xs.length ≤ 100000
def spNext : Sp := fun vs H Q _ => ∃ (d f : Addr) (m n : Int), vs = [.ref d, .int m] ∧ 0 < m ∧ n < 2 ^ 60 ∧ Deck H d f n ∧
  ∀ (r : Int) (H' : Hp), 0 ≤ r → r < m → Kp [d] H H' → Deck H' d f (n + 1) → Q (.int r) H'
def spDeck (K : PySem.W.Frag) : Sp := fun vs H Q _ => ∃ (a : Addr) (ns : List Int), vs = [.ref a] ∧ SqL K H a (ns.map V.int) ∧ ns.length ≤ 63 ∧
  ∀ (H' : Hp) (d f : Addr), H d = none → H f = none → Same H H' → Deck H' d f 0 → Q (.ref d) H'
end Wn

namespace Wn
open PySem L2
/-! ### tuples stay, whatever is called -/
def TK (H H' : Hp) : Prop := (∀ b xs, H b = some (.tup xs) → H' b = some (.tup xs)) ∧ (∀ b o u, H b = some (.frz o u) → H' b = some (.frz o u))
theorem TK.refl (H : Hp) : TK H H := ⟨fun _ _ h => h, fun _ _ _ h => h⟩
theorem TK.trans {H H1 H2 : Hp} (a : TK H H1) (b : TK H1 H2) : TK H H2 := ⟨fun c o h => b.1 c o (a.1 c o h), fun c o u h => b.2 c o u (a.2 c o u h)⟩
theorem TK.of {H H1 : Hp} (a : Same H H1) : TK H H1 := ⟨fun c o h => a _ _ h, fun c o u h => a _ _ h⟩
theorem TK.new {H H1 : Hp} {p : Addr} {o : HO} (a : TK H H1) (hp : H1 p = none) : TK H (upd H1 p o) :=
  ⟨fun c u q => by rw [upd_ne (ne_of_none (a.1 c u q) hp)]; exact a.1 c u q, fun c u z q => by rw [upd_ne (ne_of_none (a.2 c u z q) hp)]; exact a.2 c u z q⟩
/-- what is neither a tuple nor locked may be written -/
def Wrt : HO → Bool
  | .tup _ => false
  | .frz _ _ => false
  | _ => true
theorem TK.wr {H H1 : Hp} {p : Addr} {o u : HO} (a : TK H H1) (hp : H1 p = some u) (hu : Wrt u = true) : TK H (upd H1 p o) :=
  ⟨fun c v q => by
    have h1 := a.1 c v q
    rw [upd_ne (ne_of h1 hp (fun z => by rw [← z] at hu; cases hu))]
    exact h1, fun c v z q => by
    have h1 := a.2 c v z q
    rw [upd_ne (ne_of h1 hp (fun z => by rw [← z] at hu; cases hu))]
    exact h1⟩
theorem _root_.L2.FnOk.tk {P : Program} {w : World} {K : PySem.W.Frag} {mg : Str → Option Value} {base : Heap} {k : Nat} {f : Addr} {fd : FuncData} {ps : List Str} {sp : Sp} (F : FnOk P w K mg base CX0 k f fd ps sp) :
    FnOk P w K mg base CX0 k f fd ps (fun vs H Q E => sp vs H (fun v H' => TK H H' → Q v H') E) := by
  refine ⟨fun vs H Q E q => F.len vs H _ E q, fun A outer s H args us vs Q E hr he hb hv hs => ?_⟩
  refine codeAny_mono (F.run A outer s H args us vs _ E hr he hb hv hs) fun r s' h => ?_
  cases r with
  | ok fl =>
    cases fl with
    | ret u =>
      obtain ⟨v, H', e1, e2, e3, e4, e5, q⟩ := h
      exact ⟨v, H', e1, e2, e3, e4, e5, q ⟨e3.tups, e3.frzs⟩⟩
    | _ => exact h
  | error e => exact h
/-- a promise, tuples kept besides -/
def Tk (sp : Sp) : Sp := fun vs H Q E => sp vs H (fun v H' => TK H H' → Q v H') E
theorem Cd.tk {P : Program} {w : World} {K : PySem.W.Frag} {mg : Str → Option Value} {base : Heap} {k : Nat} {name : Str} {ps : List Str} {sp : Sp} (h : Cd P w K mg base k name ps sp) : Cd P w K mg base k name ps (Tk sp) := by
  obtain ⟨f, fd, G, a, b, c⟩ := h
  exact ⟨f, fd, G.tk, a, b, c⟩
theorem Md.tk {P : Program} {w : World} {K : PySem.W.Frag} {mg : Str → Option Value} {base : Heap} {k : Nat} {C : Addr} {name : Str} {ps : List Str} {sp : Sp} (h : Md P w K mg base k C name ps sp) : Md P w K mg base k C name ps (Tk sp) := by
  obtain ⟨f, fd, G, a, b⟩ := h
  exact ⟨f, fd, G.tk, a, b⟩

/-! ### data: None, truths, ints, texts, tuples of these -/
mutual
def Rp (K : PySem.W.Frag) (H : Hp) : PyData → V → Prop
  | .none, v => v = .non
  | .bool b, v => v = .bl b
  | .int i, v => v = .int i
  | .str s, v => v = .str s
  | .tuple ds, v => ∃ a xs, v = .ref a ∧ SqT K H a xs ∧ RpL K H ds xs
  | .list _, _ => False
  | .dict _, _ => False
def RpL (K : PySem.W.Frag) (H : Hp) : List PyData → List V → Prop
  | [], xs => xs = []
  | d :: ds, xs => ∃ v r, xs = v :: r ∧ Rp K H d v ∧ RpL K H ds r
end
mutual
def dep : PyData → Nat
  | .tuple xs => deps xs + 1
  | _ => 0
def deps : List PyData → Nat
  | [] => 0
  | x :: xs => max (dep x) (deps xs)
end
mutual
def sz : PyData → Nat
  | .tuple xs => szs xs + 1
  | _ => 1
def szs : List PyData → Nat
  | [] => 0
  | x :: xs => sz x + szs xs
end
theorem SqT.tk {K : PySem.W.Frag} {H H' : Hp} {a : Addr} {xs : List V} (h : SqT K H a xs) (e : TK H H') : SqT K H' a xs := by
  rcases h with (h | ⟨o, h⟩) | h
  · exact .inl (.inl (e.1 _ _ h))
  · exact .inl (.inr ⟨o, e.2 _ _ _ h⟩)
  · exact .inr h
mutual
theorem Rp.tk {K : PySem.W.Frag} {H H' : Hp} (e : TK H H') : ∀ (d : PyData) (v : V), Rp K H d v → Rp K H' d v
  | .none, _, h => h
  | .bool _, _, h => h
  | .int _, _, h => h
  | .str _, _, h => h
  | .tuple ds, v, h => by
    unfold Rp at h ⊢
    obtain ⟨a, xs, rfl, hs, hl⟩ := h
    exact ⟨a, xs, rfl, SqT.tk hs e, RpL.tk e ds xs hl⟩
  | .list _, _, h => h
  | .dict _, _, h => h
theorem RpL.tk {K : PySem.W.Frag} {H H' : Hp} (e : TK H H') : ∀ (ds : List PyData) (xs : List V), RpL K H ds xs → RpL K H' ds xs
  | [], _, h => h
  | d :: ds, xs, h => by
    unfold RpL at h ⊢
    obtain ⟨v, r, rfl, h1, h2⟩ := h
    exact ⟨v, r, rfl, Rp.tk e d v h1, RpL.tk e ds r h2⟩
end
theorem RpL.len {K : PySem.W.Frag} {H : Hp} : ∀ (ds : List PyData) (xs : List V), RpL K H ds xs → xs.length = ds.length
  | [], xs, h => by
    unfold RpL at h
    rw [h]
    rfl
  | d :: ds, xs, h => by
    unfold RpL at h
    obtain ⟨v, r, rfl, h1, h2⟩ := h
    rw [List.length_cons, List.length_cons, RpL.len ds r h2]
theorem RpL.get {K : PySem.W.Frag} {H : Hp} : ∀ (ds : List PyData) (xs : List V), RpL K H ds xs → ∀ (i : Nat) (d : PyData), ds[i]? = some d → ∃ v, xs[i]? = some v ∧ Rp K H d v
  | [], xs, h, i, d, e => by cases e
  | d :: ds, xs, h, i, d', e => by
    unfold RpL at h
    obtain ⟨v, r, rfl, h1, h2⟩ := h
    cases i with
    | zero =>
      simp only [List.getElem?_cons_zero, Option.some.injEq] at e
      exact ⟨v, rfl, e ▸ h1⟩
    | succ i =>
      simp only [List.getElem?_cons_succ] at e ⊢
      exact RpL.get ds r h2 i d' e
theorem RpL.of {K : PySem.W.Frag} {H : Hp} : ∀ (ds : List PyData) (xs : List V), xs.length = ds.length → (∀ (i : Nat) (d : PyData) (v : V), ds[i]? = some d → xs[i]? = some v → Rp K H d v) → RpL K H ds xs
  | [], xs, h, _ => by
    unfold RpL
    exact List.length_eq_zero_iff.mp h
  | d :: ds, [], h, _ => by cases h
  | d :: ds, v :: r, h, k => by
    unfold RpL
    refine ⟨v, r, rfl, k 0 d v rfl rfl, RpL.of ds r (by simpa using h) fun i d' v' h1 h2 => k (i + 1) d' v' ?_ ?_⟩
    · simpa using h1
    · simpa using h2
theorem RpL.snoc {K : PySem.W.Frag} {H : Hp} {d : PyData} {v : V} (h : Rp K H d v) : ∀ (ds : List PyData) (xs : List V), RpL K H ds xs → RpL K H (ds ++ [d]) (xs ++ [v])
  | [], xs, q => by
    unfold RpL at q
    subst q
    show RpL K H [d] [v]
    unfold RpL
    exact ⟨v, [], rfl, h, by unfold RpL; rfl⟩
  | d' :: ds, xs, q => by
    unfold RpL at q
    obtain ⟨v', r, rfl, h1, h2⟩ := q
    show RpL K H (d' :: (ds ++ [d])) (v' :: (r ++ [v]))
    unfold RpL
    exact ⟨_, _, rfl, h1, RpL.snoc h ds r h2⟩
theorem dep_get : ∀ (ds : List PyData) (i : Nat) (d : PyData), ds[i]? = some d → dep d ≤ deps ds
  | [], i, d, e => by cases e
  | x :: xs, 0, d, e => by
    simp only [List.getElem?_cons_zero, Option.some.injEq] at e
    unfold deps
    rw [e]
    exact Nat.le_max_left _ _
  | x :: xs, i + 1, d, e => by
    simp only [List.getElem?_cons_succ] at e
    unfold deps
    exact Nat.le_trans (dep_get xs i d e) (Nat.le_max_right _ _)
theorem sz_get : ∀ (ds : List PyData) (i : Nat) (d : PyData), ds[i]? = some d → sz d ≤ szs ds
  | [], i, d, e => by cases e
  | x :: xs, 0, d, e => by
    simp only [List.getElem?_cons_zero, Option.some.injEq] at e
    unfold szs
    rw [e]
    exact Nat.le_add_right _ _
  | x :: xs, i + 1, d, e => by
    simp only [List.getElem?_cons_succ] at e
    unfold szs
    exact Nat.le_trans (sz_get xs i d e) (Nat.le_add_left _ _)
theorem sz_pos : ∀ d : PyData, 1 ≤ sz d
  | .tuple xs => by unfold sz; omega
  | .none | .bool _ | .int _ | .str _ | .list _ | .dict _ => by unfold sz; exact Nat.le_refl _
theorem szs_len : ∀ ds : List PyData, ds.length ≤ szs ds
  | [] => Nat.zero_le _
  | x :: xs => by
    have := szs_len xs
    have := sz_pos x
    unfold szs
    rw [List.length_cons]
    omega
/-- the type of such a thing -/
theorem ty_tup {K : PySem.W.Frag} {H : Hp} {a : Addr} {xs : List V} (h : SqT K H a xs) : TyX K H (.ref a) (.type "tuple") := by
  rcases h with (h | ⟨o, h⟩) | ⟨o, its, n, h, c, _⟩
  · exact .base (.tup h)
  · exact .fTuple h
  · exact .kTuple h c
/-- the same data handed in twice, of depth below n: True -/
def spSame (K : PySem.W.Frag) (n : Nat) : Sp := fun vs H Q _ => ∃ (x y : V) (d : PyData), vs = [x, y] ∧ Rp K H d x ∧ Rp K H d y ∧ dep d < n ∧ sz d ≤ 1000000 ∧ ∀ H', Same H H' → Q (.bl true) H'
end Wn

namespace Wn
open PySem L2
theorem fld1 {f : Str} {v : V} : ([(f, v)] : List (Str × V)).lookup f = some v := by
  show (match f == f with | true => some v | false => _) = some v
  rw [beq_self_eq_true]
theorem fld1_ne {f g : Str} {v : V} (h : (g == f) = false) : ([(f, v)] : List (Str × V)).lookup g = none := by
  show (match g == f with | true => some v | false => _) = none
  rw [h]
  rfl
theorem putF1 {f : Str} {v u : V} : putF f u [(f, v)] = [(f, u)] := by
  show (if f = f then (f, u) :: [] else _) = _
  rw [if_pos rfl]
/-! ### dicts by whole numbers, their values data -/
section
variable {α : Type}
def lookA (m : List (Int × α)) (k : Int) : Option α := (m.find? fun p => decide (p.1 = k)).map (·.2)
def putA (m : List (Int × α)) (k : Int) (v : α) : List (Int × α) :=
  if (m.any fun kv => decide (kv.1 = k)) = true then m.map (fun kv => if kv.1 = k then (kv.1, v) else kv) else m ++ [(k, v)]
def dropA (m : List (Int × α)) (k : Int) : List (Int × α) := m.filter fun kv => decide (kv.1 ≠ k)
theorem putA_len (m : List (Int × α)) (k : Int) (v : α) : (putA m k v).length ≤ m.length + 1 := by
  unfold putA
  split
  · rw [List.length_map]
    omega
  · rw [List.length_append, List.length_singleton]
    exact Nat.le_refl _
theorem dropA_len (m : List (Int × α)) (k : Int) : (dropA m k).length ≤ m.length := List.length_filter_le _ _
def RpD (enc : α → PyData) (K : PySem.W.Frag) (H : Hp) : List (Int × α) → List (Key × V) → Prop
  | [], kvs => kvs = []
  | p :: m, kvs => ∃ v r, kvs = (Sum.inl p.1, v) :: r ∧ Rp K H (enc p.2) v ∧ RpD enc K H m r
variable {enc : α → PyData} {K : PySem.W.Frag} {H H' : Hp}
theorem RpD.tk (e : TK H H') : ∀ {m : List (Int × α)} {kvs : List (Key × V)}, RpD enc K H m kvs → RpD enc K H' m kvs
  | [], _, h => h
  | p :: m, kvs, h => by
    obtain ⟨v, r, rfl, h1, h2⟩ := h
    exact ⟨v, r, rfl, Rp.tk e _ _ h1, RpD.tk e h2⟩
theorem RpD.len : ∀ {m : List (Int × α)} {kvs : List (Key × V)}, RpD enc K H m kvs → kvs.length = m.length
  | [], kvs, h => by rw [show kvs = [] from h]; rfl
  | p :: m, kvs, h => by
    obtain ⟨v, r, rfl, h1, h2⟩ := h
    rw [List.length_cons, List.length_cons, RpD.len h2]
theorem RpD.keys : ∀ {m : List (Int × α)} {kvs : List (Key × V)}, RpD enc K H m kvs → (kvs.map fun kv => kV kv.1) = (m.map (·.1)).map V.int
  | [], kvs, h => by rw [show kvs = [] from h]; rfl
  | p :: m, kvs, h => by
    obtain ⟨v, r, rfl, h1, h2⟩ := h
    rw [List.map_cons, List.map_cons, List.map_cons, RpD.keys h2]
    rfl
theorem inl_iff {a b : Int} : ((Sum.inl a : Key) = Sum.inl b) ↔ a = b := ⟨fun h => by cases h; rfl, fun h => by rw [h]⟩
theorem RpD.val {k : Int} : ∀ {m : List (Int × α)} {kvs : List (Key × V)}, RpD enc K H m kvs → (lookA m k = none ∧ valV kvs (Sum.inl k) = none) ∨ ∃ x v, lookA m k = some x ∧ valV kvs (Sum.inl k) = some v ∧ Rp K H (enc x) v
  | [], kvs, h => by
    rw [show kvs = [] from h]
    exact .inl ⟨rfl, rfl⟩
  | p :: m, kvs, h => by
    obtain ⟨v, r, rfl, h1, h2⟩ := h
    by_cases e : p.1 = k
    · refine .inr ⟨p.2, v, ?_, valV_pos (by rw [e]), h1⟩
      simp [lookA, List.find?_cons, e]
    · have e1 : lookA (p :: m) k = lookA m k := by simp [lookA, List.find?_cons, e]
      rw [e1, valV_neg (p := (Sum.inl p.1, v)) (fun z => e (inl_iff.mp z))]
      exact RpD.val h2
theorem RpD.any {k : Int} : ∀ {m : List (Int × α)} {kvs : List (Key × V)}, RpD enc K H m kvs → (kvs.any fun kv => decide (kv.1 = Sum.inl k)) = (m.any fun kv => decide (kv.1 = k))
  | [], kvs, h => by rw [show kvs = [] from h]; rfl
  | p :: m, kvs, h => by
    obtain ⟨v, r, rfl, h1, h2⟩ := h
    rw [List.any_cons, List.any_cons, RpD.any h2]
    congr 1
    exact decide_eq_decide.mpr inl_iff
theorem RpD.snoc {k : Int} {x : α} {v : V} (hv : Rp K H (enc x) v) : ∀ {m : List (Int × α)} {kvs : List (Key × V)}, RpD enc K H m kvs → RpD enc K H (m ++ [(k, x)]) (kvs ++ [(Sum.inl k, v)])
  | [], kvs, h => by
    rw [show kvs = [] from h]
    exact ⟨v, [], rfl, hv, rfl⟩
  | p :: m, kvs, h => by
    obtain ⟨u, r, rfl, h1, h2⟩ := h
    exact ⟨u, _, rfl, h1, RpD.snoc hv h2⟩
theorem RpD.map {k : Int} {x : α} {v : V} (hv : Rp K H (enc x) v) : ∀ {m : List (Int × α)} {kvs : List (Key × V)}, RpD enc K H m kvs → RpD enc K H (m.map fun kv => if kv.1 = k then (kv.1, x) else kv) (kvs.map fun kv => if kv.1 = Sum.inl k then (kv.1, v) else kv)
  | [], kvs, h => by rw [show kvs = [] from h]; rfl
  | p :: m, kvs, h => by
    obtain ⟨u, r, rfl, h1, h2⟩ := h
    have h3 := RpD.map (k := k) hv h2
    rw [List.map_cons, List.map_cons]
    by_cases e : p.1 = k
    · rw [if_pos e, if_pos (inl_iff.mpr e)]
      exact ⟨v, _, rfl, hv, h3⟩
    · rw [if_neg e, if_neg (fun z => e (inl_iff.mp z))]
      exact ⟨u, _, rfl, h1, h3⟩
theorem RpD.put {k : Int} {x : α} {v : V} {m : List (Int × α)} {kvs : List (Key × V)} (h : RpD enc K H m kvs) (hv : Rp K H (enc x) v) : RpD enc K H (putA m k x) (putK kvs (Sum.inl k) v) := by
  unfold putA putK
  rw [h.any]
  split
  · exact h.map hv
  · exact h.snoc hv
theorem RpD.drop {k : Int} : ∀ {m : List (Int × α)} {kvs : List (Key × V)}, RpD enc K H m kvs → RpD enc K H (dropA m k) (dropK kvs (Sum.inl k))
  | [], kvs, h => by rw [show kvs = [] from h]; rfl
  | p :: m, kvs, h => by
    obtain ⟨u, r, rfl, h1, h2⟩ := h
    have h3 := RpD.drop (k := k) h2
    unfold dropA dropK at *
    by_cases e : p.1 = k
    · rw [List.filter_cons_of_neg (by simp [e]), List.filter_cons_of_neg (by simp [e])]
      exact h3
    · rw [List.filter_cons_of_pos (by simp [e]), List.filter_cons_of_pos (by simp [inl_iff, e])]
      exact ⟨u, _, rfl, h1, h3⟩
/-- a dict at q that stands for m -/
def DictAt (enc : α → PyData) (K : PySem.W.Frag) (H : Hp) (q : Addr) (m : List (Int × α)) : Prop := ∃ kvs, H q = some (.dK kvs) ∧ RpD enc K H m kvs
theorem DictAt.kp {M : List Addr} {q : Addr} {m : List (Int × α)} (h : DictAt enc K H q m) (k : Kp M H H') (t : TK H H') (n : q ∉ M) : DictAt enc K H' q m := by
  obtain ⟨kvs, a, b⟩ := h
  exact ⟨kvs, k _ _ n a, b.tk t⟩
def sortI (ns : List Int) : List Int := ns.mergeSort (fun a b => decide (a ≤ b))
theorem sortI_perm (ns : List Int) : (sortI ns).Perm ns := List.mergeSort_perm _ _
theorem sortI_sorted (ns : List Int) : (sortI ns).Pairwise (· ≤ ·) := by
  have h := List.pairwise_mergeSort (le := fun a b : Int => decide (a ≤ b)) (fun a b c h1 h2 => by simp only [decide_eq_true_eq] at *; omega) (fun a b => by simp only [Bool.or_eq_true, decide_eq_true_eq]; omega) ns
  exact h.imp fun h => of_decide_eq_true h
theorem sortI_eq {ns ms : List Int} (p : ms.Perm ns) (s : ms.Pairwise (· ≤ ·)) : ms = sortI ns :=
  PySem.W.ksm_same (p.trans (sortI_perm ns).symm) s (sortI_sorted ns)
/-- rows by hands: (hand,) and what stands there -/
def rowsD (encL : α → List PyData) (m : List (Int × α)) : PyData := .tuple ((sortI (m.map (·.1))).map fun k => .tuple (.int k :: ((lookA m k).map encL).getD []))
theorem lookA_mem {m : List (Int × α)} {k : Int} (h : k ∈ m.map (·.1)) : ∃ x, lookA m k = some x ∧ (k, x) ∈ m := by
  obtain ⟨p, hp, rfl⟩ := List.mem_map.mp h
  unfold lookA
  cases e : m.find? fun q => decide (q.1 = p.1) with
  | none =>
    have := List.find?_eq_none.mp e p hp
    simp at this
  | some q =>
    have h1 := List.find?_some e
    have h2 := List.mem_of_find?_eq_some e
    simp only [decide_eq_true_eq] at h1
    exact ⟨q.2, rfl, by rw [← h1]; exact h2⟩
theorem szs_map_le {β : Type} {f : β → PyData} {c : Nat} : ∀ (l : List β), (∀ x ∈ l, sz (f x) ≤ c) → szs (l.map f) ≤ c * l.length
  | [], _ => Nat.zero_le _
  | x :: l, h => by
    have h1 := szs_map_le l fun y hy => h y (List.mem_cons_of_mem _ hy)
    have h2 := h x List.mem_cons_self
    rw [List.map_cons, List.length_cons]
    unfold szs
    rw [Nat.mul_succ]
    omega
theorem deps_map_le {β : Type} {f : β → PyData} {c : Nat} : ∀ (l : List β), (∀ x ∈ l, dep (f x) ≤ c) → deps (l.map f) ≤ c
  | [], _ => Nat.zero_le _
  | x :: l, h => by
    have h1 := deps_map_le l fun y hy => h y (List.mem_cons_of_mem _ hy)
    have h2 := h x List.mem_cons_self
    rw [List.map_cons]
    unfold deps
    omega
theorem Rp.tup {ds : List PyData} {a : Addr} {xs : List V} (h : H a = some (.tup xs)) (r : RpL K H ds xs) : Rp K H (.tuple ds) (.ref a) := by
  unfold Rp
  exact ⟨a, xs, rfl, SqT.of h, r⟩
theorem Rp.tupS {ds : List PyData} {a : Addr} {xs : List V} (h : SqT K H a xs) (r : RpL K H ds xs) : Rp K H (.tuple ds) (.ref a) := by
  unfold Rp
  exact ⟨a, xs, rfl, h, r⟩
theorem RpL.cons {d : PyData} {ds : List PyData} {v : V} {xs : List V} (h : Rp K H d v) (r : RpL K H ds xs) : RpL K H (d :: ds) (v :: xs) := by
  unfold RpL
  exact ⟨v, xs, rfl, h, r⟩
theorem RpL.nil : RpL K H [] [] := by
  unfold RpL
  rfl
theorem Rp.int {i : Int} : Rp K H (.int i) (.int i) := by
  unfold Rp
  rfl
theorem Rp.none : Rp K H .none .non := by
  unfold Rp
  rfl
theorem Rp.str {z : Str} : Rp K H (.str z) (.str z) := by
  unfold Rp
  rfl
end
end Wn

namespace Wn
open PySem L2
theorem tYes_t {σ : L2.St} {H : Hp} {F : Bool → Hp → Prop} (h : F true H) : tYes σ H F := h
theorem rows_lc {α : Type} {encL : α → List PyData} {K : PySem.W.Frag} {td : TE} {i : Nat} {σ : L2.St} {H2 : Hp} {S D q : Addr} {ns : List Int} {m : List (Int × α)} {kvs : List (Key × V)} {Qd : Hp → Prop}
    (hS : H2 S = some (.lst (ns.map V.int))) (hq : H2 q = some (.dK kvs)) (hm : RpD (fun x => .tuple (encL x)) K H2 m kvs) (hns : ∀ k ∈ ns, k ∈ m.map (·.1)) (hz : ∀ x, (encL x).length ≤ 100) (hln : ns.length ≤ 1000000)
    (htd : ∀ (σ' : L2.St) (H' : Hp) (Q : VK), wipe σ' [i] = wipe σ [i] → Same H2 H' → Q (.ref q) H' → td σ' H' Q) (hD : H2 D = none) (hσ : i < σ.length)
    (hd : ∀ (H' : Hp) (xs : List V), Same H2 H' → H' D = some (.lst xs) → RpL K H' (ns.map fun k => .tuple (.int k :: ((lookA m k).map encL).getD [])) xs → Qd H') :
    ∃ W : Nat → Nat → Hp → Prop, (∃ m, W 0 m (upd H2 D (.lst []))) ∧ ∀ j m H, W j m H →
      ((Itl K S).stop j H ∧ Qd H) ∨ ((Itl K S).go j H ∧ ∃ Nx : Hp → Prop, (∀ H', Nx H' → ∃ m', m' < m ∧ W (j + 1) m' H') ∧ ∀ x H', (Itl K S).yld j H x H' → gName i x (wipe σ [i]) H' fun σ2 H2 => wipe σ2 [i] = wipe σ [i] ∧ tYes σ2 H2 fun b H3 =>
        if b = true then tOp (rCatT K) (tTup (tCons (tVar i) tNil)) (tDGet td (tVar i)) σ2 H3 fun y H4 => ∃ acc, H4 D = some (.lst acc) ∧ acc.length < sizeLine ∧ Nx (upd H4 D (.lst (acc ++ [y]))) else Nx H3) := by
  have nSD : S ≠ D := ne_of_none hS hD
  refine lc_list (K := K) (a := S) (xs := ns.map V.int) (fun j H => ∃ xs, Same H2 H ∧ H D = some (.lst xs) ∧ RpL K H ((ns.take j).map fun k => .tuple (.int k :: ((lookA m k).map encL).getD [])) xs)
    ⟨[], (L2.Same.refl H2).new hD, upd_same, RpL.nil⟩ (fun j H _ ⟨xs, s, _, _⟩ => SqL.of (s _ _ hS)) ?_ ?_
  · rintro j x H3 hx ⟨xs, s3, hD3, hr⟩
    have hj : j < ns.length := by
      have q := (List.getElem?_eq_some_iff.mp hx).1
      rw [List.length_map] at q
      exact q
    obtain rfl : x = V.int ns[j] := by
      rw [List.getElem?_map, List.getElem?_eq_getElem hj] at hx
      exact (Option.some.inj hx).symm
    have hmem : ns[j] ∈ m.map (·.1) := hns _ (List.getElem_mem hj)
    have eσ : (((wipe σ [i]).set i (some (V.int ns[j]))))[i]? = some (some (V.int ns[j])) := by
      rw [List.getElem?_set_self]
      rw [wipe_length]
      exact hσ
    have ew : wipe ((wipe σ [i]).set i (some (V.int ns[j]))) [i] = wipe σ [i] := by
      show ((σ.set i none).set i (some (V.int ns[j]))).set i none = σ.set i none
      rw [List.set_set, List.set_set]
    refine ⟨ew, ?_⟩
    refine tYes_t (iteT ?_)
    have hlx : xs.length < sizeLine := by
      have := RpL.len _ _ hr
      rw [List.length_map, List.length_take] at this
      exact Nat.lt_of_le_of_lt (show xs.length ≤ 1000000 by omega) (by decide)
    refine ⟨_, eσ, (by show 1 ≤ sizeLine; decide), fun t ht => ?_⟩
    have s4 := s3.new (o := .tup [V.int ns[j]]) ht
    have t4 := TK.of s4
    refine htd _ _ _ ew s4 ⟨_, eσ, ?_⟩
    rcases hm.val (k := ns[j]) with ⟨e1, e2⟩ | ⟨y, v, e1, e2, r⟩
    · obtain ⟨z, e3, _⟩ := lookA_mem hmem
      rw [e1] at e3
      cases e3
    · have r4 := Rp.tk t4 _ _ r
      unfold Rp at r4
      obtain ⟨b, ys, rfl, hb, hl⟩ := r4
      have hly := RpL.len _ _ hl
      refine ⟨q, .ref b, rfl, by rw [← e2]; exact DGet.k (k := Sum.inl ns[j]) (s4 _ _ hq), ?_⟩
      have hD4 : (upd H3 t (.tup [V.int ns[j]])) D = some (.lst xs) := by
        rw [upd_ne (ne_of_none hD3 ht)]
        exact hD3
      have etk : (ns.take (j + 1)).map (fun k => PyData.tuple (.int k :: ((lookA m k).map encL).getD [])) = (ns.take j).map (fun k => PyData.tuple (.int k :: ((lookA m k).map encL).getD [])) ++ [PyData.tuple (.int ns[j] :: encL y)] := by
        rw [List.take_succ_eq_append_getElem hj, List.map_append, List.map_singleton, e1]
        rfl
      have s34 : TK H3 (upd H3 t (.tup [V.int ns[j]])) := (TK.refl _).new ht
      refine ⟨t, b, _, ys, rfl, rfl, SqT.of upd_same, hb, List.cons_ne_nil _ _, ?_, fun ey => ?_, fun _ p hp => ?_⟩
      · have := hz y
        rw [hly, List.length_singleton]
        exact Nat.le_trans (show 1 + (encL y).length ≤ 1000 by omega) (by decide)
      · refine ⟨xs, hD4, hlx, _, s4.wrn hD, upd_same, ?_⟩
        rw [etk]
        have tE : TK (upd H3 t (.tup [V.int ns[j]])) (upd (upd H3 t (.tup [V.int ns[j]])) D (.lst (xs ++ [V.ref t]))) := (TK.refl _).wr hD4 rfl
        refine RpL.snoc (Rp.tk tE _ _ (Rp.tup upd_same ?_)) _ _ (RpL.tk (s34.trans tE) _ _ hr)
        have e0 : encL y = [] := List.length_eq_zero_iff.mp (by rw [← hly, ey]; rfl)
        rw [e0]
        exact RpL.cons Rp.int RpL.nil
      · have s5 := s4.new (o := .tup ([V.int ns[j]] ++ ys)) hp
        have hD5 : upd (upd H3 t (.tup [V.int ns[j]])) p (.tup ([V.int ns[j]] ++ ys)) D = some (.lst xs) := by
          rw [upd_ne (ne_of_none hD4 hp)]
          exact hD4
        have tE : TK (upd (upd H3 t (.tup [V.int ns[j]])) p (.tup ([V.int ns[j]] ++ ys))) (upd (upd (upd H3 t (.tup [V.int ns[j]])) p (.tup ([V.int ns[j]] ++ ys))) D (.lst (xs ++ [V.ref p]))) := (TK.refl _).wr hD5 rfl
        have s45 : TK (upd H3 t (.tup [V.int ns[j]])) (upd (upd H3 t (.tup [V.int ns[j]])) p (.tup ([V.int ns[j]] ++ ys))) := (TK.refl _).new hp
        refine ⟨xs, hD5, hlx, _, s5.wrn hD, upd_same, ?_⟩
        rw [etk]
        refine RpL.snoc (Rp.tk tE _ _ (Rp.tup upd_same ?_)) _ _ (RpL.tk ((s34.trans s45).trans tE) _ _ hr)
        exact RpL.cons Rp.int (RpL.tk s45 _ _ hl)
  · rintro H3 ⟨xs, s3, hD3, hr⟩
    rw [List.length_map, List.take_length] at hr
    exact hd H3 xs s3 hD3 hr
end Wn

namespace Wn
open PySem L2
section
variable {X : Cx} {K : PySem.W.Frag}
theorem ixL (hK : X.K = K) : IxR X (rIxL K) := hK ▸ ix_list
theorem ixT (hK : X.K = K) : IxR X (rIxT K) := hK ▸ ix_tup
theorem opCatT (hK : X.K = K) : OpR X (binaryOp .Add) (rCatT K) := hK ▸ op_catT
theorem slL (hK : X.K = K) : SlR X (rSlL K) := hK ▸ sl_list
theorem slT (hK : X.K = K) : SlR X (rSlT K) := hK ▸ sl_tup
theorem fldK {e : Expr} {ta : TE} {f : Str} {pos : Pos} (hK : X.K = K) (he : PE X e ta) (hb : attributeBase e f X.env (eval e X.env) = eval e X.env) : PE X (.Attribute e f pos) (tFld K ta f) := hK ▸ pe_fld he hb
theorem lenK (hK : X.K = K) : CallR X (.builtin "len") (fun xs H Q => ∃ x n, xs = [x] ∧ LenV K x H n ∧ Q (.int n) H) := hK ▸ call_len
theorem crMaxK (hK : X.K = K) (hc : X.calm = true) : CallR X (.builtin "max") (rMax K) := hK ▸ cr_max hc
theorem crMinK (hK : X.K = K) (hc : X.calm = true) : CallR X (.builtin "min") (rMin K) := hK ▸ cr_min hc
theorem crAllK (hK : X.K = K) (hc : X.calm = true) : CallR X (.builtin "all") (rAll K) := hK ▸ cr_all hc
theorem crAnyK (hK : X.K = K) (hc : X.calm = true) : CallR X (.builtin "any") (rAny K) := hK ▸ cr_any hc
theorem isiK (hK : X.K = K) : CallR X (.builtin "isinstance") (rIsi K) := hK ▸ call_isi
theorem tupOfK (hK : X.K = K) : CallR X (.type "tuple") (fun xs H Q => ∃ p ys, xs = [.ref p] ∧ ((SqL K H p ys ∧ ∀ l, H l = none → Q (.ref l) (upd H l (.tup ys))) ∨ (SqT K H p ys ∧ Q (.ref p) H))) := hK ▸ call_tuple_of
theorem lstOfK (hK : X.K = K) : CallR X (.type "list") (fun xs H Q => ∃ p ys, xs = [.ref p] ∧ (SqL K H p ys ∨ SqT K H p ys) ∧ ∀ l, H l = none → Q (.ref l) (upd H l (.lst ys))) := hK ▸ call_list_of
theorem sortIK (hK : X.K = K) : CallR X (.builtin "sorted") (rSortedI K) := hK ▸ cr_sortedI
theorem inSeqK (hK : X.K = K) : OpR X (compareOp .In) (rIn K false) := hK ▸ op_in_seq
theorem notInSeqK (hK : X.K = K) : OpR X (compareOp .NotIn) (rIn K true) := hK ▸ op_notIn_seq
theorem eqDK (hK : X.K = K) (hu : X.A.units + 64 < cLine) : OpR X (compareOp .Eq) (rEqD K) := hK ▸ op_eqD hu
theorem neDK (hK : X.K = K) (hu : X.A.units + 64 < cLine) : OpR X (compareOp .NotEq) (rNeD K) := hK ▸ op_neD hu
end
end Wn

namespace Wn
open PySem L2
theorem Deck.kp {M : List Addr} {H H' : Hp} {d f : Addr} {n : Int} (h : Deck H d f n) (k : Kp M H H') (n1 : d ∉ M) (n2 : f ∉ M) : Deck H' d f n := by
  obtain ⟨a, wh, xs, h1, h2, h3⟩ := h
  exact ⟨a, wh, xs, k _ _ n1 h1, k _ _ n2 h2, h3⟩
theorem Deck.mono {H : Hp} {d f : Addr} {n m : Int} (h : Deck H d f n) (hm : n ≤ m) : Deck H d f m := by
  obtain ⟨a, wh, xs, h1, h2, h3, h4, h5⟩ := h
  exact ⟨a, wh, xs, h1, h2, h3, by omega, h5⟩
theorem Deck.lst {H : Hp} {d f : Addr} {n : Int} (h : Deck H d f n) : ∃ zs, H d = some (.lst zs) := by
  obtain ⟨a, wh, xs, h1, h2, h3⟩ := h
  exact ⟨_, h1⟩
theorem Deck.lst2 {H : Hp} {d f : Addr} {n : Int} (h : Deck H d f n) : ∃ zs, H f = some (.lst zs) := by
  obtain ⟨a, wh, xs, h1, h2, h3⟩ := h
  exact ⟨_, h2⟩
theorem seq_have {t u : TS} {D : Ends} {σ : L2.St} {H : Hp} (Mid : L2.St → Hp → Prop) (h2 : ∀ σ' H', Mid σ' H' → u D σ' H') (h1 : (∀ σ' H', Mid σ' H' → u D σ' H') → t { D with nx := u D } σ H) : tSeq t u D σ H := h1 h2
theorem seq_if {c : TT} {t1 t2 u : TS} {D : Ends} {σ : L2.St} {H : Hp} (Mid : L2.St → Hp → Prop) (h2 : ∀ σ' H', Mid σ' H' → u D σ' H') (h1 : (∀ σ' H', Mid σ' H' → u D σ' H') → tIfS c t1 t2 { D with nx := u D } σ H) : tSeq (tIfS c t1 t2) u D σ H := h1 h2
theorem nin1 {a b : Addr} (h : a ≠ b) : a ∉ [b] := fun z => h (List.mem_singleton.mp z)
theorem nin2 {a b c : Addr} (h : a ≠ b) (h' : a ≠ c) : a ∉ [b, c] := fun z => by
  rcases List.mem_cons.mp z with z | z
  · exact h z
  · exact h' (List.mem_singleton.mp z)
section
variable {α : Type}
/-- an object at p whose dict by_hand stands at q -/
def HoldAt (enc : α → PyData) (K : PySem.W.Frag) (C : Addr) (H : Hp) (p q : Addr) (m : List (Int × α)) : Prop :=
  (∃ dx, H p = some (.ins C dx [("by_hand", .ref q)])) ∧ DictAt enc K H q m
variable {enc : α → PyData} {K : PySem.W.Frag} {C : Addr} {H H' : Hp}
theorem HoldAt.kp {M : List Addr} {p q : Addr} {m : List (Int × α)} (h : HoldAt enc K C H p q m) (k : Kp M H H') (t : TK H H') (n1 : p ∉ M) (n2 : q ∉ M) : HoldAt enc K C H' p q m := by
  obtain ⟨⟨dx, a⟩, b⟩ := h
  exact ⟨⟨dx, k _ _ n1 a⟩, b.kp k t n2⟩
/-- n objects and n dicts, in two lists -/
structure Rack (enc : α → PyData) (K : PySem.W.Frag) (C : Addr) (H : Hp) (L1 L2 : Addr) (n : Nat) (p q md : Nat → Addr) (m m' : Nat → List (Int × α)) : Prop where
  l1 : H L1 = some (.lst ((List.range n).map fun j => V.ref (p j)))
  l2 : H L2 = some (.lst ((List.range n).map fun j => V.ref (md j)))
  ok : ∀ j, j < n → HoldAt enc K C H (p j) (q j) (m j)
  mo : ∀ j, j < n → DictAt enc K H (md j) (m' j)
  dq : ∀ i j, i < n → j < n → i ≠ j → q i ≠ q j
  dm : ∀ i j, i < n → j < n → i ≠ j → md i ≠ md j
  dx : ∀ i j, i < n → j < n → q i ≠ md j
variable {L1 L2 : Addr} {n : Nat} {p q md : Nat → Addr} {m m' : Nat → List (Int × α)}
theorem Rack.kp {M : List Addr} (R : Rack enc K C H L1 L2 n p q md m m') (k : Kp M H H') (t : TK H H') (h : ∀ x ∈ M, x ≠ L1 ∧ x ≠ L2 ∧ ∀ j, j < n → x ≠ p j ∧ x ≠ q j ∧ x ≠ md j) : Rack enc K C H' L1 L2 n p q md m m' where
  l1 := k _ _ (fun z => (h _ z).1 rfl) R.l1
  l2 := k _ _ (fun z => (h _ z).2.1 rfl) R.l2
  ok := fun j hj => (R.ok j hj).kp k t (fun z => ((h _ z).2.2 j hj).1 rfl) (fun z => ((h _ z).2.2 j hj).2.1 rfl)
  mo := fun j hj => (R.mo j hj).kp k t (fun z => ((h _ z).2.2 j hj).2.2 rfl)
  dq := R.dq
  dm := R.dm
  dx := R.dx
/-- a list beside was written -/
theorem Rack.lst {d : Addr} {zs : List V} (R : Rack enc K C H L1 L2 n p q md m m') (k : Kp [d] H H') (t : TK H H') (hd : H d = some (.lst zs)) (n1 : d ≠ L1) (n2 : d ≠ L2) : Rack enc K C H' L1 L2 n p q md m m' :=
  R.kp k t fun x hx => by
    rw [List.mem_singleton] at hx
    subst hx
    refine ⟨n1, n2, fun j hj => ?_⟩
    obtain ⟨⟨dx, a⟩, kvs, b, _⟩ := R.ok j hj
    obtain ⟨kvs', c, _⟩ := R.mo j hj
    exact ⟨ne_of hd a (by intro z; cases z), ne_of hd b (by intro z; cases z), ne_of hd c (by intro z; cases z)⟩
theorem Rack.same (R : Rack enc K C H L1 L2 n p q md m m') (s : Same H H') : Rack enc K C H' L1 L2 n p q md m m' :=
  R.kp (M := []) (Kp.of s) (TK.of s) fun x hx => by cases hx
/-- the k-th object's dict is another one -/
theorem Rack.setq {i : Nat} {mn : List (Int × α)} (R : Rack enc K C H L1 L2 n p q md m m') (hi : i < n) (k : Kp [q i] H H') (t : TK H H') (h : HoldAt enc K C H' (p i) (q i) mn) :
    Rack enc K C H' L1 L2 n p q md (fun j => if j = i then mn else m j) m' := by
  obtain ⟨_, kvq, hq, _⟩ := R.ok i hi
  refine ⟨k _ _ (nin1 (ne_of R.l1 hq (by intro z; cases z))) R.l1, k _ _ (nin1 (ne_of R.l2 hq (by intro z; cases z))) R.l2, fun j hj => ?_, fun j hj => ?_, R.dq, R.dm, R.dx⟩
  · by_cases e : j = i
    · subst e
      simp only [if_true]
      exact h
    · simp only [if_neg e]
      obtain ⟨⟨dx, a⟩, _⟩ := R.ok j hj
      exact (R.ok j hj).kp k t (nin1 (ne_of a hq (by intro z; cases z))) (nin1 (R.dq j i hj hi e))
  · exact (R.mo j hj).kp k t (nin1 (fun z => R.dx i j hi hj z.symm))
theorem Rack.setm {i : Nat} {mn : List (Int × α)} (R : Rack enc K C H L1 L2 n p q md m m') (hi : i < n) (k : Kp [md i] H H') (t : TK H H') (h : DictAt enc K H' (md i) mn) :
    Rack enc K C H' L1 L2 n p q md m (fun j => if j = i then mn else m' j) := by
  obtain ⟨kvq, hq, _⟩ := R.mo i hi
  refine ⟨k _ _ (nin1 (ne_of R.l1 hq (by intro z; cases z))) R.l1, k _ _ (nin1 (ne_of R.l2 hq (by intro z; cases z))) R.l2, fun j hj => ?_, fun j hj => ?_, R.dq, R.dm, R.dx⟩
  · obtain ⟨⟨dx, a⟩, _⟩ := R.ok j hj
    exact (R.ok j hj).kp k t (nin1 (ne_of a hq (by intro z; cases z))) (nin1 (R.dx j i hj hi))
  · by_cases e : j = i
    · subst e
      simp only [if_true]
      exact h
    · simp only [if_neg e]
      exact (R.mo j hj).kp k t (nin1 (R.dm j i hj hi e))
/-- one more -/
theorem Rack.push {pn qn mdn : Addr} {mn : List (Int × α)} (R : Rack enc K C H L1 L2 n p q md m m') (k : Kp [L1, L2] H H') (t : TK H H') (h1 : H' L1 = some (.lst (((List.range n).map fun j => V.ref (p j)) ++ [V.ref pn]))) (h2 : H' L2 = some (.lst (((List.range n).map fun j => V.ref (md j)) ++ [V.ref mdn])))
    (hp : HoldAt enc K C H' pn qn mn) (hm : DictAt enc K H' mdn mn) (nq : H qn = none) (nm : H mdn = none) (nqm : qn ≠ mdn) :
    Rack enc K C H' L1 L2 (n + 1) (fun j => if j = n then pn else p j) (fun j => if j = n then qn else q j) (fun j => if j = n then mdn else md j) (fun j => if j = n then mn else m j) (fun j => if j = n then mn else m' j) := by
  have e1 : ∀ (f : Nat → Addr) (x : Addr), (List.range (n + 1)).map (fun j => V.ref (if j = n then x else f j)) = ((List.range n).map fun j => V.ref (f j)) ++ [V.ref x] := fun f x => by
    rw [List.range_succ, List.map_append, List.map_singleton, if_pos rfl]
    congr 1
    refine List.map_congr_left fun j hj => ?_
    rw [List.mem_range] at hj
    rw [if_neg (by omega)]
  have hq : ∀ j, j < n → q j ≠ qn ∧ q j ≠ mdn := fun j hj => by
    obtain ⟨_, kv, a, _⟩ := R.ok j hj
    exact ⟨ne_of_none a nq, ne_of_none a nm⟩
  have hmd : ∀ j, j < n → md j ≠ qn ∧ md j ≠ mdn := fun j hj => by
    obtain ⟨kv, a, _⟩ := R.mo j hj
    exact ⟨ne_of_none a nq, ne_of_none a nm⟩
  refine ⟨by rw [e1]; exact h1, by rw [e1]; exact h2, fun j hj => ?_, fun j hj => ?_, fun i j hi hj e => ?_, fun i j hi hj e => ?_, fun i j hi hj => ?_⟩
  · by_cases e : j = n
    · simp only [if_pos e]
      exact hp
    · simp only [if_neg e]
      obtain ⟨⟨dx, a⟩, kv, b, _⟩ := R.ok j (by omega)
      exact (R.ok j (by omega)).kp k t (nin2 (ne_of a R.l1 (by intro z; cases z)) (ne_of a R.l2 (by intro z; cases z))) (nin2 (ne_of b R.l1 (by intro z; cases z)) (ne_of b R.l2 (by intro z; cases z)))
  · by_cases e : j = n
    · simp only [if_pos e]
      exact hm
    · simp only [if_neg e]
      obtain ⟨kv, b, _⟩ := R.mo j (by omega)
      exact (R.mo j (by omega)).kp k t (nin2 (ne_of b R.l1 (by intro z; cases z)) (ne_of b R.l2 (by intro z; cases z)))
  · by_cases ei : i = n
    · have ej : ¬ j = n := by omega
      simp only [if_pos ei, if_neg ej]
      exact (hq j (by omega)).1.symm
    · by_cases ej : j = n
      · simp only [if_neg ei, if_pos ej]
        exact (hq i (by omega)).1
      · simp only [if_neg ei, if_neg ej]
        exact R.dq i j (by omega) (by omega) e
  · by_cases ei : i = n
    · have ej : ¬ j = n := by omega
      simp only [if_pos ei, if_neg ej]
      exact (hmd j (by omega)).2.symm
    · by_cases ej : j = n
      · simp only [if_neg ei, if_pos ej]
        exact (hmd i (by omega)).2
      · simp only [if_neg ei, if_neg ej]
        exact R.dm i j (by omega) (by omega) e
  · by_cases ei : i = n
    · by_cases ej : j = n
      · simp only [if_pos ei, if_pos ej]
        exact nqm
      · simp only [if_pos ei, if_neg ej]
        exact (hmd j (by omega)).1.symm
    · by_cases ej : j = n
      · simp only [if_neg ei, if_pos ej]
        exact (hq i (by omega)).2
      · simp only [if_neg ei, if_neg ej]
        exact R.dx i j (by omega) (by omega)
end
section
variable {α : Type} {enc : α → PyData} {K : PySem.W.Frag} {C : Addr} {H H' : Hp}
theorem HoldAt.lst {d p q : Addr} {zs : List V} {m : List (Int × α)} (h : HoldAt enc K C H p q m) (k : Kp [d] H H') (t : TK H H') (hd : H d = some (.lst zs)) : HoldAt enc K C H' p q m := by
  obtain ⟨⟨dx, a⟩, kv, b, _⟩ := id h
  exact h.kp k t (nin1 (ne_of a hd (by intro z; cases z))) (nin1 (ne_of b hd (by intro z; cases z)))
theorem HoldAt.same {p q : Addr} {m : List (Int × α)} (h : HoldAt enc K C H p q m) (s : Same H H') : HoldAt enc K C H' p q m :=
  h.kp (M := []) (Kp.of s) (TK.of s) (by simp) (by simp)
theorem DictAt.lst {d q : Addr} {zs : List V} {m : List (Int × α)} (h : DictAt enc K H q m) (k : Kp [d] H H') (t : TK H H') (hd : H d = some (.lst zs)) : DictAt enc K H' q m := by
  obtain ⟨kv, b, _⟩ := id h
  exact h.kp k t (nin1 (ne_of b hd (by intro z; cases z)))
theorem DictAt.same {q : Addr} {m : List (Int × α)} (h : DictAt enc K H q m) (s : Same H H') : DictAt enc K H' q m :=
  h.kp (M := []) (Kp.of s) (TK.of s) (by simp)
theorem Deck.same {d f : Addr} {n : Int} (h : Deck H d f n) (s : Same H H') : Deck H' d f n := h.kp (M := []) (Kp.of s) (by simp) (by simp)
/-- a dict beside was written -/
theorem Deck.dict {d f q : Addr} {n : Int} {m : List (Int × α)} (h : Deck H d f n) (k : Kp [q] H H') (hq : DictAt enc K H q m) : Deck H' d f n := by
  obtain ⟨kv, b, _⟩ := hq
  obtain ⟨zs, h1⟩ := h.lst
  obtain ⟨zf, h2⟩ := h.lst2
  exact h.kp k (nin1 (ne_of h1 b (by intro z; cases z))) (nin1 (ne_of h2 b (by intro z; cases z)))
variable {La Lb : Addr} {n : Nat} {p q md : Nat → Addr} {m m' : Nat → List (Int × α)}
/-- the k-th object's dict, the k-th dict and a list beside are others -/
theorem Rack.set2 {d : Addr} {zs : List V} {i : Nat} {mn mn' : List (Int × α)} (R : Rack enc K C H La Lb n p q md m m') (hi : i < n) (k : Kp [d, q i, md i] H H') (t : TK H H') (hd : H d = some (.lst zs)) (n1 : d ≠ La) (n2 : d ≠ Lb)
    (h : HoldAt enc K C H' (p i) (q i) mn) (h' : DictAt enc K H' (md i) mn') :
    Rack enc K C H' La Lb n p q md (fun j => if j = i then mn else m j) (fun j => if j = i then mn' else m' j) := by
  obtain ⟨_, kvq, hq, _⟩ := R.ok i hi
  obtain ⟨kvm, hm, _⟩ := R.mo i hi
  have nin : ∀ {x : Addr}, x ≠ d → x ≠ q i → x ≠ md i → x ∉ [d, q i, md i] := fun a b c z => by
    rcases List.mem_cons.mp z with z | z
    · exact a z
    · exact nin2 b c z
  refine ⟨k _ _ (nin n1.symm (ne_of R.l1 hq (by intro z; cases z)) (ne_of R.l1 hm (by intro z; cases z))) R.l1, k _ _ (nin n2.symm (ne_of R.l2 hq (by intro z; cases z)) (ne_of R.l2 hm (by intro z; cases z))) R.l2, fun j hj => ?_, fun j hj => ?_, R.dq, R.dm, R.dx⟩
  · by_cases e : j = i
    · subst e
      simp only [if_true]
      exact h
    · simp only [if_neg e]
      obtain ⟨⟨dx, a⟩, kv, b, _⟩ := R.ok j hj
      exact (R.ok j hj).kp k t (nin (ne_of a hd (by intro z; cases z)) (ne_of a hq (by intro z; cases z)) (ne_of a hm (by intro z; cases z))) (nin (ne_of b hd (by intro z; cases z)) (R.dq j i hj hi e) (R.dx j i hj hi))
  · by_cases e : j = i
    · subst e
      simp only [if_true]
      exact h'
    · simp only [if_neg e]
      obtain ⟨kv, b, _⟩ := R.mo j hj
      exact (R.mo j hj).kp k t (nin (ne_of b hd (by intro z; cases z)) (fun z => R.dx i j hi hj z.symm) (R.dm j i hj hi e))
end
theorem at3 {x y z : V} {r : Int} (h0 : 0 ≤ r) (h1 : r < 3) : ∃ v, atI [x, y, z] r = some v ∧ (v = x ∨ v = y ∨ v = z) := by
  have h : r = 0 ∨ r = 1 ∨ r = 2 := by omega
  rcases h with rfl | rfl | rfl
  · exact ⟨x, rfl, .inl rfl⟩
  · exact ⟨y, rfl, .inr (.inl rfl)⟩
  · exact ⟨z, rfl, .inr (.inr rfl)⟩
theorem at5 {a b c d e : Int} {r : Int} (h0 : 0 ≤ r) (h1 : r < 5) : ∃ v : Int, atI [V.int a, .int b, .int c, .int d, .int e] r = some (.int v) := by
  have h : r = 0 ∨ r = 1 ∨ r = 2 ∨ r = 3 ∨ r = 4 := by omega
  rcases h with rfl | rfl | rfl | rfl | rfl <;> exact ⟨_, rfl⟩
theorem atR {n : Nat} {f : Nat → Addr} {r : Int} (h0 : 0 ≤ r) (h1 : r < n) : atI ((List.range n).map fun j => V.ref (f j)) r = some (.ref (f r.toNat)) := by
  have e : ((r.toNat : Nat) : Int) = r := by omega
  have := atI_nat (xs := (List.range n).map fun j => V.ref (f j)) (j := r.toNat) (v := .ref (f r.toNat)) (by
    rw [List.getElem?_map, List.getElem?_range (by omega)]
    rfl)
  rw [e] at this
  exact this
def spLaw (K : PySem.W.Frag) : Sp := fun vs H Q _ => ∃ (a : Addr) (ns : List Int), vs = [.ref a] ∧ SqL K H a (ns.map V.int) ∧ ns.length ≤ 63 ∧ ∀ H', Q (.bl true) H'
/-! ### lists of data -/
def LstAt (K : PySem.W.Frag) (H : Hp) (a : Addr) (ds : List PyData) : Prop := ∃ xs, H a = some (.lst xs) ∧ RpL K H ds xs
section
variable {K : PySem.W.Frag} {H H' : Hp}
theorem LstAt.kp {M : List Addr} {a : Addr} {ds : List PyData} (h : LstAt K H a ds) (k : Kp M H H') (t : TK H H') (n : a ∉ M) : LstAt K H' a ds := by
  obtain ⟨xs, h1, h2⟩ := h
  exact ⟨xs, k _ _ n h1, RpL.tk t _ _ h2⟩
theorem LstAt.same {a : Addr} {ds : List PyData} (h : LstAt K H a ds) (s : Same H H') : LstAt K H' a ds := h.kp (M := []) (Kp.of s) (TK.of s) (by simp)
theorem LstAt.lst {a : Addr} {ds : List PyData} (h : LstAt K H a ds) : ∃ zs, H a = some (.lst zs) := ⟨_, h.choose_spec.1⟩
theorem RpL.app : ∀ {ds es : List PyData} {xs ys : List V}, RpL K H ds xs → RpL K H es ys → RpL K H (ds ++ es) (xs ++ ys)
  | [], es, xs, ys, h1, h2 => by
    unfold RpL at h1
    subst h1
    exact h2
  | d :: ds, es, xs, ys, h1, h2 => by
    unfold RpL at h1
    obtain ⟨v, r, rfl, a, b⟩ := h1
    show RpL K H (d :: (ds ++ es)) (v :: (r ++ ys))
    exact RpL.cons a (RpL.app b h2)
theorem RpL.take : ∀ (k : Nat) {ds : List PyData} {xs : List V}, RpL K H ds xs → RpL K H (ds.take k) (xs.take k)
  | 0, ds, xs, _ => by
    rw [List.take_zero, List.take_zero]
    exact RpL.nil
  | k + 1, [], xs, h => by
    unfold RpL at h
    subst h
    exact RpL.nil
  | k + 1, d :: ds, xs, h => by
    unfold RpL at h
    obtain ⟨v, r, rfl, a, b⟩ := h
    exact RpL.cons a (RpL.take k b)
theorem RpL.drop : ∀ (k : Nat) {ds : List PyData} {xs : List V}, RpL K H ds xs → RpL K H (ds.drop k) (xs.drop k)
  | 0, ds, xs, h => h
  | k + 1, [], xs, h => by
    unfold RpL at h
    subst h
    exact RpL.nil
  | k + 1, d :: ds, xs, h => by
    unfold RpL at h
    obtain ⟨v, r, rfl, a, b⟩ := h
    exact RpL.drop k b
theorem inV_int {k : Int} : ∀ ns : List Int, inV (.int k) (ns.map V.int) = decide (k ∈ ns)
  | [] => by simp [inV]
  | n :: ns => by
    have h := inV_int (k := k) ns
    unfold inV at h ⊢
    rw [List.map_cons, List.any_cons, h]
    show ((n == k) || _) = _
    by_cases e : n = k
    · simp [e]
    · have e2 : ¬ k = n := fun z => e z.symm
      simp [e, e2]
theorem flat_ints (ns : List Int) : (ns.map V.int).all flatV = true := by
  rw [List.all_eq_true]
  intro x hx
  obtain ⟨n, _, rfl⟩ := List.mem_map.mp hx
  rfl
theorem set_wipe {σ : L2.St} {i : Nat} {x : Option V} : (wipe σ [i]).set i x = σ.set i x := by
  show (σ.set i none).set i x = _
  rw [List.set_set]
theorem wipe_set {σ : L2.St} {i : Nat} {x : Option V} : wipe (σ.set i x) [i] = wipe σ [i] := by
  show (σ.set i x).set i none = σ.set i none
  rw [List.set_set]
/-- [x for x in xs if test] -/
theorem filt_lc {β : Type} {enc : β → PyData} {tt : TT} {i : Nat} {σ : L2.St} {H2 : Hp} {S D : Addr} {xs : List V} {L : List β} {Qd : Hp → Prop} (p : β → Bool) (hS : H2 S = some (.lst xs)) (hr : RpL K H2 (L.map enc) xs) (hD : H2 D = none) (hσ : i < σ.length) (hl : L.length ≤ 1000000)
    (htt : ∀ (b : β) (x : V) (H' : Hp) (Q : Bool → Hp → Prop), b ∈ L → Rp K H' (enc b) x → Same H2 H' → Q (p b) H' → tt (σ.set i (some x)) H' Q)
    (hd : ∀ (H' : Hp) (ys : List V), Same H2 H' → H' D = some (.lst ys) → RpL K H' ((L.filter p).map enc) ys → Qd H') :
    ∃ W : Nat → Nat → Hp → Prop, (∃ m, W 0 m (upd H2 D (.lst []))) ∧ ∀ j m H, W j m H →
      ((Itl K S).stop j H ∧ Qd H) ∨ ((Itl K S).go j H ∧ ∃ Nx : Hp → Prop, (∀ H', Nx H' → ∃ m', m' < m ∧ W (j + 1) m' H') ∧ ∀ x H', (Itl K S).yld j H x H' → gName i x (wipe σ [i]) H' fun σ2 H2 => wipe σ2 [i] = wipe σ [i] ∧ tt σ2 H2 fun b H3 =>
        if b = true then tVar i σ2 H3 fun y H4 => ∃ acc, H4 D = some (.lst acc) ∧ acc.length < sizeLine ∧ Nx (upd H4 D (.lst (acc ++ [y]))) else Nx H3) := by
  refine lc_list (K := K) (a := S) (xs := xs) (fun j H => ∃ ys, Same H2 H ∧ H D = some (.lst ys) ∧ RpL K H (((L.take j).filter p).map enc) ys)
    ⟨[], (L2.Same.refl H2).new hD, upd_same, RpL.nil⟩ (fun j H _ ⟨ys, s, _, _⟩ => SqL.of (s _ _ hS)) ?_ ?_
  · rintro j x H3 hx ⟨ys, s3, hD3, hr3⟩
    have hlen := RpL.len _ _ hr
    have hj : j < L.length := by
      have q := (List.getElem?_eq_some_iff.mp hx).1
      rw [hlen, List.length_map] at q
      exact q
    obtain ⟨v, ev, rv⟩ := RpL.get _ _ hr j (enc L[j]) (by rw [List.getElem?_map, List.getElem?_eq_getElem hj]; rfl)
    have ex : v = x := Option.some.inj (ev.symm.trans hx)
    rw [ex] at rv
    have rx := Rp.tk (TK.of s3) _ _ rv
    show wipe ((wipe σ [i]).set i (some x)) [i] = wipe σ [i] ∧ _
    rw [set_wipe]
    refine ⟨wipe_set, ?_⟩
    have hly : ys.length < sizeLine := by
      have := RpL.len _ _ hr3
      rw [List.length_map] at this
      have h2 := List.length_filter_le p (L.take j)
      rw [List.length_take] at h2
      exact Nat.lt_of_le_of_lt (show ys.length ≤ 1000000 by omega) (by decide)
    refine htt L[j] x H3 _ (List.getElem_mem hj) rx s3 ?_
    have et : L.take (j + 1) = L.take j ++ [L[j]] := List.take_succ_eq_append_getElem hj
    cases e : p L[j] with
    | false =>
      refine iteF ⟨ys, s3, hD3, ?_⟩
      rw [et, List.filter_append, List.filter_cons, e]
      simpa using hr3
    | true =>
      refine iteT ⟨x, ?_, ys, hD3, hly, ys ++ [x], s3.wrn hD, upd_same, ?_⟩
      · rw [List.getElem?_set_self hσ]
      · have tE : TK H3 (upd H3 D (.lst (ys ++ [x]))) := (TK.refl _).wr hD3 rfl
        rw [et, List.filter_append, List.filter_cons, e, List.map_append]
        exact RpL.app (RpL.tk tE _ _ hr3) (RpL.cons (Rp.tk tE _ _ rx) RpL.nil)
  · rintro H3 ⟨ys, s3, hD3, hr3⟩
    have hlen := RpL.len _ _ hr
    rw [hlen, List.length_map, List.take_length] at hr3
    exact hd H3 ys s3 hD3 hr3
/-- [number of x for x in xs] -/
theorem mapI_lc {β : Type} {enc : β → PyData} {te : TE} {i : Nat} {σ : L2.St} {H2 : Hp} {S D : Addr} {xs : List V} {L : List β} {Qd : Hp → Prop} (f : β → Int) (hS : H2 S = some (.lst xs)) (hr : RpL K H2 (L.map enc) xs) (hD : H2 D = none) (hl : L.length ≤ 1000000)
    (hte : ∀ (b : β) (x : V) (H' : Hp) (Q : VK), b ∈ L → Rp K H' (enc b) x → Same H2 H' → Q (.int (f b)) H' → te (σ.set i (some x)) H' Q)
    (hd : ∀ (H' : Hp), Same H2 H' → H' D = some (.lst ((L.map f).map V.int)) → Qd H') :
    ∃ W : Nat → Nat → Hp → Prop, (∃ m, W 0 m (upd H2 D (.lst []))) ∧ ∀ j m H, W j m H →
      ((Itl K S).stop j H ∧ Qd H) ∨ ((Itl K S).go j H ∧ ∃ Nx : Hp → Prop, (∀ H', Nx H' → ∃ m', m' < m ∧ W (j + 1) m' H') ∧ ∀ x H', (Itl K S).yld j H x H' → gName i x (wipe σ [i]) H' fun σ2 H2 => wipe σ2 [i] = wipe σ [i] ∧ tYes σ2 H2 fun b H3 =>
        if b = true then te σ2 H3 fun y H4 => ∃ acc, H4 D = some (.lst acc) ∧ acc.length < sizeLine ∧ Nx (upd H4 D (.lst (acc ++ [y]))) else Nx H3) := by
  refine lc_list (K := K) (a := S) (xs := xs) (fun j H => Same H2 H ∧ H D = some (.lst (((L.take j).map f).map V.int)))
    ⟨(L2.Same.refl H2).new hD, upd_same⟩ (fun j H _ ⟨s, _⟩ => SqL.of (s _ _ hS)) ?_ ?_
  · rintro j x H3 hx ⟨s3, hD3⟩
    have hlen := RpL.len _ _ hr
    have hj : j < L.length := by
      have q := (List.getElem?_eq_some_iff.mp hx).1
      rw [hlen, List.length_map] at q
      exact q
    obtain ⟨v, ev, rv⟩ := RpL.get _ _ hr j (enc L[j]) (by rw [List.getElem?_map, List.getElem?_eq_getElem hj]; rfl)
    have ex : v = x := Option.some.inj (ev.symm.trans hx)
    rw [ex] at rv
    have rx := Rp.tk (TK.of s3) _ _ rv
    show wipe ((wipe σ [i]).set i (some x)) [i] = wipe σ [i] ∧ _
    rw [set_wipe]
    refine ⟨wipe_set, tYes_t (iteT ?_)⟩
    refine hte L[j] x H3 _ (List.getElem_mem hj) rx s3 ⟨_, hD3, ?_, s3.wrn hD, ?_⟩
    · rw [List.length_map, List.length_map, List.length_take]
      exact Nat.lt_of_le_of_lt (show min j L.length ≤ 1000000 by omega) (by decide)
    · rw [upd_same, List.take_succ_eq_append_getElem hj, List.map_append, List.map_append]
      rfl
  · rintro H3 ⟨s3, hD3⟩
    have hlen := RpL.len _ _ hr
    rw [hlen, List.length_map, List.take_length] at hD3
    exact hd H3 s3 hD3
end
section
variable {K : PySem.W.Frag} {H H' : Hp}
/-- [e for x in xs], each e data -/
theorem mapD_it {J : It} {G : Hp → Prop} {β : Type} {enc : β → PyData} {te : TE} {i : Nat} {σ : L2.St} {H2 : Hp} {D : Addr} {xs : List V} {L : List β} {Qd : Hp → Prop} (w : Walk J xs.length G (YAt xs)) (hG : ∀ H', Same H2 H' → G H') (g : β → PyData) (hr : RpL K H2 (L.map enc) xs) (hD : H2 D = none) (hl : L.length ≤ 1000000)
    (hte : ∀ (b : β) (x : V) (H' : Hp) (Q : VK), b ∈ L → Rp K H' (enc b) x → Same H2 H' → (∀ (H'' : Hp) (y : V), Same H' H'' → Rp K H'' (g b) y → Q y H'') → te (σ.set i (some x)) H' Q)
    (hd : ∀ (H' : Hp) (ys : List V), Same H2 H' → H' D = some (.lst ys) → RpL K H' (L.map g) ys → Qd H') :
    ∃ W : Nat → Nat → Hp → Prop, (∃ m, W 0 m (upd H2 D (.lst []))) ∧ ∀ j m H, W j m H →
      (J.stop j H ∧ Qd H) ∨ (J.go j H ∧ ∃ Nx : Hp → Prop, (∀ H', Nx H' → ∃ m', m' < m ∧ W (j + 1) m' H') ∧ ∀ x H', J.yld j H x H' → gName i x (wipe σ [i]) H' fun σ2 H2 => wipe σ2 [i] = wipe σ [i] ∧ tYes σ2 H2 fun b H3 =>
        if b = true then te σ2 H3 fun y H4 => ∃ acc, H4 D = some (.lst acc) ∧ acc.length < sizeLine ∧ Nx (upd H4 D (.lst (acc ++ [y]))) else Nx H3) := by
  refine lc_it w (fun j H => ∃ ys, Same H2 H ∧ H D = some (.lst ys) ∧ RpL K H ((L.take j).map g) ys)
    ⟨[], (L2.Same.refl H2).new hD, upd_same, RpL.nil⟩ (fun j H _ ⟨ys, s, _⟩ => hG H s) ?_ ?_
  · rintro j x H3 H3' hj ⟨ys, s3, hD3, hr3⟩ ⟨rfl, hx⟩
    have hlen := RpL.len _ _ hr
    rw [List.length_map] at hlen
    have hj : j < L.length := by omega
    obtain ⟨v, ev, rv⟩ := RpL.get _ _ hr j (enc L[j]) (by rw [List.getElem?_map, List.getElem?_eq_getElem hj]; rfl)
    have ex : v = x := Option.some.inj (ev.symm.trans hx)
    rw [ex] at rv
    have rx := Rp.tk (TK.of s3) _ _ rv
    show wipe ((wipe σ [i]).set i (some x)) [i] = wipe σ [i] ∧ _
    rw [set_wipe]
    refine ⟨wipe_set, tYes_t (iteT ?_)⟩
    refine hte L[j] x H3' _ (List.getElem_mem hj) rx s3 fun H4 y s4 ry => ⟨ys, s4 _ _ hD3, ?_, ys ++ [y], (s3.trans s4).wrn hD, upd_same, ?_⟩
    · have := RpL.len _ _ hr3
      rw [List.length_map, List.length_take] at this
      exact Nat.lt_of_le_of_lt (show ys.length ≤ 1000000 by omega) (by decide)
    · have tE : TK H4 (upd H4 D (.lst (ys ++ [y]))) := (TK.refl _).wr (s4 _ _ hD3) rfl
      rw [List.take_succ_eq_append_getElem hj, List.map_append]
      exact RpL.app (RpL.tk ((TK.of s4).trans tE) _ _ hr3) (RpL.cons (Rp.tk tE _ _ ry) RpL.nil)
  · rintro H3 ⟨ys, s3, hD3, hr3⟩
    have hlen := RpL.len _ _ hr
    rw [hlen, List.length_map, List.take_length] at hr3
    exact hd H3 ys s3 hD3 hr3
theorem RpL.ints : ∀ {ns : List Int} {ys : List V}, RpL K H (ns.map PyData.int) ys → ys = ns.map V.int
  | [], ys, h => by
    unfold List.map RpL at h
    exact h
  | n :: ns, ys, h => by
    rw [List.map_cons] at h
    unfold RpL at h
    obtain ⟨v, r, rfl, h1, h2⟩ := h
    unfold Rp at h1
    rw [RpL.ints h2, h1]
    rfl
theorem dp_ints : ∀ (ns : List Int), DpAll K H (ns.map V.int) (ns.map PyData.int)
  | [] => .nil
  | n :: ns => .cons (.int n) (dp_ints ns)
theorem LstAt.dict {α : Type} {enc : α → PyData} {a q : Addr} {ds : List PyData} {m : List (Int × α)} (h : LstAt K H a ds) (k : Kp [q] H H') (t : TK H H') (hq : DictAt enc K H q m) : LstAt K H' a ds := by
  obtain ⟨xs, h1, _⟩ := id h
  obtain ⟨kv, h2, _⟩ := hq
  exact h.kp k t (nin1 (ne_of h1 h2 (by intro z; cases z)))
theorem dep_ints (ns : List Int) : dep (.tuple (ns.map PyData.int)) ≤ 1 := by
  unfold dep
  have := deps_map_le (c := 0) (f := PyData.int) ns fun x _ => Nat.le_refl _
  omega
end
section
variable {K : PySem.W.Frag} {H H' : Hp}
/-- [e for i in range(..)], each e data -/
theorem mapR_it {J : It} {n : Nat} {fv : Nat → V} {te : TE} {i : Nat} {σ : L2.St} {H2 : Hp} {D : Addr} {Qd : Hp → Prop} (w : Walk J n (fun _ => True) (YFn fv)) (g : Nat → PyData) (hD : H2 D = none) (hl : n ≤ 1000000)
    (hte : ∀ (j : Nat) (H' : Hp) (Q : VK), j < n → Same H2 H' → (∀ (H'' : Hp) (y : V), Same H' H'' → Rp K H'' (g j) y → Q y H'') → te (σ.set i (some (fv j))) H' Q)
    (hd : ∀ (H' : Hp) (ys : List V), Same H2 H' → H' D = some (.lst ys) → RpL K H' ((List.range n).map g) ys → Qd H') :
    ∃ W : Nat → Nat → Hp → Prop, (∃ m, W 0 m (upd H2 D (.lst []))) ∧ ∀ j m H, W j m H →
      (J.stop j H ∧ Qd H) ∨ (J.go j H ∧ ∃ Nx : Hp → Prop, (∀ H', Nx H' → ∃ m', m' < m ∧ W (j + 1) m' H') ∧ ∀ x H', J.yld j H x H' → gName i x (wipe σ [i]) H' fun σ2 H2 => wipe σ2 [i] = wipe σ [i] ∧ tYes σ2 H2 fun b H3 =>
        if b = true then te σ2 H3 fun y H4 => ∃ acc, H4 D = some (.lst acc) ∧ acc.length < sizeLine ∧ Nx (upd H4 D (.lst (acc ++ [y]))) else Nx H3) := by
  refine lc_it w (fun j H => ∃ ys, Same H2 H ∧ H D = some (.lst ys) ∧ RpL K H ((List.range j).map g) ys)
    ⟨[], (L2.Same.refl H2).new hD, upd_same, RpL.nil⟩ (fun j H _ _ => trivial) ?_ ?_
  · rintro j x H3 H3' hj ⟨ys, s3, hD3, hr3⟩ ⟨rfl, rfl⟩
    show wipe ((wipe σ [i]).set i (some (fv j))) [i] = wipe σ [i] ∧ _
    rw [set_wipe]
    refine ⟨wipe_set, tYes_t (iteT ?_)⟩
    refine hte j H3' _ hj s3 fun H4 y s4 ry => ⟨ys, s4 _ _ hD3, ?_, ys ++ [y], (s3.trans s4).wrn hD, upd_same, ?_⟩
    · have := RpL.len _ _ hr3
      rw [List.length_map, List.length_range] at this
      exact Nat.lt_of_le_of_lt (show ys.length ≤ 1000000 by omega) (by decide)
    · have tE : TK H4 (upd H4 D (.lst (ys ++ [y]))) := (TK.refl _).wr (s4 _ _ hD3) rfl
      rw [List.range_succ, List.map_append]
      exact RpL.app (RpL.tk ((TK.of s4).trans tE) _ _ hr3) (RpL.cons (Rp.tk tE _ _ ry) RpL.nil)
  · rintro H3 ⟨ys, s3, hD3, hr3⟩
    exact hd H3 ys s3 hD3 hr3
end
end Wn

namespace Wn
open PySem L2
/-- a new tuple is appended to a list of data -/
theorem push_tup {K : PySem.W.Frag} {G : Hp} {t fa : Addr} {zs vs : List V} {U ds : List PyData} (hG : G fa = some (.lst zs)) (rG : RpL K G U zs) (nt : G t = none) (rv : RpL K G ds vs) :
    upd G t (.tup vs) fa = some (.lst zs) ∧ LstAt K (upd (upd G t (.tup vs)) fa (.lst (zs ++ [.ref t]))) fa (U ++ [.tuple ds]) ∧ TK G (upd (upd G t (.tup vs)) fa (.lst (zs ++ [.ref t]))) ∧ Kp [fa] G (upd (upd G t (.tup vs)) fa (.lst (zs ++ [.ref t]))) := by
  have s6 : Same G (upd G t (.tup vs)) := (L2.Same.refl _).new nt
  have rt : Rp K (upd G t (.tup vs)) (.tuple ds) (.ref t) := Rp.tup upd_same (RpL.tk (TK.of s6) _ _ rv)
  have tE : TK (upd G t (.tup vs)) (upd (upd G t (.tup vs)) fa (.lst (zs ++ [.ref t]))) := (TK.refl _).wr (s6 _ _ hG) rfl
  exact ⟨s6 _ _ hG, ⟨_, upd_same, RpL.tk tE _ _ (RpL.app (RpL.tk (TK.of s6) _ _ rG) (RpL.cons rt RpL.nil))⟩, (TK.of s6).trans tE, (Kp.of s6).wr (List.mem_singleton.mpr rfl)⟩
/-- a thing that stands is appended -/
theorem push_old {K : PySem.W.Frag} {G : Hp} {fa : Addr} {zs : List V} {v : V} {U : List PyData} {d : PyData} (hG : G fa = some (.lst zs)) (rG : RpL K G U zs) (rv : Rp K G d v) :
    LstAt K (upd G fa (.lst (zs ++ [v]))) fa (U ++ [d]) ∧ TK G (upd G fa (.lst (zs ++ [v]))) ∧ Kp [fa] G (upd G fa (.lst (zs ++ [v]))) := by
  have tE : TK G (upd G fa (.lst (zs ++ [v]))) := (TK.refl _).wr hG rfl
  exact ⟨⟨_, upd_same, RpL.tk tE _ _ (RpL.app rG (RpL.cons rv RpL.nil))⟩, tE, (Kp.refl _ _).wr (List.mem_singleton.mpr rfl)⟩
/-- flat data: the very values -/
theorem RpL.flat {β : Type} {K : PySem.W.Frag} {H : Hp} {f : β → PyData} {g : β → V} (h : ∀ b v, Rp K H (f b) v → v = g b) : ∀ {L : List β} {ys : List V}, RpL K H (L.map f) ys → ys = L.map g
  | [], ys, r => by
    rw [List.map_nil] at r
    unfold RpL at r
    exact r
  | b :: L, ys, r => by
    rw [List.map_cons] at r
    unfold RpL at r
    obtain ⟨v, t, rfl, h1, h2⟩ := r
    rw [h b v h1, RpL.flat h h2]
    rfl
theorem Rp.bool_eq {K : PySem.W.Frag} {H : Hp} {b : Bool} {v : V} (r : Rp K H (.bool b) v) : v = .bl b := by
  unfold Rp at r
  exact r
theorem Rp.str_eq {K : PySem.W.Frag} {H : Hp} {z : Str} {v : V} (r : Rp K H (.str z) v) : v = .str z := by
  unfold Rp at r
  exact r
theorem Rp.int_eq {K : PySem.W.Frag} {H : Hp} {i : Int} {v : V} (r : Rp K H (.int i) v) : v = .int i := by
  unfold Rp at r
  exact r
theorem Rp.bool {K : PySem.W.Frag} {H : Hp} {b : Bool} : Rp K H (.bool b) (.bl b) := by
  unfold Rp
  rfl
mutual
theorem Rp.dp {K : PySem.W.Frag} {H : Hp} : ∀ (d : PyData) (v : V), Rp K H d v → Dp K H v d
  | .none, _, h => by
    unfold Rp at h
    subst h
    exact .non
  | .bool b, _, h => by
    unfold Rp at h
    subst h
    exact .bl b
  | .int i, _, h => by
    unfold Rp at h
    subst h
    exact .int i
  | .str s, _, h => by
    unfold Rp at h
    subst h
    exact .str s
  | .tuple ds, v, h => by
    unfold Rp at h
    obtain ⟨a, xs, rfl, hs, hl⟩ := h
    exact .tup hs (RpL.dp ds xs hl)
  | .list _, _, h => by
    unfold Rp at h
    exact h.elim
  | .dict _, _, h => by
    unfold Rp at h
    exact h.elim
theorem RpL.dp {K : PySem.W.Frag} {H : Hp} : ∀ (ds : List PyData) (xs : List V), RpL K H ds xs → DpAll K H xs ds
  | [], xs, h => by
    unfold RpL at h
    subst h
    exact .nil
  | d :: ds, xs, h => by
    unfold RpL at h
    obtain ⟨v, r, rfl, h1, h2⟩ := h
    exact .cons (Rp.dp d v h1) (RpL.dp ds r h2)
end
end Wn

namespace Wn
open PySem L2
/-! ### backward steps over heaps: used by the macros of tools/auto.txt -/
section
variable {K : PySem.W.Frag} {H H' G : Hp} {a b : Addr} {o u : HO} {M : List Addr}
theorem g_same (s : Same H H') (h : H a = some o) : H' a = some o := s _ _ h
theorem g_kp (k : Kp M H H') (n : a ∉ M) (h : H a = some o) : H' a = some o := k _ _ n h
theorem g_tk {xs : List V} (t : TK H H') (h : H a = some (.tup xs)) : H' a = some (.tup xs) := t.1 _ _ h
theorem g_upd (n : b ≠ a) (h : H b = some u) : upd H a o b = some u := (upd_ne n).trans h
theorem n_same (s : Same H H') (h : H' a = none) : H a = none := by
  cases e : H a with
  | none => rfl
  | some o =>
    rw [s _ _ e] at h
    cases h
theorem n_kp (k : Kp M H H') (n : a ∉ M) (h : H' a = none) : H a = none := by
  cases e : H a with
  | none => rfl
  | some o =>
    rw [k _ _ n e] at h
    cases h
theorem n_upd (h : upd H a o b = none) : H b = none := by
  unfold upd at h
  split at h
  · cases h
  · exact h
theorem ne_fr (h : H b = none) (h' : H a = some o) : a ≠ b := ne_of_none h' h
theorem ne_fr' (h : H a = none) (h' : H b = some o) : a ≠ b := (ne_of_none h' h).symm
theorem ne_kd (h : H a = some o) (h' : H b = some u) (d : o ≠ u) : a ≠ b := ne_of h h' d
theorem ne_upd (h : upd H a o b = none) : b ≠ a := by
  intro e
  subst e
  rw [upd_same] at h
  cases h
theorem t_tk (b : TK G H') (a : TK H G) : TK H H' := a.trans b
theorem t_same (b : Same G H') (a : TK H G) : TK H H' := a.trans (TK.of b)
theorem t_new (hp : G a = none) (t : TK H G) : TK H (upd G a o) := t.new hp
theorem t_wr (hp : G a = some u) (hu : Wrt u = true) (t : TK H G) : TK H (upd G a o) := t.wr hp hu
theorem s_same (b : Same G H') (a : Same H G) : Same H H' := a.trans b
theorem s_new (hp : G a = none) (s : Same H G) : Same H (upd G a o) := s.new hp
theorem s_wrn (hp : H a = none) (s : Same H G) : Same H (upd G a o) := s.wrn hp
theorem k_kp (b : Kp M G H') (a : Kp M H G) : Kp M H H' := a.trans b
theorem k_kpm {M' : List Addr} (b : Kp M' G H') (h : ∀ x ∈ M', x ∈ M ∨ H x = none) (a : Kp M H G) : Kp M H H' := fun c o hc e => b c o (fun z => (h c z).elim hc fun n => by rw [n] at e; cases e) (a c o hc e)
theorem k_same (b : Same G H') (a : Kp M H G) : Kp M H H' := a.trans (Kp.of b)
theorem k_new (hp : G a = none) (s : Kp M H G) : Kp M H (upd G a o) := s.new hp
theorem k_wr (hp : a ∈ M) (s : Kp M H G) : Kp M H (upd G a o) := s.wr hp
theorem k_wrn (hp : H a = none) (s : Kp M H G) : Kp M H (upd G a o) := s.wrn hp
theorem am0 : ∀ x ∈ ([] : List Addr), x ∈ M ∨ H x = none := fun x h => by cases h
theorem am1 {N : List Addr} (h : a ∈ M ∨ H a = none) (r : ∀ x ∈ N, x ∈ M ∨ H x = none) : ∀ x ∈ a :: N, x ∈ M ∨ H x = none := fun x z => by
  rcases List.mem_cons.mp z with rfl | z
  · exact h
  · exact r x z
theorem Rp.tk' {d : PyData} {v : V} (h : Rp K H d v) (e : TK H H') : Rp K H' d v := Rp.tk e d v h
theorem RpL.tk' {ds : List PyData} {xs : List V} (h : RpL K H ds xs) (e : TK H H') : RpL K H' ds xs := RpL.tk e ds xs h
theorem nin0 : a ∉ ([] : List Addr) := fun z => by cases z
theorem ninc {N : List Addr} (h : a ≠ b) (r : a ∉ N) : a ∉ b :: N := fun z => by
  rcases List.mem_cons.mp z with z | z
  · exact h z
  · exact r z
/-! ### tests -/
theorem iteP {p : Prop} [Decidable p] {A B : Prop} (h1 : p → A) (h2 : ¬ p → B) : if decide p = true then A else B := by
  by_cases h : p
  · rw [if_pos (decide_eq_true h)]
    exact h1 h
  · rw [if_neg (by rw [decide_eq_false h]; exact Bool.false_ne_true)]
    exact h2 h
theorem iteNP {p : Prop} [Decidable p] {A B : Prop} (h1 : ¬ p → A) (h2 : p → B) : if (!decide p) = true then A else B := by
  by_cases h : p
  · rw [decide_eq_true h]
    exact h2 h
  · rw [decide_eq_false h]
    exact h1 h
theorem iteI {i j : Int} {A B : Prop} (h1 : i = j → A) (h2 : i ≠ j → B) : if decide (V.int i = V.int j) = true then A else B :=
  iteP (fun h => h1 (by injection h)) fun h => h2 fun z => h (by rw [z])
theorem iteNI {i j : Int} {A B : Prop} (h1 : i ≠ j → A) (h2 : i = j → B) : if (!decide (V.int i = V.int j)) = true then A else B :=
  iteNP (fun h => h1 fun z => h (by rw [z])) fun h => h2 (by injection h)
theorem iteS {i j : Str} {A B : Prop} (h1 : i = j → A) (h2 : i ≠ j → B) : if decide (V.str i = V.str j) = true then A else B :=
  iteP (fun h => h1 (by injection h)) fun h => h2 fun z => h (by rw [z])
theorem iteNS' {i j : Str} {A B : Prop} (h1 : i ≠ j → A) (h2 : i = j → B) : if (!decide (V.str i = V.str j)) = true then A else B :=
  iteNP (fun h => h1 fun z => h (by rw [z])) fun h => h2 (by injection h)
theorem iteB {b : Bool} {A B : Prop} (h1 : b = true → A) (h2 : b = false → B) : if b = true then A else B := by
  cases b with
  | true => exact h1 rfl
  | false => exact h2 rfl
theorem dV_int {i j : Int} : decide (V.int i = V.int j) = decide (i = j) := decide_eq_decide.mpr ⟨fun h => by injection h, fun h => by rw [h]⟩
theorem dV_str {i j : Str} : decide (V.str i = V.str j) = decide (i = j) := decide_eq_decide.mpr ⟨fun h => by injection h, fun h => by rw [h]⟩
/-- the item of a list at a number that was drawn -/
theorem at_of {xs : List V} {r : Int} (h0 : 0 ≤ r) (h1 : r < xs.length) : ∃ v, atI xs r = some v ∧ xs[r.toNat]? = some v := by
  have hj : r.toNat < xs.length := by omega
  have e : ((r.toNat : Nat) : Int) = r := by omega
  refine ⟨xs[r.toNat], ?_, List.getElem?_eq_getElem hj⟩
  have := atI_nat (xs := xs) (j := r.toNat) (v := xs[r.toNat]) (List.getElem?_eq_getElem hj)
  rw [e] at this
  exact this
end
end Wn
namespace Wn
open PySem L2
/-- a new thing: the heap behind it by a letter -/
theorem new_any {H : Hp} {p : Addr} {o : HO} (np : H p = none) : ∃ H', H' = upd H p o ∧ Same H H' ∧ H' p = some o := ⟨_, rfl, (L2.Same.refl _).new np, upd_same⟩
/-- a thing is written -/
theorem wr_any {H : Hp} {a : Addr} {o u : HO} (h : H a = some u) (hu : Wrt u = true) : ∃ H', H' = upd H a o ∧ Kp [a] H H' ∧ TK H H' ∧ H' a = some o := ⟨_, rfl, (Kp.refl _ _).wr (List.mem_singleton.mpr rfl), (TK.refl _).wr h hu, upd_same⟩
end Wn
namespace Wn
open PySem L2
/-- if a or b: the body once -/
theorem seq_or {c : TT} {t1 t2 u : TS} {D : Ends} {σ : L2.St} {H : Hp} (R : Hp → Prop) (body : ∀ H', R H' → t1 { D with nx := u D } σ H')
    (h1 : (∀ H', R H' → t1 { D with nx := u D } σ H') → c σ H fun b H1 => if b = true then t1 { D with nx := u D } σ H1 else t2 { D with nx := u D } σ H1) : tSeq (tIfS c t1 t2) u D σ H := h1 body
theorem new_tup {K : PySem.W.Frag} {H H' : Hp} {p : Addr} {vs : List V} {ds : List PyData} (np : H p = none) (e : upd H p (.tup vs) = H') (r : RpL K H ds vs) : Same H H' ∧ Rp K H' (.tuple ds) (.ref p) :=
  have s : Same H (upd H p (.tup vs)) := (L2.Same.refl _).new np
  e ▸ ⟨s, Rp.tup upd_same (RpL.tk (TK.of s) _ _ r)⟩
end Wn
namespace Wn
open PySem L2
/-! the same words under names that the macros' searches don't take -/
def SmB (H H' : Hp) : Prop := Same H H'
def TKB (H H' : Hp) : Prop := TK H H'
def KpB (M : List Addr) (H H' : Hp) : Prop := Kp M H H'
end Wn

namespace Wn
open PySem PySem.Spec PyProof.Rows L2
/-- enumerate of a text: each sign in a new pair -/
def ItsE (x : Str) : It :=
  ⟨fun i _ => i < x.cps.size, fun i H v H' => ∃ T c, v = .ref T ∧ H T = none ∧ H' = upd H T (.tup [.int (i : Nat), .str ⟨#[c]⟩]) ∧ x.cps[i]? = some c, fun i _ => x.cps.size ≤ i⟩
theorem turn_enumS {P : Program} {w : World} {K : PySem.W.Frag} {elts : List Expr} {kk : Nat} {tpos : Pos} (e it : Addr) (x : Str) (t : Tok) (ty : String) (hty : ty = "str_ascii_iterator" ∨ ty = "str_iterator") :
    Turn P w K (.Tuple elts kk tpos) (ItsE x) [e, it] e (fun i h => (∃ old, IsEnum h e it ((i : Nat) : Int) old) ∧ h.IsStrIter it ty x t i ∧ e ≠ it) where
  mem := by simp
  obj := fun i h st b hb => by
    obtain ⟨⟨old, he⟩, ⟨o, ho, hc, hd⟩, _⟩ := st
    have e' : b = e ∨ b = it := by simpa using hb
    rcases e' with z | z
    · rw [z]; exact ⟨_, he, fun v q => nomatch q⟩
    · rw [z]; exact ⟨o, ho, fun v q => by rw [hd] at q; cases q⟩
  keep := fun i h h' st k => let ⟨⟨old, he⟩, ⟨o, ho, r⟩, hne⟩ := st; ⟨⟨old, k e (by simp) _ he⟩, ⟨o, k it (by simp) o ho, r⟩, hne⟩
  item := by
    intro X hP hw hK hc i pins s σ H E I hf st hg
    subst hP hw hK
    obtain ⟨⟨old, he⟩, hit, hne⟩ := st
    have hh : X.A.in1.handled = none := I.ok.hd hc
    have hel : e < s.heap.objs.size := Heap.lt_size he
    have hil : it < s.heap.objs.size := by obtain ⟨_, q, _⟩ := hit; exact Heap.lt_size q
    have D : Draws X.prog X.w X.A.in1 it [it] x.cps.size (fun i v => ∃ c u, x.cps[i]? = some c ∧ v = .str ⟨#[c]⟩ u) (fun i h => h.IsStrIter it ty x t i) := by
      rcases hty with z | z
      · rw [z]; exact Draws.strAscii hh it x t
      · rw [z]; exact Draws.strWide hh it x t
    refine wpAny_pyNext_enum_itemD D he hit hg hne (by simpa using hne) fun v h' tk hv ho hit' hT hsz hk => ?_
    obtain ⟨c, u, hcx, rfl⟩ := hv
    refine ⟨_, rfl, wpAny_letOwnedTupleGo_enum (s := { s with heap := h', toks := tk + 1 }) ho fun h'' he' sb => ?_⟩
    have hT2 : h''.get? s.heap.objs.size = some { cls := .type "tuple", data := .seq #[.int i tk, .str ⟨#[c]⟩ u] } := (sb.2 _ (Nat.ne_of_gt hel)).trans hT
    have new : ObjOk X.prog X.w (upd H s.heap.objs.size (.tup [.int (i : Nat), .str ⟨#[c]⟩])) h'' s.heap.objs.size (.tup [.int (i : Nat), .str ⟨#[c]⟩]) :=
      ⟨by show 2 ≤ sizeLine; decide, [.int i tk, .str ⟨#[c]⟩ u], .cons ⟨_, rfl⟩ (.cons ⟨_, rfl⟩ .nil), ⟨_, hT2, rfl, _, rfl⟩⟩
    have I1 : Inv X pins σ (upd H s.heap.objs.size (.tup [.int (i : Nat), .str ⟨#[c]⟩])) { s with heap := h'', toks := tk + 1 } :=
      I.turnedNew (ch := [e, it]) (fun b ob hb q => (sb.2 b (fun z => hb (by simp [z]))).trans (hk b ob (fun z => hb (by simp [z])) (fun z => hb (by simp [z])) q)) hf (Nat.le_refl _) new
    refine ⟨.ref s.heap.objs.size, _, I1, rfl, ⟨_, c, rfl, I.hok.fresh (Nat.le_refl _), rfl, hcx⟩, ⟨⟨.str ⟨#[c]⟩ u, ?_⟩, ?_, hne⟩, fun b hb => ?_⟩
    · have e1 : ((i + 1 : Nat) : Int) = (i : Int) + 1 := by omega
      rw [e1]; exact he'
    · obtain ⟨o, q, r⟩ := hit'
      exact ⟨o, (sb.2 it (Ne.symm hne)).trans q, r⟩
    · have hb' : b < s.heap.objs.size := by
        have e' : b = e ∨ b = it := by simpa using hb
        rcases e' with z | z
        · rw [z]; exact hel
        · rw [z]; exact hil
      rw [upd_ne (Nat.ne_of_lt hb')]
      exact (hf b hb).1
  done := by
    intro X hP hw hK hc i pins s σ H E I hf st hg
    subst hP hw hK
    obtain ⟨⟨old, he⟩, hit, hne⟩ := st
    have hh : X.A.in1.handled = none := I.ok.hd hc
    obtain ⟨f0, f1, f2, f3, f4, f5⟩ := hf it (by simp)
    have D : Draws X.prog X.w X.A.in1 it [it] i (fun i v => False) (fun j h => j = i ∧ h.IsStrIter it ty x t i) := by
      refine ⟨fun _ _ st => let ⟨o, ho, _⟩ := st.2; ⟨o, ho⟩, fun _ _ _ st hk => let ⟨o, ho, r⟩ := st.2; ⟨st.1, o, hk it (by simp) o ho, r⟩, fun j s Q E hj st => absurd st.1 (Nat.ne_of_lt hj), fun s Q E st hE => ?_⟩
      have hx : x.cps[i]? = none := Array.getElem?_eq_none hg
      have st2 := st.2
      rcases hty with z | z
      · rw [z] at st2; exact wpAny_nextOf_ascii_end hh st2 hx hE
      · rw [z] at st2; exact wpAny_nextOf_wide_end hh st2 hx hE
    exact wpAny_pyNext_enum_endD D he ⟨rfl, hit⟩ fun h' eb => ⟨rfl, I.turned (t' := s.toks) (fun b o hb q => eb b o hb q) f0 f1 f3 f4 f5⟩
  self := fun A i s Q E st h => let ⟨⟨_, he⟩, _⟩ := st; wpAny_pyIter_enum he h
def iEnumS (ta : TA) : TI := fun σ H R => ta σ H fun vs H1 => ∃ x, vs = [.str x] ∧ R (ItsE x) H1
theorem pi_enumS {X : Cx} {e : Expr} {ta : TA} {p pos tpos : Pos} {elts : List Expr} {kk : Nat} (hg : Gl X "enumerate") (hm : X.mg "enumerate" = none) (ha : PA X [e] ta) (hs : starEach [e] X.env = [(false, eval e X.env)] := by rfl) :
    PI X (.Tuple elts kk tpos) (.Call (.Name "enumerate" p) [e] [] pos) (iEnumS ta) := by
  refine ⟨fun pins s σ H R I h => ?_⟩
  refine Call_ (ld_blt I hg hm boot_enumerate (PyProof.Rows.callWith_type1 (thn (ha.run pos pins s σ H _ I h) fun us s1 ⟨vs, H1, I1, r1, q1⟩ => ?_) hs rfl))
  obtain ⟨x, ex, q⟩ := q1
  subst ex
  cases r1 with
  | cons r rr =>
    cases rr
    obtain ⟨t, rfl⟩ := r
    refine call_enumerate_str fun h' he hit hsz hk => wpAny_pyIter_enum he ?_
    have I2 : Inv X pins σ H1 { s1 with heap := h' } := I1.kept (t' := s1.toks) hk
    refine ⟨s1.heap.objs.size + 1, [s1.heap.objs.size + 1, s1.heap.objs.size], _, _, H1, rfl, I2, turn_enumS (s1.heap.objs.size + 1) s1.heap.objs.size x t (strIterType x) ?_, ⟨⟨.none, he⟩, hit, Nat.succ_ne_self _⟩, fun b hb => ?_, q⟩
    · unfold strIterType
      split
      · exact .inl rfl
      · exact .inr rfl
    have e' : b = s1.heap.objs.size + 1 ∨ b = s1.heap.objs.size := by simpa using hb
    have hle : s1.heap.objs.size ≤ b := by
      rcases e' with z | z
      · rw [z]; exact Nat.le_add_right _ _
      · rw [z]; exact Nat.le_refl _
    exact I1.fpOk hle (I1.hok.fresh hle)
theorem walk_enumS {x : Str} : Walk (ItsE x) x.cps.size (fun _ => True) (fun i H v H' => ∃ T c, v = .ref T ∧ H T = none ∧ H' = upd H T (.tup [.int (i : Nat), .str ⟨#[c]⟩]) ∧ x.cps[i]? = some c) :=
  ⟨fun _ _ hi _ => hi, fun _ _ => Nat.le_refl _, fun _ _ _ _ _ _ y => y⟩
end Wn

namespace Wn
open PySem L2 PySem.Spec PyProof.Rows
/-! ### repr of data asks that no repr is under way: a promise of the law's own def, called as the claim calls it -/
section
variable {X : Cx} {K : PySem.W.Frag}
def rReprD (K : PySem.W.Frag) : List V → Hp → VK → Prop := fun xs H Q => ∃ (x : V) (d : PyData), xs = [x] ∧ Dp K H x d ∧ d.showable = true ∧ d.hasDict = false ∧ d.depth ≤ 60 ∧ d.shown.length ≤ sizeLine ∧ Q (.str d.shown) H
theorem call_reprD (hg : X.A.guards = some []) (hu : X.A.units + 64 < cLine) : CallR X (.builtin "repr") (rReprD X.K) := by
  intro pins s σ H xs us Q I r h
  obtain ⟨x, d, rfl, hd, hs, hno, hdep, hsz, q⟩ := h
  obtain ⟨u, rfl, rx⟩ := vals1 r
  have fin : ∀ (h' : Heap) (t tk : Tok), (∀ b o, s.heap.get? b = some o → h'.get? b = some o) → EP X pins σ Q (.str d.shown t) { s with heap := h', toks := tk } := fun h' t tk hk => ⟨.str d.shown, H, I.kept hk, ⟨t, rfl⟩, q⟩
  obtain ⟨as, rd⟩ := Dp.reads I d x u hd rx
  have same : ∀ b o, s.heap.get? b = some o → s.heap.get? b = some o := fun _ _ e => e
  cases rd with
  | none => exact PySem.P.repr_of_none (fin s.heap _ _ same)
  | bool b => exact PySem.P.repr_of_bool (fin s.heap _ _ same)
  | int i t =>
    have hi : i.natAbs.log2 < 1920 := by simpa [PyData.showable] using hs
    exact PySem.P.repr_of_int hi (fin s.heap _ _ same)
  | str x t => exact PySem.P.repr_of_str (fin s.heap _ _ same) (hsz := hsz)
  | list h1 h2 h3 h4 => exact repr_of_reads' (.list h1 h2 h3 h4) hs (fun z => by rw [hno] at z; cases z) hg (by omega) same (fun h' t tk hk => fin h' t tk hk) (hsz := hsz)
  | tuple h1 h2 h3 h4 => exact repr_of_reads' (.tuple h1 h2 h3 h4) hs (fun z => by rw [hno] at z; cases z) hg (by omega) same (fun h' t tk hk => fin h' t tk hk) (hsz := hsz)
  | dict h1 h2 h3 h4 h5 => cases hno
theorem reprDK (hK : X.K = K) (hg : X.A.guards = some []) (hu : X.A.units + 64 < cLine) : CallR X (.builtin "repr") (rReprD K) := hK ▸ call_reprD hg hu
end
/-- the promise of the law's def where the claim's caller calls it -/
def LawOk (P : Program) (w : World) (K : PySem.W.Frag) (mg : Str → Option Value) (base : Heap) (f : Addr) (fd : FuncData) (ps : List Str) (sp : Sp) : Prop :=
  ∀ (s : Shared) (H : Hp) (args : Args) (us : List Value) (vs : List V) (Q : VK), Env0 P w K mg base callerA [] s H → BindsTo s fd args (ps.zip us) → Vals vs us → sp vs H Q E0 →
    codeAny (model P w) callerA (.call (.ref f) args) (CR CX0 [] P w H s Q E0) s
section
variable {P : Program} {w : World} {K : PySem.W.Frag} {mg : Str → Option Value} {base : Heap}
theorem law_ok {x qual : Str} {st : Stmt} {f : Addr} {fd : FuncData} {N ps : List Str} {k : Nat} {sp : Sp} (F : Fun K x qual st f fd) (S : FnScope N ps (defScope st)) (len : ∀ vs H Q E, sp vs H Q E → vs.length = ps.length) (hr : Room (k + 1) callerA)
    (hbody : ∀ (cdv : Value) (A : Around) (s : Shared) (H : Hp) (vs : List V) (Q : VK), A = callerA → Room k (A.deeper (envOfC qual (defScope st) s.heap.objs.size f cdv)) → sp vs H Q E0 →
      ∃ t, PSs (cxOf CX0 P w K mg base N qual (defScope st) f cdv A [] s H E0).nox (defBody st) t ∧ t { nx := fun _ H' => Q .non H', rt := Q } (start N vs) H) : LawOk P w K mg base f fd ps sp := by
  obtain ⟨oc, od, kV, doc, pm, an, cdv, ct, osl, rfl, lk, hcd⟩ := F.ex
  intro s H args us vs Q e0 hb r hsp
  have hl := len _ _ _ _ hsp
  obtain ⟨t, ht, hq⟩ := hbody cdv callerA s H vs Q rfl (hr.deeper _) hsp
  have kin : K.In s.heap := e0.mod.kin.keeps fun b o e => (e0.bs b o e).1
  have nolim : s.heap.NoLimit := e0.mod.nolimit.keeps fun b o e => (e0.bs b o e).1
  have knd : ∀ y ∈ ps.zip us, (defScope st).names.lookup y.1 = some .local ∨ ((defScope st).names.lookup y.1 = some .cell ∧ ((cellsFrom (s.heap.objs.size + 1) (defScope st).names []).lookup y.1).isSome = true) := by
    rintro ⟨n, v⟩ hy
    refine (S.par n (List.of_mem_zip hy).1).imp id fun q => ⟨q, PySem.W.cellsFrom_some _ _ _ (.inl q)⟩
  refine codeAny_call_function hr.depth (kin _ _ lk) rfl S.co S.gen rfl (PySem.W.codeRec_of kin hcd) (hb _ _ _ _ (wpAny_newFunctionEnv_cells S.kind knd fun env he s1 x => ?_))
  subst he
  refine ⟨nolim.keeps x.toInCall.keep, codeAny_func ?_⟩
  have I := inv_start (CX := CX0) (E := E0) S hr.hd e0 hl r x
  refine wpAny_mono (ht.nox.run [] s1 (start N vs) H _ I hq) (fun fl s' hs => ?_) fun e s' hs => hs
  cases fl with
  | ret u =>
    obtain ⟨v, σ', H', J, rv, q⟩ := hs
    exact ⟨v, H', J.os, J.bare, J.base, J.hok, rv, q⟩
  | next =>
    obtain ⟨σ', H', J, q⟩ := hs
    exact ⟨.non, H', J.os, J.bare, J.base, J.hok, rfl, q⟩
  | brk => exact False.elim hs.choose_spec.choose_spec.2
  | cont => exact False.elim hs.choose_spec.choose_spec.2
/-- the law's call, by such a promise: only the script is tracked, as it is -/
theorem law_callG {mb : Str → Option Value} {fa a : Addr} {fd : FuncData} {x : Str} {sp : Sp} {s₁ : Shared} {vs : List Value} {ns : List Int}
    (KX : K.In s₁.heap) (hns : s₁.heap.Ns mainGlobals mg) (hb : s₁.heap.Ns builtinsNs mb) (hbb : ∀ x : Str, x ≠ "__name__" → mb x = bootBuiltins x) (hlim : s₁.heap.NoLimit) (hg : s₁.gens = #[])
    (ha : s₁.heap.get? a = some { cls := .type "list", data := .seq vs.toArray }) (hi : IntsAre vs ns) (hl : ns.length ≤ sizeLine)
    (F : ∀ base : Heap, K.In base → base.Ns mainGlobals mg → LawOk P w K mg base fa fd [x] sp) (hbind : ∀ (s : Shared) (u : Value), BindsTo s fd ⟨[u], []⟩ [(x, u)])
    (hsp : ∀ H : Hp, SqL K H a (ns.map V.int) → sp [.ref a] H (fun v _ => v = .bl true) E0) :
    codeAny (model P w) callerA (.call (.ref fa) ⟨[.ref a], []⟩) (fun r s' => r = .ok (.ret (.bool true)) ∧ OldK s₁.heap s'.heap ∧ s'.os = s₁.os ∧ AllBare s'.gens) s₁ := by
  have rv : Vals (ns.map V.int) vs := vals_ints hi
  have hlen := hi.length
  obtain ⟨H, hS, hok, hT⟩ : ∃ H : Hp, SqL K H a (ns.map V.int) ∧ HOk P w H s₁.heap ∧ ∀ b u, H b = some u → b = a ∧ K.lookup a = none ∧ u = .frz { cls := .type "list", data := .seq vs.toArray } (.lst (ns.map V.int)) := by
    cases hk : K.lookup a with
    | some o =>
      have e := KX a o hk
      rw [ha] at e
      cases e
      exact ⟨fun _ => none, .inr ⟨_, vs.toArray, _, hk, rfl, rfl, rfl, by rw [List.size_toArray, hlen]; exact hl, by simpa using rv⟩, (fun b u z => by have z' : (none : Option HO) = some u := z; cases z'), (fun b u z => by have z' : (none : Option HO) = some u := z; cases z')⟩
    | none =>
      refine ⟨upd (fun _ => none) a (.frz { cls := .type "list", data := .seq vs.toArray } (.lst (ns.map V.int))), .inl (.inr ⟨_, upd_same⟩), fun b u z => ?_, fun b u z => ?_⟩
      · by_cases e : b = a
        · subst e
          rw [upd_same] at z
          cases z
          exact ⟨ha, by rw [List.length_map]; exact hl, vs, _, rv, ha⟩
        · rw [upd_ne e] at z
          cases z
      · by_cases e : b = a
        · subst e
          rw [upd_same] at z
          exact ⟨rfl, rfl, (Option.some.inj z).symm⟩
        · rw [upd_ne e] at z
          cases z
  have free : ∀ {b : Addr} {o : Obj} {es : Array DictEntry} {ep : Nat}, s₁.heap.get? b = some o → o.data = .dict es ep → H b = none := fun {b o es ep} e d => by
    cases q : H b with
    | none => rfl
    | some u =>
      obtain ⟨rfl, _, _⟩ := hT b u q
      rw [ha] at e
      cases e
      exact nomatch (show Data.seq vs.toArray _ = Data.dict es ep from d)
  have ns' : ∀ {b : Addr} {m : Str → Option Value}, s₁.heap.Ns b m → (hidT s₁.heap H).Ns b m := fun {b m} ⟨o, es, ep, e, d, r⟩ => ⟨o, es, ep, hidT_get e (free e d), d, r⟩
  have kin : K.In (hidT s₁.heap H) := fun b o e => hidT_get (KX b o e) (by
    cases q : H b with
    | none => rfl
    | some u =>
      obtain ⟨rfl, z, _⟩ := hT b u q
      rw [z] at e
      cases e)
  obtain ⟨mc, c1, c2⟩ := hlim
  have e0 : Env0 P w K mg (hidT s₁.heap H) callerA [] s₁ H := ⟨rfl, ⟨kin, ns' hns, ⟨mb, ns' hb, hbb⟩, ⟨mc, ns' c1, c2⟩⟩, fun b o e => of_hidT e, Nat.le_of_eq (hidT_size _ _), trivial, fun b hb => absurd hb (List.not_mem_nil), hok, .of_eq hg⟩
  refine codeAny_mono (F _ kin (ns' hns) s₁ H ⟨[.ref a], []⟩ [.ref a] [.ref a] _ e0 (hbind s₁ (.ref a)) (.cons rfl .nil) (hsp H hS)) fun r s' h => ?_
  rcases r with e | fl
  · exact h.elim
  · cases fl with
    | next => exact h.elim
    | brk => exact h.elim
    | cont => exact h.elim
    | ret u =>
      obtain ⟨v, H', os, bare, un, hok', r', rfl⟩ := h
      obtain rfl : u = Value.bool true := r'
      refine ⟨rfl, OldK.of_keep fun b o e => ?_, os, bare⟩
      cases q : H b with
      | none => exact un.keep b o e q (fun z => absurd z (List.not_mem_nil)) (List.not_mem_nil)
      | some u =>
        obtain ⟨rfl, _, rfl⟩ := hT b u q
        have z := (hok' _ _ (un.frzs _ _ _ q)).1
        rw [ha] at e
        cases e
        exact z
end
theorem walkG {l : PySem.W.OpenLaw} {n : Nat} {q : Program} {loose : List Str} {XP : (Str → Option Value) → Heap → Prop} {YP : World → Heap → Prop} {d : DefRec} {K : Params → PySem.W.Frag} {sp : World → Sp} {x : Str}
    (hn : l.most = some n) (hn2 : n ≤ sizeLine) (hdf : d.params.defaults = []) (hY : ∀ (w : World) (h : Heap), YP w h → (K w.params).In h)
    (F : ∀ (w : World) (mg : Str → Option Value) (fa : Addr) (h : Heap), (K w.params).In h → h.Ns mainGlobals mg → mg d.name = some (.ref fa) →
      ∃ fd : FuncData, (∀ (s : Shared) (u : Value), BindsTo s fd ⟨[u], []⟩ [(x, u)]) ∧ ∀ base : Heap, (K w.params).In base → base.Ns mainGlobals mg → LawOk l.prog w (K w.params) mg base fa fd [x] (sp w))
    (hsp : ∀ (w : World) (H : Hp) (a : Addr) (ns : List Int), ns.length ≤ n → SqL (K w.params) H a (ns.map V.int) → sp w [.ref a] H (fun v _ => v = .bl true) E0) :
    PySem.W.WalkO q loose XP YP l.row.toRowW d [] (fun f vs => PySem.call f vs) := by
  refine Att.attach_call hn hdf fun w s₀ s₁ mg mb fa o pm cd doc a vs ns G Y ho hd hcd hmg hobj hints hlen hg => ?_
  obtain ⟨fd, hb, hF⟩ := F w mg fa _ (hY w _ Y) G.T.g hmg
  exact law_callG (hY w _ Y) G.T.g G.T.b G.T.builtins G.T.nolimit hg hobj hints (Nat.le_trans hlen hn2) hF hb fun H hS => hsp w H a ns hlen hS
end Wn

namespace Wn
open PySem L2 PySem.Spec PyProof.Rows
/-! ### things of any kind: data with lists, and the empty dict -/
theorem SqL.sm' {K : PySem.W.Frag} {H H' : Hp} {a : Addr} {xs : List V} (h : SqL K H a xs) (e : Same H H') : SqL K H' a xs := by
  rcases h with (h | ⟨o, h⟩) | h
  · exact .inl (.inl (e _ _ h))
  · exact .inl (.inr ⟨o, e _ _ h⟩)
  · exact .inr h
mutual
theorem Dp.sm {K : PySem.W.Frag} {H H' : Hp} (e : Same H H') : ∀ {v : V} {d : PyData}, Dp K H v d → Dp K H' v d
  | _, _, .non => .non
  | _, _, .bl b => .bl b
  | _, _, .int i => .int i
  | _, _, .str x => .str x
  | _, _, .lst h1 h2 => .lst (SqL.sm' h1 e) (DpAll.sm e h2)
  | _, _, .tup h1 h2 => .tup (SqT.tk h1 (TK.of e)) (DpAll.sm e h2)
theorem DpAll.sm {K : PySem.W.Frag} {H H' : Hp} (e : Same H H') : ∀ {vs : List V} {ds : List PyData}, DpAll K H vs ds → DpAll K H' vs ds
  | _, _, .nil => .nil
  | _, _, .cons h1 h2 => .cons (Dp.sm e h1) (DpAll.sm e h2)
end
theorem DpAll.len {K : PySem.W.Frag} {H : Hp} : ∀ {vs : List V} {ds : List PyData}, DpAll K H vs ds → vs.length = ds.length
  | _, _, .nil => rfl
  | _, _, .cons _ h => by rw [List.length_cons, List.length_cons, DpAll.len h]
theorem DpAll.get {K : PySem.W.Frag} {H : Hp} : ∀ {vs : List V} {ds : List PyData}, DpAll K H vs ds → ∀ {i : Nat} {v : V}, vs[i]? = some v → ∃ d, ds[i]? = some d ∧ Dp K H v d
  | _, _, .cons h1 h2, 0, v, e => by
    have : _ = v := Option.some.inj e
    subst this
    exact ⟨_, rfl, h1⟩
  | _, _, .cons h1 h2, i + 1, v, e => DpAll.get h2 (i := i) (by simpa using e)
/-- the name of a thing's type -/
def tyN : PyData → String
  | .none => "NoneType"
  | .bool _ => "bool"
  | .int _ => "int"
  | .str _ => "str"
  | .list _ => "list"
  | .tuple _ => "tuple"
  | .dict _ => "dict"
theorem Dp.ty {K : PySem.W.Frag} {H : Hp} {v : V} {d : PyData} (h : Dp K H v d) : TyX K H v (.type (tyN d)) := by
  cases h with
  | non => exact .base .non
  | bl b => exact .base (.bl b)
  | int i => exact .base (.int i)
  | str x => exact .base (.str x)
  | lst h1 h2 =>
    rcases h1 with (h | ⟨o, h⟩) | ⟨o, its, n, h, c, _⟩
    · exact .base (.lst h)
    · exact .base (.frz h)
    · exact .kList h c
  | tup h1 h2 => exact ty_tup h1
def AnyAt (K : PySem.W.Frag) (H : Hp) (v : V) (d : PyData) : Prop := Dp K H v d ∨ (d = .dict [] ∧ ∃ a, v = .ref a ∧ H a = some (.dK []))
theorem AnyAt.sm {K : PySem.W.Frag} {H H' : Hp} {v : V} {d : PyData} (h : AnyAt K H v d) (e : Same H H') : AnyAt K H' v d := by
  rcases h with h | ⟨rfl, a, rfl, h⟩
  · exact .inl (Dp.sm e h)
  · exact .inr ⟨rfl, a, rfl, e _ _ h⟩
theorem AnyAt.ty {K : PySem.W.Frag} {H : Hp} {v : V} {d : PyData} (h : AnyAt K H v d) : TyX K H v (.type (tyN d)) := by
  rcases h with h | ⟨rfl, a, rfl, h⟩
  · exact Wn.Dp.ty h
  · exact .base (.dK h)
abbrev tyNames : List String := ["NoneType", "bool", "int", "str", "list", "tuple", "dict"]
theorem tyN_mem (d : PyData) : tyN d ∈ tyNames := by
  cases d <;> simp [tyN, tyNames]
theorem kitB_tuple : ∀ t ∈ tyNames, kitB t "tuple" = some (decide (t = "tuple")) := by decide +kernel
theorem kitB_str : ∀ t ∈ tyNames, kitB t "str" = some (decide (t = "str")) := by decide +kernel
theorem kitB_list : ∀ t ∈ tyNames, kitB t "list" = some (decide (t = "list")) := by decide +kernel
theorem kitB_int : ∀ t ∈ tyNames, kitB t "int" = some (decide (t = "int" ∨ t = "bool")) := by decide +kernel
theorem kitB_bool : ∀ t ∈ tyNames, kitB t "bool" = some (decide (t = "bool")) := by decide +kernel
theorem kit_tuple {K : PySem.W.Frag} (d : PyData) : PySem.W.kitOne K (.type (tyN d)) (.type "tuple") = some (decide (tyN d = "tuple")) := kit_ty (kitB_tuple _ (tyN_mem d))
theorem kit_str {K : PySem.W.Frag} (d : PyData) : PySem.W.kitOne K (.type (tyN d)) (.type "str") = some (decide (tyN d = "str")) := kit_ty (kitB_str _ (tyN_mem d))
theorem kit_list {K : PySem.W.Frag} (d : PyData) : PySem.W.kitOne K (.type (tyN d)) (.type "list") = some (decide (tyN d = "list")) := kit_ty (kitB_list _ (tyN_mem d))
theorem kit_int {K : PySem.W.Frag} (d : PyData) : PySem.W.kitOne K (.type (tyN d)) (.type "int") = some (decide (tyN d = "int" ∨ tyN d = "bool")) := kit_ty (kitB_int _ (tyN_mem d))
theorem kit_bool {K : PySem.W.Frag} (d : PyData) : PySem.W.kitOne K (.type (tyN d)) (.type "bool") = some (decide (tyN d = "bool")) := kit_ty (kitB_bool _ (tyN_mem d))
section
variable {X : Cx} {K : PySem.W.Frag}
def rReprA (K : PySem.W.Frag) : List V → Hp → VK → Prop := fun xs H Q => ∃ (x : V) (d : PyData), xs = [x] ∧ AnyAt K H x d ∧ d.showable = true ∧ (d = .dict [] ∨ d.hasDict = false) ∧ d.depth ≤ 60 ∧ d.shown.length ≤ sizeLine ∧ Q (.str d.shown) H
theorem call_reprA (hg : X.A.guards = some []) (hu : X.A.units + 64 < cLine) : CallR X (.builtin "repr") (rReprA X.K) := by
  intro pins s σ H xs us Q I r h
  obtain ⟨x, d, rfl, hd, hs, hno, hdep, hsz, q⟩ := h
  rcases hd with hd | ⟨rfl, a, rfl, hd⟩
  · have hno : d.hasDict = false := by
      rcases hno with rfl | h
      · cases hd
      · exact h
    exact call_reprD hg hu pins s σ H _ us Q I r ⟨x, d, rfl, hd, hs, hno, hdep, hsz, q⟩
  · obtain ⟨u, rfl, rx⟩ := vals1 r
    cases rx
    obtain ⟨z, lo, vs, rel, o, es, ep, h1, h2, h3, _, h4, _⟩ := (show ObjOk X.prog X.w H s.heap a (.dK []) from I.hok a _ hd)
    cases rel
    have e0 : es.toList = [] := by
      generalize es.toList = l at h4
      cases h4
      rfl
    refine repr_of_reads' (.dict (kvs := []) (as := []) (bs := []) h1 h2.1 h3 (by rw [e0]; exact .nil) (by rw [e0]; exact .nil)) hs (fun _ => ?_) hg (by show X.A.units + 2 < cLine; omega) (fun _ _ e => e) (fun h' t tk hk => ⟨.str _, H, I.kept hk, ⟨t, rfl⟩, q⟩) (hsz := hsz)
    simp only [List.append_nil, List.mem_singleton]
    exact fun z => (beq_eq_false_iff_ne.mp lo) z.symm
theorem reprAK (hK : X.K = K) (hg : X.A.guards = some []) (hu : X.A.units + 64 < cLine) : CallR X (.builtin "repr") (rReprA K) := hK ▸ call_reprA hg hu
end
end Wn

namespace Wn
open PySem L2
open SX (S S_len S_cat S_beq_eq join_S)
theorem joinK {X : Cx} {K : PySem.W.Frag} {o e : Expr} {to te : TE} {apos pos : Pos} (hK : X.K = K) (ho : PE X o to) (he : PE X e te) (hs : starEach [e] X.env = [(false, eval e X.env)] := by rfl) (hbase : attributeBase o "join" X.env (eval o X.env) = eval o X.env := by rfl) (hline : (apos.endLine == pos.line) = true := by rfl) :
    PE X (.Call (.Attribute o "join" apos) [e] [] pos) (tM1 (fun x xs H Q => ∃ a p, ∃ ys : List Str, x = .str a ∧ xs = [.ref p] ∧ (SqL K H p (ys.map V.str) ∨ SqT K H p (ys.map V.str)) ∧
      (ys.map (·.length)).sum + ys.length * a.length ≤ 16777216 ∧ Q (.str (Txt.join a ys)) H) to te) := hK ▸ pe_join ho he hs hbase hline
theorem drop_min {cs : List Nat} {a b : Nat} : (cs.drop (min a cs.length)).take (min b cs.length - min a cs.length) = (cs.drop a).take (b - a) := by
  by_cases h : a ≤ cs.length
  · rw [Nat.min_eq_left h]
    by_cases h2 : b ≤ cs.length
    · rw [Nat.min_eq_left h2]
    · rw [Nat.min_eq_right (by omega), List.take_of_length_le (by rw [List.length_drop]; exact Nat.le_refl _), List.take_of_length_le (by rw [List.length_drop]; omega)]
  · rw [show min a cs.length = cs.length by omega, List.drop_of_length_le (Nat.le_refl _), List.drop_of_length_le (show cs.length ≤ a by omega), List.take_nil, List.take_nil]
theorem cutS_S (cs : List Nat) (a b : Nat) : cutS (S cs) (some (a : Int)) (some (b : Int)) = S ((cs.drop a).take (b - a)) := by
  unfold cutS
  rw [HT.sIx_nat, HT.sIx_nat, S_len, drop_min]
theorem joinL_nil : ∀ ls : List (List Nat), TL.joinL [] ls = ls.flatten
  | [] => rfl
  | [p] => by
    show p = List.flatten [p]
    simp
  | p :: q :: r => by
    show p ++ ([] ++ TL.joinL [] (q :: r)) = _
    rw [List.nil_append, joinL_nil (q :: r)]
    rfl
/-- a list of signs, joined -/
theorem join_signs (cs : List Nat) : Txt.join (S []) (cs.map fun c => S [c]) = S cs := by
  rw [show (cs.map fun c => S [c]) = (cs.map fun c => [c]).map S by rw [List.map_map]; rfl, join_S, joinL_nil]
  congr 1
  induction cs with
  | nil => rfl
  | cons c cs ih =>
    show [c] ++ (cs.map fun c => [c]).flatten = c :: cs
    rw [ih]
    rfl
theorem sum_signs (cs : List Nat) : (((cs.map fun c => S [c]).map (·.length)).sum : Nat) = cs.length := by
  induction cs with
  | nil => rfl
  | cons c cs ih =>
    rw [List.map_cons, List.map_cons, List.sum_cons, ih, List.length_cons, S_len, List.length_singleton]
    omega
def OkSign (c : Nat) : Prop := 32 ≤ c ∧ c ≤ 126 ∧ c ≠ 37
def spSign : Sp := fun vs H Q _ => ∃ (d f : Addr) (n : Int), vs = [.ref d] ∧ Deck H d f n ∧ n < 2 ^ 60 ∧
  ∀ (c : Nat) (H' : Hp), OkSign c → Kp [d] H H' → Deck H' d f (n + 1) → Q (.str (S [c])) H'
def spText : Sp := fun vs H Q _ => ∃ (d f : Addr) (n most : Int), vs = [.ref d, .int most] ∧ Deck H d f n ∧ n < 2 ^ 59 ∧ 0 ≤ most ∧ most ≤ 100000 ∧
  ∀ (cs : List Nat) (H' : Hp), (cs.length : Int) ≤ most → (∀ c ∈ cs, OkSign c) → Kp [d] H H' → Deck H' d f (n + 1 + most) → Q (.str (S cs)) H'
end Wn

namespace Wn
open PySem L2
def top (i : Nat) : Stmt := PySem.Challenge.pw_wrapnets_k23_whole_what_are_parts.main.body.getD i (.Pass ⟨0, 0, 0, 0⟩)
abbrev sMixed : Stmt := top 6
abbrev sDeck : Stmt := top 7
abbrev sNext : Stmt := top 8
section
variable {P : Program} {w : World} {K : PySem.W.Frag} {mg : Str → Option Value} {base : Heap}
theorem scMixed : FnScope ["_law_cell", "_law_at", "_law_one"] ["_law_cell", "_law_at"] (defScope sMixed) := ⟨rfl, rfl, rfl, by decide +kernel, rfl, by decide +kernel, by decide +kernel⟩
theorem ok_mixed {f : Addr} {fd : FuncData} (F : Fun K "_law_mixed" "_law_mixed" sMixed f fd) : FnOk P w K mg base CX0 1 f fd ["_law_cell", "_law_at"] spMixed := by
  refine F.ok scMixed (fun vs H Q E h => ?_) (fun cdv A outer s H vs Q E hr h => ?_)
  · obtain ⟨c, a, rfl, _⟩ := h
    rfl
  · obtain ⟨c, a, rfl, ha, hb, k⟩ := h
    refine ⟨_, pss_cons (ps_set (i := 2) scMixed.nd rfl (Or.inl rfl) (pe_op op_mod (pe_op op_add (pe_op op_add (pe_op op_mul (pe_op op_mod (pv 0) pe_int) pe_int)
      (pe_op op_mul (pe_op op_mul (pe_op op_add (pv 1) pe_int) (pe_op op_add (pv 1) pe_int)) pe_int)) pe_int) pe_int))
      (pss_one (ps_ret (pe_op op_fdiv (pe_op op_mod (pe_op op_mul (pv 2) (pv 2)) pe_int) pe_int))), ?_⟩
    refine ⟨_, rfl, _, _, rfl, rfl, (by show (0 : Int) < 2147483629; decide), _, _, rfl, rfl, .inr ⟨by decide, by decide⟩, _, rfl, _, _, rfl, rfl, _, rfl, _, _, rfl, rfl, _, _, rfl, rfl, .inl ⟨by omega, by omega⟩, _, _, rfl, rfl, .inr ⟨by decide, by decide⟩,
      _, _, rfl, rfl, _, _, rfl, rfl, _, _, rfl, rfl, (by show (0 : Int) < 2147483647; decide), ?_⟩
    refine ⟨_, rfl, _, rfl, _, _, rfl, rfl, .inl ⟨?_, ?_⟩, _, _, rfl, rfl, (by show (0 : Int) < 2147483629; decide), _, _, rfl, rfl, ⟨by decide, by decide⟩, k _⟩
    · have := Int.emod_nonneg (c % 2147483629 * 48271 + (a + 1) * (a + 1) * 7919 + 11) (show (2147483647 : Int) ≠ 0 by decide)
      omega
    · have := Int.emod_lt_of_pos (c % 2147483629 * 48271 + (a + 1) * (a + 1) * 7919 + 11) (show (0 : Int) < 2147483647 by decide)
      omega
theorem scNext : FnScope ["_law_deck_here", "_law_many", "_law_at"] ["_law_deck_here", "_law_many"] (defScope sNext) := ⟨rfl, rfl, rfl, by decide +kernel, rfl, by decide +kernel, by decide +kernel⟩
theorem ok_next {f : Addr} {fd : FuncData} (F : Fun K "_law_next" "_law_next" sNext f fd) (zL : mg "len" = none) (M : Cd P w K mg base 1 "_law_mixed" ["_law_cell", "_law_at"] spMixed) : FnOk P w K mg base CX0 2 f fd ["_law_deck_here", "_law_many"] spNext := by
  obtain ⟨fM, fdM, GM, mM, kM, bM⟩ := M
  refine F.ok scNext (fun vs H Q E h => ?_) (fun cdv A outer s H vs Q E hr h => ?_)
  · obtain ⟨d, f, m, n, rfl, _⟩ := h
    rfl
  · obtain ⟨d, f, m, n, rfl, hm, hn, ⟨a, wh, xs, hd, hf, a0, an, hx⟩, k⟩ := h
    have ndf : f ≠ d := fun z => by
      rw [z, hd] at hf
      have := congrArg (fun o => match o with | some (HO.lst (_ :: _ :: .ref _ :: _)) => true | _ => false) hf
      simp only at this
      cases xs with
      | nil => cases hf
      | cons x xs => cases xs with
        | nil => cases hf
        | cons y xs => cases xs with
          | nil => cases hf
          | cons z xs => cases hf
    refine ⟨_, pss_cons (ps_set (i := 2) scNext.nd rfl (Or.inl rfl) (pe_ix ix_list (pv 0) pe_int (fun _ _ => rfl)))
      (pss_cons (ps_asg (pe_op op_add (pv 2) pe_int) (pg_sub (pv 0) pe_int set_list))
      (pss_cons (ps_if (pt_cmpR op_lt (pv 2) (pe_callB call_len (by rfl) zL PySem.boot_len (pa_cons (pe_ix ix_list (pv 0) pe_int (fun _ _ => rfl)) pa_nil)) (nomark _))
        (pss_one (ps_ret (pe_op op_mod (pe_ix ix_list (pe_ix ix_list (pv 0) pe_int (fun _ _ => rfl)) (pv 2) (fun _ _ => rfl)) (pv 1)))) pss_nil)
      (pss_one (ps_ret (pe_op op_mod (pe_call GM hr rfl mM kM bM .nil pass0 (pa_cons (pe_ix ix_list (pv 0) pe_int (fun _ _ => rfl)) (pa_cons (pv 2) pa_nil))) (pv 1)))))), ?_⟩
    have hd2 : upd H d (.lst [.int (a + 1), .int wh, .ref f]) d = some (.lst [.int (a + 1), .int wh, .ref f]) := upd_same
    have hf2 : upd H d (.lst [.int (a + 1), .int wh, .ref f]) f = some (.lst (xs.map V.int)) := (upd_ne ndf).trans hf
    have hk : Kp [d] H (upd H d (.lst [.int (a + 1), .int wh, .ref f])) := (Kp.refl _ _).wr (List.mem_singleton.mpr rfl)
    have hD : Deck (upd H d (.lst [.int (a + 1), .int wh, .ref f])) d f (n + 1) := ⟨a + 1, wh, xs, hd2, hf2, by omega, by omega, hx⟩
    refine ⟨_, rfl, d, _, _, .int a, rfl, rfl, SqL.of hd, rfl, ?_⟩
    refine ⟨_, rfl, _, _, rfl, rfl, _, rfl, d, _, _, 0, rfl, rfl, hd, rfl, ?_⟩
    refine ⟨_, rfl, _, rfl, d, _, _, .ref f, rfl, rfl, SqL.of hd2, rfl, _, _, rfl, .inl ⟨_, SqL.of hf2, rfl⟩, _, _, rfl, rfl, _, rfl, ?_⟩
    refine ite2 (fun hl => ?_) (fun _ => ?_)
    · have hl := of_decide_eq_true hl
      rw [List.length_map] at hl
      have hj : a.toNat < xs.length := by omega
      have ha : ((a.toNat : Nat) : Int) = a := by omega
      refine ⟨_, rfl, d, _, _, .ref f, rfl, rfl, SqL.of hd2, rfl, _, rfl, f, _, _, .int (xs[a.toNat]), rfl, rfl, SqL.of hf2, ?_, _, rfl, _, _, rfl, rfl, hm, ?_⟩
      · have := atI_nat (xs := xs.map V.int) (j := a.toNat) (v := .int (xs[a.toNat])) (by simp [hj])
        rw [ha] at this
        exact this
      · exact k _ _ (Int.emod_nonneg _ (by omega)) (Int.emod_lt_of_pos _ hm) hk hD
    · refine ⟨_, rfl, d, _, _, .int wh, rfl, rfl, SqL.of hd2, rfl, _, rfl, wh, a, rfl, by omega, by omega, fun r => ?_⟩
      exact ⟨_, rfl, _, _, rfl, rfl, hm, k _ _ (Int.emod_nonneg _ (by omega)) (Int.emod_lt_of_pos _ hm) hk hD⟩
end
end Wn
namespace Wn
open PySem L2
section
variable {P : Program} {w : World} {K : PySem.W.Frag} {mg : Str → Option Value} {base : Heap}
theorem scDeck : FnScope ["_law_script", "_law_found", "_law_whole", "_law_k", "_law_rest", "_law_at"] ["_law_script"] (defScope sDeck) := ⟨rfl, rfl, rfl, by decide +kernel, rfl, by decide +kernel, by decide +kernel⟩
def restOf (σ : L2.St) (_ : Hp) : Nat := match σ[4]? with | some (some (V.int r)) => r.toNat | _ => 0
theorem ok_deck {f : Addr} {fd : FuncData} (F : Fun K "_law_deck" "_law_deck" sDeck f fd) (zL : mg "len" = none) (zR : mg "range" = none) (zM : mg "min" = none) (M : Cd P w K mg base 1 "_law_mixed" ["_law_cell", "_law_at"] spMixed) : FnOk P w K mg base CX0 2 f fd ["_law_script"] (spDeck K) := by
  obtain ⟨fM, fdM, GM, mM, kM, bM⟩ := M
  refine F.ok scDeck (fun vs H Q E h => ?_) (fun cdv A outer s H vs Q E hr h => ?_)
  · obtain ⟨a, ns, rfl, _⟩ := h
    rfl
  · obtain ⟨a, ns, rfl, hS, hlen, k⟩ := h
    refine ⟨_, pss_cons (ps_set (i := 1) scDeck.nd rfl (Or.inl rfl) (pe_lst pa_nil)) (pss_cons (ps_set (i := 2) scDeck.nd rfl (Or.inl rfl) (pe_callB call_len (by rfl) zL PySem.boot_len (pa_cons (pv 0) pa_nil)))
      (pss_cons (ps_for PassesOwn.never rfl (pi_range1 rfl zR (pa_cons (pe_callB (call_min2 rfl) (by rfl) zM (by decide +kernel) (pa_cons (pe_callB call_len (by rfl) zL PySem.boot_len (pa_cons (pv 0) pa_nil)) (pa_cons pe_int pa_nil))) pa_nil)) (pg_name (i := 3) scDeck.nd rfl (Or.inr rfl))
        (pss_cons (ps_set (i := 4) scDeck.nd rfl (Or.inr rfl) (pe_ix ix_list (pv 0) (pv 3) (fun _ _ => rfl)))
        (pss_cons (ps_if (pt_cmpR op_ge (pv 4) (pe_op op_pow pe_int pe_int) (nomark _))
          (pss_one (ps_while PassesOwn.never (PW.pt (pw_and (pt_cmpR op_gt (pv 4) pe_int (nomark _)) (pw_and1 (pt_cmpR op_lt (pe_callB call_len (by rfl) zL PySem.boot_len (pa_cons (pv 1) pa_nil)) pe_int (nomark _)))))
            (pss_cons (ps_expr (pe_bm PySem.F.plainAttrs_list PySem.F.slot_list_append PySem.F.type_list_append mt_append (pv 1) (pa_cons (pe_op op_mod (pv 4) pe_int) pa_nil)))
            (pss_one (ps_set (i := 4) scDeck.nd rfl (Or.inr rfl) (pe_op op_fdiv (pv 4) pe_int))))))
          (pss_one (ps_expr (pe_bm PySem.F.plainAttrs_list PySem.F.slot_list_extend PySem.F.type_list_extend mt_extend (pv 1) (pa_cons
            (pe_lc (own := [("_law_at", 5)]) (g := gName 5) (tt := tYes) rfl scDeck.nd (pi_range1 rfl zR (pa_cons pe_int pa_nil)) (blkOk_by (N := ["_law_script", "_law_found", "_law_whole", "_law_k", "_law_rest", "_law_at"]) (sc := defScope sDeck) (by decide +kernel))
              (fun _ _ _ _ _ => pg_name (i := 5) scDeck.nd rfl (Or.inl rfl)) (fun _ _ _ _ _ => pts_nil)
              (fun _ _ _ _ _ => pe_call GM hr rfl mM kM bM .nil pass0 (pa_cons (pv 4) (pa_cons (pe_op op_add (pe_op op_mul pe_int (pv 3)) (pv 5)) pa_nil)))) pa_nil)))))
        (pss_one (ps_set (i := 2) scDeck.nd rfl (Or.inl rfl) (pe_op op_mod (pe_op op_add (pe_op op_mul (pv 2) pe_int) (pe_ix ix_list (pv 0) (pv 3) (fun _ _ => rfl))) pe_int))))))
      (pss_one (ps_ret (pe_lst (pa_cons pe_int (pa_cons (pv 2) (pa_cons (pv 1) pa_nil)))))))), ?_⟩
    refine ⟨Nat.zero_le _, fun l hl => ?_⟩
    have s0 : Same H (upd H l (.lst [])) := (L2.Same.refl H).new hl
    have hS0 := s0.seq hS
    refine ⟨_, rfl, _, _, rfl, .inl ⟨_, hS0, rfl⟩, ?_⟩
    refine ⟨_, rfl, _, _, rfl, .inl ⟨_, hS0, rfl⟩, _, _, rfl, _, rfl, ?_⟩
    have hn63 : (ns.map V.int).length ≤ 63 := by rw [List.length_map]; exact hlen
    refine ⟨by split <;> omega, by split <;> omega, ?_⟩
    refine for_range (fun i σ H' => ∃ (wh : Int) (v3 v4 v5 : Option V) (xs : List Int), σ = [some (.ref a), some (.ref l), some (.int wh), v3, v4, v5] ∧ Same H H' ∧ H' l = some (.lst (xs.map V.int)) ∧ xs.length ≤ 3000 + 6 * i)
      ⟨_, _, _, _, [], rfl, s0, upd_same, Nat.zero_le _⟩ ?_ ?_
    · rintro i σ H1 hi ⟨wh, v3, v4, v5, xs, rfl, s1, hl1, hxs⟩
      have hi2 : i < ns.length ∧ i < 63 := by
        rw [List.length_map] at hi
        split at hi <;> omega
      have hat : atI (ns.map V.int) (0 + (i : Int)) = some (V.int ns[i]) := by
        rw [Int.zero_add]
        exact atI_nat (by simp [hi2.1])
      have hS1 := s1.seq hS
      -- what is left of a turn
      have fin : ∀ (H2 : Hp) (v4 v5 : Option V) (ys : List Int), Same H H2 → H2 l = some (.lst (ys.map V.int)) → ys.length ≤ 3000 + 6 * (i + 1) → ∃ (wh' : Int) (v3 v4' v5' : Option V) (xs : List Int),
          [some (V.ref a), some (.ref l), some (.int ((wh * 31 + ns[i]) % 2147483647)), some (.int (0 + (i : Int))), v4, v5] = [some (.ref a), some (.ref l), some (.int wh'), v3, v4', v5'] ∧ Same H H2 ∧ H2 l = some (.lst (xs.map V.int)) ∧ xs.length ≤ 3000 + 6 * (i + 1) :=
        fun H2 v4 v5 ys a b c => ⟨_, _, _, _, ys, rfl, a, b, c⟩
      refine ⟨_, rfl, _, rfl, a, _, _, _, rfl, rfl, hS1, hat, ?_⟩
      refine ⟨_, rfl, _, _, rfl, rfl, ⟨by decide, by decide, by decide⟩, _, _, rfl, rfl, _, rfl, ?_⟩
      refine ite2 (fun _ => ?_) (fun _ => ?_)
      · refine while_m (fun σ H' => ∃ (r : Int) (xs : List Int), σ = [some (.ref a), some (.ref l), some (.int wh), some (.int (0 + (i : Int))), some (.int r), v5] ∧ Same H H' ∧ H' l = some (.lst (xs.map V.int)) ∧ xs.length ≤ 3000 + 6 * (i + 1)) restOf
          ⟨_, xs, rfl, s1, hl1, by omega⟩ ?_
        rintro m σ H2 hm ⟨r, ys, rfl, s2, hl2, hys⟩
        have hm' : m = r.toNat := hm
        refine ⟨_, rfl, _, _, rfl, rfl, _, rfl, ?_⟩
        refine ite2 (fun hr0 => ?_) (fun _ => ?_)
        · have hr0 := of_decide_eq_true hr0
          refine ⟨_, rfl, _, _, rfl, .inl ⟨_, SqL.of hl2, rfl⟩, _, _, rfl, rfl, _, rfl, ?_⟩
          refine ite2 (fun hb => ?_) (fun _ => ?_)
          · have hb := of_decide_eq_true hb
            rw [List.length_map] at hb
            refine ⟨fun σ' H' => (∃ (r : Int) (xs : List Int), σ' = [some (.ref a), some (.ref l), some (.int wh), some (.int (0 + (i : Int))), some (.int r), v5] ∧ Same H H' ∧ H' l = some (.lst (xs.map V.int)) ∧ xs.length ≤ 3000 + 6 * (i + 1)) ∧ restOf σ' H' < m, fun σ' H' q => ⟨_, q.2, rfl, q.1⟩, ?_⟩
            refine ⟨_, rfl, .inl ⟨rfl, _, SqL.of hl2⟩, _, rfl, _, _, rfl, rfl, (by show (0 : Int) < 1000000; decide), l, _, _, rfl, rfl, hl2, (by rw [List.length_map]; exact Nat.lt_of_le_of_lt (show ys.length ≤ 3000 by omega) (by decide)), ?_⟩
            refine ⟨_, rfl, _, _, rfl, rfl, ⟨by decide, by decide⟩, ?_⟩
            refine ⟨⟨_, ys ++ [r % 1000000], rfl, s2.wrn hl, ?_, ?_⟩, ?_⟩
            · rw [upd_same, List.map_append]
              rfl
            · rw [List.length_append, List.length_singleton]
              omega
            · show (r / 1000000).toNat < m
              omega
          · exact ⟨_, rfl, _, _, rfl, rfl, .inr ⟨by decide, by decide⟩, _, rfl, _, rfl, a, _, _, _, rfl, rfl, s2.seq hS, hat, _, _, rfl, rfl, _, _, rfl, rfl, (by show (0 : Int) < 2147483647; decide), fin H2 _ _ ys s2 hl2 hys⟩
        · exact ⟨_, rfl, _, _, rfl, rfl, .inr ⟨by decide, by decide⟩, _, rfl, _, rfl, a, _, _, _, rfl, rfl, s2.seq hS, hat, _, _, rfl, rfl, _, _, rfl, rfl, (by show (0 : Int) < 2147483647; decide), fin H2 _ _ ys s2 hl2 hys⟩
      · refine ⟨_, rfl, .inl ⟨rfl, _, SqL.of hl1⟩, 6, rfl, by decide, by decide, fun D hD => ?_⟩
        have nDl : l ≠ D := ne_of_none hl1 hD
        refine lc_range (lo := 0) (n := 6) (fun j H' => ∃ ys : List Int, H' D = some (.lst (ys.map V.int)) ∧ ys.length = j ∧ Same H1 H' ) ⟨[], upd_same, rfl, (L2.Same.refl H1).new hD⟩ ?_ ?_
        · rintro j H2 hj ⟨ys, hD2, hys, s2⟩
          refine ⟨rfl, _, rfl, _, rfl, _, _, rfl, rfl, .inl ⟨by decide, by decide⟩, _, rfl, _, _, rfl, rfl, _, _, rfl, by omega, by omega, fun r => ?_⟩
          refine ⟨_, hD2, by rw [List.length_map, hys]; exact Nat.lt_trans hj (by decide), ys ++ [r], ?_, by rw [List.length_append, hys]; rfl, s2.wrn hD⟩
          rw [upd_same, List.map_append]
          rfl
        · rintro H2 ⟨ys, hD2, hys, s2⟩
          refine ⟨l, D, _, _, rfl, rfl, s2 _ _ hl1, hD2, ?_, ?_⟩
          · rw [List.length_map, List.length_map, hys]
            exact Nat.le_trans (show xs.length + 6 ≤ 6000 by omega) (by decide)
          · refine ⟨_, rfl, _, _, rfl, rfl, .inr ⟨by decide, by decide⟩, _, rfl, _, rfl, a, _, _, _, rfl, rfl, ((s1.trans s2).wrn hl).seq hS, hat, _, _, rfl, rfl, _, _, rfl, rfl, (by show (0 : Int) < 2147483647; decide), fin _ _ _ (xs ++ ys) ((s1.trans s2).wrn hl) ?_ ?_⟩
            · rw [upd_same, List.map_append]
            · rw [List.length_append, hys]
              omega
    · rintro σ H1 ⟨wh, v3, v4, v5, xs, rfl, s1, hl1, hxs⟩
      refine ⟨_, rfl, _, rfl, (by show 3 ≤ sizeLine; decide), fun d hd => ?_⟩
      have hn : ns.length ≤ 63 := hlen
      have hxs' : xs.length ≤ 100000 := by
        rw [List.length_map] at hxs
        split at hxs <;> omega
      refine k _ d l (s1.free hd) hl (s1.new hd) ⟨0, wh, xs, upd_same, ?_, Int.le_refl _, Int.le_refl _, hxs'⟩
      rw [upd_ne (ne_of_none hl1 hd)]
      exact hl1
end
end Wn
namespace Wn
open PySem L2
section
variable {P : Program} {w : World} {K : PySem.W.Frag} {mg : Str → Option Value} {base : Heap}
end
end Wn

namespace Wn
open PySem L2
/-- a part in form: where it begins, its signs -/
abbrev Prt := Int × Str
def prtOf : PyData → Option Prt
  | .tuple [.int f, .str z] => some (f, z)
  | _ => none
/-- it stands in the text -/
def okPrt (text : Str) (size : Int) (p : Prt) : Bool := decide (0 ≤ p.1) && decide (1 ≤ p.2.length) && decide ((p.2.length : Int) ≤ size) && decide (cutS text (some p.1) (some (p.1 + p.2.length)) = p.2)
def isPartS (text : Str) (size : Int) (d : PyData) : Bool := match prtOf d with
  | some p => okPrt text size p
  | none => false
theorem cutS_len_le (z : Str) (a l : Nat) (hl : 1 ≤ l) (h : (cutS z (some (a : Int)) (some ((a : Int) + (l : Nat)))).length = l) : a + l ≤ z.length := by
  have e : ((a : Int) + (l : Nat)) = ((a + l : Nat) : Int) := by omega
  rw [e] at h
  unfold cutS at h
  rw [HT.sIx_nat, HT.sIx_nat, SX.S_len, List.length_take, List.length_drop] at h
  have hz : z.cps.toList.length = z.length := rfl
  omega
theorem okPrt_bd {text : Str} {size : Int} {p : Prt} (h : okPrt text size p = true) : 0 ≤ p.1 ∧ 1 ≤ p.2.length ∧ (p.2.length : Int) ≤ size ∧ p.1 + p.2.length ≤ text.length := by
  unfold okPrt at h
  simp only [Bool.and_eq_true, decide_eq_true_eq] at h
  obtain ⟨⟨⟨h1, h2⟩, h3⟩, h4⟩ := h
  refine ⟨h1, h2, h3, ?_⟩
  have e : p.1 = ((p.1.toNat : Nat) : Int) := by omega
  have := cutS_len_le text p.1.toNat p.2.length h2 (by rw [← e, h4])
  omega
/-- the walk of are_parts over parts in form -/
def walkP : Int → Int → List Prt → Option Int
  | last, there, [] => some there
  | last, there, p :: ps => if p.1 ≤ last ∨ p.1 > there then none else walkP p.1 (max there (p.1 + p.2.length)) ps
def areS (text : Str) (size : Int) : PyData → Bool
  | .tuple ds => ds.all (isPartS text size) && decide (walkP (-1) 0 (ds.filterMap prtOf) = some (text.length : Int))
  | _ => false
/-- the law's own: rising, every sign covered -/
def risesP : Int → List Prt → Bool
  | _, [] => true
  | last, p :: ps => decide (last < p.1) && risesP p.1 ps
def covP (ps : List Prt) (j : Nat) : Bool := ps.any fun p => decide (p.1 ≤ (j : Int)) && decide ((j : Int) < p.1 + p.2.length)
def goodS (text : Str) (size : Int) : PyData → Bool
  | .tuple ds => ds.all (isPartS text size) && risesP (-1) (ds.filterMap prtOf) && (List.range text.length).all (covP (ds.filterMap prtOf))
  | _ => false
/-- where the walk goes through, all up to its end is covered, and it rises -/
theorem walk_some : ∀ (ps : List Prt) (last there e : Int), (∀ p ∈ ps, 0 ≤ p.1 ∧ 1 ≤ p.2.length) → walkP last there ps = some e → risesP last ps = true ∧ there ≤ e ∧ ∀ j : Nat, there ≤ (j : Int) → (j : Int) < e → covP ps j = true
  | [], last, there, e, _, h => by
    have : there = e := Option.some.inj h
    subst this
    exact ⟨rfl, Int.le_refl _, fun j h1 h2 => by omega⟩
  | p :: ps, last, there, e, hp, h => by
    unfold walkP at h
    split at h
    · cases h
    · rename_i hc
      have hc : last < p.1 ∧ p.1 ≤ there := by omega
      obtain ⟨h1, h2, h3⟩ := walk_some ps p.1 _ e (fun q hq => hp q (List.mem_cons_of_mem _ hq)) h
      refine ⟨?_, by omega, fun j j1 j2 => ?_⟩
      · unfold risesP
        rw [h1, decide_eq_true hc.1]
        rfl
      · unfold covP
        rw [List.any_cons]
        by_cases hj : (j : Int) < p.1 + p.2.length
        · rw [decide_eq_true (show p.1 ≤ (j : Int) by omega), decide_eq_true hj]
          rfl
        · have := h3 j (by omega) j2
          unfold covP at this
          rw [this, Bool.or_true]
/-- rising and covered: the walk goes through to the end -/
theorem walk_cov (n : Nat) : ∀ (ps : List Prt) (last there : Int), 0 ≤ there → there ≤ n → (∀ p ∈ ps, 0 ≤ p.1 ∧ 1 ≤ p.2.length ∧ p.1 + p.2.length ≤ n) → risesP last ps = true → (∀ j : Nat, there ≤ (j : Int) → j < n → covP ps j = true) → walkP last there ps = some (n : Int)
  | [], last, there, t0, t1, _, _, hc => by
    unfold walkP
    by_cases h : there = n
    · rw [h]
    · have := hc there.toNat (by omega) (by omega)
      cases this
  | p :: ps, last, there, t0, t1, hp, hr, hc => by
    unfold risesP at hr
    rw [Bool.and_eq_true, decide_eq_true_eq] at hr
    have hb := hp p List.mem_cons_self
    have far : ∀ (qs : List Prt) (l : Int), risesP l qs = true → ∀ q ∈ qs, l < q.1 := by
      intro qs
      induction qs with
      | nil => exact fun l _ q hq => by cases hq
      | cons x xs ih =>
        intro l h q hq
        unfold risesP at h
        rw [Bool.and_eq_true, decide_eq_true_eq] at h
        rcases List.mem_cons.mp hq with rfl | hq
        · exact h.1
        · have := ih x.1 h.2 q hq
          omega
    have hle : p.1 ≤ there := by
      by_cases h : p.1 ≤ there
      · exact h
      · have := hc there.toNat (by omega) (by omega)
        unfold covP at this
        rw [List.any_cons, Bool.or_eq_true] at this
        rcases this with h1 | h1
        · rw [Bool.and_eq_true, decide_eq_true_eq, decide_eq_true_eq] at h1
          omega
        · obtain ⟨q, hq, h2⟩ := List.any_eq_true.mp h1
          rw [Bool.and_eq_true, decide_eq_true_eq, decide_eq_true_eq] at h2
          have := far ps p.1 hr.2 q hq
          omega
    unfold walkP
    rw [if_neg (by omega)]
    refine walk_cov n ps p.1 _ (by omega) (by omega) (fun q hq => hp q (List.mem_cons_of_mem _ hq)) hr.2 fun j j1 j2 => ?_
    have := hc j (by omega) j2
    unfold covP at this ⊢
    rw [List.any_cons, Bool.or_eq_true] at this
    rcases this with h1 | h1
    · rw [Bool.and_eq_true, decide_eq_true_eq, decide_eq_true_eq] at h1
      omega
    · exact h1
theorem are_good (text : Str) (size : Int) (d : PyData) : areS text size d = goodS text size d := by
  cases d with
  | tuple ds =>
    show (ds.all (isPartS text size) && decide (walkP (-1) 0 (ds.filterMap prtOf) = some (text.length : Int))) = (ds.all (isPartS text size) && risesP (-1) (ds.filterMap prtOf) && (List.range text.length).all (covP (ds.filterMap prtOf)))
    cases ha : ds.all (isPartS text size) with
    | false => rfl
    | true =>
      have hb : ∀ p ∈ ds.filterMap prtOf, 0 ≤ p.1 ∧ 1 ≤ p.2.length ∧ p.1 + p.2.length ≤ text.length := fun p hp => by
        obtain ⟨x, hx, e⟩ := List.mem_filterMap.mp hp
        have h1 := List.all_eq_true.mp ha x hx
        unfold isPartS at h1
        rw [e] at h1
        have := okPrt_bd h1
        omega
      rw [Bool.true_and, Bool.true_and]
      rw [Bool.eq_iff_iff, decide_eq_true_eq, Bool.and_eq_true, List.all_eq_true]
      constructor
      · intro h
        obtain ⟨h1, h2, h3⟩ := walk_some _ _ _ _ (fun p hp => ⟨(hb p hp).1, (hb p hp).2.1⟩) h
        exact ⟨h1, fun j hj => h3 j (by omega) (by have := List.mem_range.mp hj; omega)⟩
      · rintro ⟨h1, h2⟩
        exact walk_cov text.length _ _ _ (by omega) (by omega) hb h1 fun j _ j2 => h2 j (List.mem_range.mpr j2)
  | _ => rfl
end Wn

set_option maxHeartbeats 2000000
namespace Wn
open PySem L2
abbrev sWhole : Stmt := top 1
abbrev sIsPart : Stmt := top 3
abbrev sAre : Stmt := top 4
structure TB (mg : Str → Option Value) : Prop where
  isinstance : mg "isinstance" = none
  tuple : mg "tuple" = none
  bool : mg "bool" = none
  str : mg "str" = none
  int : mg "int" = none
  all : mg "all" = none
  len : mg "len" = none
  range : mg "range" = none
  max : mg "max" = none
  list : mg "list" = none
def spWholeA (K : PySem.W.Frag) : Sp := fun vs H Q _ => ∃ (v : V) (d : PyData), vs = [v] ∧ Dp K H v d ∧ Q (.bl (decide (tyN d = "int"))) H
/-- texts in it are no longer than n, at the uppermost places -/
def ShortP (n : Nat) : PyData → Prop
  | .tuple ds => ∀ z, .str z ∈ ds → z.length ≤ n
  | _ => True
def spIsPartA (K : PySem.W.Frag) : Sp := fun vs H Q _ => ∃ (z : Str) (size : Int) (v : V) (d : PyData), vs = [.str z, .int size, v] ∧ Dp K H v d ∧ z.length ≤ 1000 ∧ ShortP 1000 d ∧ Q (.bl (isPartS z size d)) H
def ShortPs (n : Nat) : PyData → Prop
  | .tuple ds => (∀ d ∈ ds, ShortP n d) ∧ ds.length ≤ n
  | _ => True
def spAreA (K : PySem.W.Frag) : Sp := fun vs H Q _ => ∃ (z : Str) (size : Int) (v : V) (d : PyData), vs = [.str z, .int size, v] ∧ AnyAt K H v d ∧ z.length ≤ 1000 ∧ ShortPs 1000 d ∧ ∀ H', Same H H' → Q (.bl (areS z size d)) H'

section
variable {P : Program} {w : World} {K : PySem.W.Frag} {mg : Str → Option Value} {base : Heap}
theorem prt3 (a b c : PyData) (ds : List PyData) : prtOf (.tuple (a :: b :: c :: ds)) = none := by
  cases a <;> first | rfl | (cases b <;> rfl)
theorem prt1 (a : PyData) : prtOf (.tuple [a]) = none := by
  cases a <;> rfl
theorem scWhole : FnScope ["thing"] ["thing"] (defScope sWhole) := ⟨rfl, rfl, rfl, by decide +kernel, rfl, by decide +kernel, by decide +kernel⟩
theorem ok_whole {f : Addr} {fd : FuncData} (F : Fun K "is_whole" "is_whole" sWhole f fd) (B : TB mg) : FnOk P w K mg base CX0 1 f fd ["thing"] (spWholeA K) := by
  refine F.ok scWhole (fun vs H Q E h => ?_) (fun cdv A outer s H vs Q E hr h => ?_)
  · obtain ⟨v, d, rfl, _⟩ := h
    rfl
  · obtain ⟨v, d, rfl, hd, k⟩ := h
    refine ⟨_, (pss_one (ps_ret (pe_and (pe_callB (isiK (K := K) rfl) (by rfl) B.isinstance (by decide +kernel) (pa_cons (pv 0) (pa_cons (pe_bltn (v := .ty "int") (by rfl) B.int PyProof.Rows.boot_int rfl) pa_nil))) (pe_one (pe_not (pe_callB (isiK (K := K) rfl) (by rfl) B.isinstance (by decide +kernel) (pa_cons (pv 0) (pa_cons (pe_bltn (v := .ty "bool") (by rfl) B.bool PyProof.Rows.boot_bool rfl) pa_nil)))))))), ?_⟩
    have ty := Wn.Dp.ty hd
    refine ⟨_, rfl, _, _, _, _, _, rfl, .ty _, ty, kit_int d, _, rfl, ?_⟩
    refine ite2 (fun hc => ?_) (fun hc => ?_)
    · refine ⟨_, rfl, _, _, _, _, _, rfl, .ty _, ty, kit_bool d, _, rfl, ?_⟩
      have e : (!decide (tyN d = "bool")) = decide (tyN d = "int") := by cases d <;> first | rfl | cases hc
      rw [e]
      exact k
    · have e : decide (tyN d = "int") = false := by
        cases d <;> first | rfl | exact absurd rfl hc
      rw [e] at k
      exact k
theorem scIsPart : FnScope ["text", "size", "thing", "first", "signs"] ["text", "size", "thing"] (defScope sIsPart) := ⟨rfl, rfl, rfl, by decide +kernel, rfl, by decide +kernel, by decide +kernel⟩
theorem ok_ispart {f : Addr} {fd : FuncData} (F : Fun K "is_part" "is_part" sIsPart f fd) (B : TB mg) (cW : Cd P w K mg base 1 "is_whole" ["thing"] (spWholeA K)) : FnOk P w K mg base CX0 2 f fd ["text", "size", "thing"] (spIsPartA K) := by
  obtain ⟨fW, fdW, GW, mW, kW, bW⟩ := cW
  refine F.ok scIsPart (fun vs H Q E h => ?_) (fun cdv A outer s H vs Q E hr h => ?_)
  · obtain ⟨z, size, v, d, rfl, _⟩ := h
    rfl
  · obtain ⟨z, size, v, d, rfl, hd, hz, hsh, k⟩ := h
    have hr1 : Room 1 _ := hr
    refine ⟨_, (pss_cons (ps_if (PW.pt (pw_or (pt_not (pt_val (pe_callB (isiK (K := K) rfl) (by rfl) B.isinstance (by decide +kernel) (pa_cons (pv 2) (pa_cons (pe_bltn (v := .ty "tuple") (by rfl) B.tuple PyProof.Rows.boot_tuple rfl) pa_nil))))) (pw_or1 (pt_cmpR op_ne (pe_callB (lenK (K := K) rfl) (by rfl) B.len PySem.boot_len (pa_cons (pv 2) pa_nil)) pe_int (nomark _)))))
       (pss_one (ps_ret pe_bl))
       pss_nil)
       (pss_cons (ps_if (PW.pt (pw_or (pt_not (pt_val (pe_call GW hr1 rfl mW kW bW .nil pass0 (pa_cons (pe_ix (ixT (K := K) rfl) (pv 2) pe_int (fun _ _ => rfl)) pa_nil)))) (pw_or1 (pt_not (pt_val (pe_callB (isiK (K := K) rfl) (by rfl) B.isinstance (by decide +kernel) (pa_cons (pe_ix (ixT (K := K) rfl) (pv 2) pe_int (fun _ _ => rfl)) (pa_cons (pe_bltn (v := .ty "str") (by rfl) B.str PyProof.Rows.boot_str rfl) pa_nil))))))))
       (pss_one (ps_ret pe_bl))
       pss_nil)
       (pss_cons (ps_asg (pv 2) (pg_tup rfl (pgs_cons (pg_name (i := 3) scIsPart.nd rfl (Or.inl rfl)) (pgs_cons (pg_name (i := 4) scIsPart.nd rfl (Or.inl rfl)) pgs_nil))))
       (pss_one (ps_ret (pe_and (pe_cmpR op_le pe_int (pv 3) (nomark _)) (pe_and (pe_chain op_le op_le pe_int (pe_callB (lenK (K := K) rfl) (by rfl) B.len PySem.boot_len (pa_cons (pv 4) pa_nil)) (pv 1)) (pe_one (pe_cmpR op_eq (pe_slice sl_str (pv 0) (po_some (pv 3)) (po_some (pe_op op_add (pv 3) (pe_callB (lenK (K := K) rfl) (by rfl) B.len PySem.boot_len (pa_cons (pv 4) pa_nil))))) (pv 4) (nomark _)))))))))), ?_⟩
    have hzs : z.length ≤ sizeLine := Nat.le_trans hz (by decide)
    cases hd with
    | non => exact ⟨_, rfl, _, _, _, _, false, rfl, .ty _, .base .non, kit_ty (by decide +kernel), _, rfl, iteT (iteT k)⟩
    | bl b => exact ⟨_, rfl, _, _, _, _, false, rfl, .ty _, .base (.bl b), kit_ty (by decide +kernel), _, rfl, iteT (iteT k)⟩
    | int i => exact ⟨_, rfl, _, _, _, _, false, rfl, .ty _, .base (.int i), kit_ty (by decide +kernel), _, rfl, iteT (iteT k)⟩
    | str x => exact ⟨_, rfl, _, _, _, _, false, rfl, .ty _, .base (.str x), kit_ty (by decide +kernel), _, rfl, iteT (iteT k)⟩
    | lst h1 h2 => exact ⟨_, rfl, _, _, _, _, false, rfl, .ty _, Wn.Dp.ty (.lst h1 h2), kit_ty (a := "list") (by decide +kernel), _, rfl, iteT (iteT k)⟩
    | @tup a xs ds ha hall =>
      refine ⟨_, rfl, _, _, _, _, true, rfl, .ty _, ty_tup ha, kit_ty (by decide +kernel), _, rfl, iteF ?_⟩
      refine ⟨_, rfl, _, xs.length, rfl, .inr ⟨_, ha, rfl⟩, rfl, _, rfl, ?_⟩
      have bad : prtOf (.tuple ds) = none → Q (.bl false) H := fun e => by
        unfold isPartS at k
        rw [e] at k
        exact k
      cases hall with
      | nil => exact iteT (bad rfl)
      | cons h0 hall =>
        cases hall with
        | nil => exact iteT (bad (prt1 _))
        | cons h1 hall =>
          cases hall with
          | cons h2 hall =>
            refine ite2 (fun _ => bad (prt3 _ _ _ _)) (fun hc => absurd ?_ hc)
            rw [Bool.not_eq_true', decide_eq_false_iff_not]
            intro z
            injection z with z
            simp only [List.length_cons] at z
            omega
          | @nil =>
            rename_i x0 d0 x1 d1
            refine iteNS rfl ?_
            refine ⟨_, rfl, a, _, _, x0, rfl, rfl, ha, rfl, x0, d0, rfl, h0, ?_⟩
            refine ⟨_, rfl, ?_⟩
            by_cases e0 : tyN d0 = "int"
            · rw [decide_eq_true e0]
              refine iteF ?_
              refine ⟨_, rfl, a, _, _, x1, rfl, rfl, ha, rfl, _, _, _, _, _, rfl, .ty _, Wn.Dp.ty h1, kit_str d1, _, rfl, ?_⟩
              by_cases e1 : tyN d1 = "str"
              · rw [decide_eq_true e1]
                refine iteF ?_
                cases h0 with
                | int i =>
                  cases h1 with
                  | str x =>
                    have hx : x.length ≤ 1000 := hsh x (List.mem_cons_of_mem _ List.mem_cons_self)
                    have hxs : x.length ≤ sizeLine := Nat.le_trans hx (by decide)
                    refine ⟨_, rfl, a, _, rfl, ha, rfl, _, _, rfl, _, _, rfl, rfl, ?_⟩
                    have k : Q (.bl (okPrt z size (i, x))) H := k
                    unfold okPrt at k
                    refine ⟨_, rfl, _, _, rfl, rfl, _, rfl, ?_⟩
                    refine ite2 (fun c1 => ?_) (fun c1 => ?_)
                    · have c1 := of_decide_eq_true c1
                      rw [decide_eq_true (show (0 : Int) ≤ i from c1), Bool.true_and] at k
                      refine ⟨_, rfl, _, x.length, rfl, ⟨hxs, rfl⟩, _, _, rfl, rfl, _, rfl, ?_⟩
                      refine ite2 (fun c2 => ?_) (fun c2 => ?_)
                      · have c2 : (1 : Int) ≤ (x.length : Int) := of_decide_eq_true c2
                        rw [decide_eq_true (show 1 ≤ x.length by omega), Bool.true_and] at k
                        refine ⟨_, rfl, _, _, rfl, rfl, _, rfl, ?_⟩
                        refine ite2 (fun c3 => ?_) (fun c3 => ?_)
                        · have c3 : (x.length : Int) ≤ size := of_decide_eq_true c3
                          rw [decide_eq_true c3, Bool.true_and] at k
                          refine ⟨_, rfl, _, rfl, _, rfl, _, rfl, _, rfl, _, x.length, rfl, ⟨hxs, rfl⟩, _, _, rfl, rfl, _, rfl, _, rfl, hzs, _, rfl, rfl, ?_⟩
                          have e : decide (V.str (cutS z (some i) (some (i + (x.length : Int)))) = V.str x) = decide (cutS z (some i) (some (i + (x.length : Int))) = x) := decide_eq_decide.mpr ⟨fun h => by injection h, fun h => by rw [h]⟩
                          show Q (.bl (decide (V.str (cutS z (some i) (some (i + (x.length : Int)))) = V.str x))) H
                          rw [e]
                          exact k
                        · have c3 : ¬ (x.length : Int) ≤ size := fun z => c3 (decide_eq_true z)
                          rw [decide_eq_false c3, Bool.false_and] at k
                          exact k
                      · have c2 : ¬ 1 ≤ x.length := fun z => c2 (decide_eq_true (by show (1 : Int) ≤ (x.length : Int); omega))
                        rw [decide_eq_false c2, Bool.false_and, Bool.false_and] at k
                        exact ⟨_, rfl, iteF k⟩
                    · have c1 : ¬ (0 : Int) ≤ i := fun z => c1 (decide_eq_true z)
                      rw [decide_eq_false c1, Bool.false_and, Bool.false_and, Bool.false_and] at k
                      exact k
                  | _ => simp [tyN] at e1
                | _ => simp [tyN] at e0
              · rw [decide_eq_false e1]
                refine iteT (bad ?_)
                cases d0 <;> first | rfl | (cases d1 <;> first | rfl | exact absurd rfl e1)
            · rw [decide_eq_false e0]
              refine iteT (iteT (bad ?_))
              cases d0 <;> first | rfl | exact absurd rfl e0
/-- [truth of x for x in xs] -/
theorem mapB_it {J : It} {G : Hp → Prop} {te : TE} {i : Nat} {σ : L2.St} {H2 : Hp} {D : Addr} {xs : List V} {Qd : Hp → Prop} (w : Walk J xs.length G (YAt xs)) (hG : ∀ H', Same H2 H' → G H') (f : Nat → Bool) (hD : H2 D = none) (hl : xs.length ≤ 1000000)
    (hte : ∀ (j : Nat) (x : V) (H' : Hp) (Q : VK), xs[j]? = some x → Same H2 H' → (∀ H'', Same H' H'' → Q (.bl (f j)) H'') → te (σ.set i (some x)) H' Q)
    (hd : ∀ (H' : Hp), Same H2 H' → H' D = some (.lst (((List.range xs.length).map f).map V.bl)) → Qd H') :
    ∃ W : Nat → Nat → Hp → Prop, (∃ m, W 0 m (upd H2 D (.lst []))) ∧ ∀ j m H, W j m H →
      (J.stop j H ∧ Qd H) ∨ (J.go j H ∧ ∃ Nx : Hp → Prop, (∀ H', Nx H' → ∃ m', m' < m ∧ W (j + 1) m' H') ∧ ∀ x H', J.yld j H x H' → gName i x (wipe σ [i]) H' fun σ2 H2 => wipe σ2 [i] = wipe σ [i] ∧ tYes σ2 H2 fun b H3 =>
        if b = true then te σ2 H3 fun y H4 => ∃ acc, H4 D = some (.lst acc) ∧ acc.length < sizeLine ∧ Nx (upd H4 D (.lst (acc ++ [y]))) else Nx H3) := by
  refine lc_it w (fun j H => Same H2 H ∧ H D = some (.lst (((List.range j).map f).map V.bl)))
    ⟨(L2.Same.refl H2).new hD, upd_same⟩ (fun j H _ ⟨s, _⟩ => hG H s) ?_ ?_
  · rintro j x H3 H3' hj ⟨s3, hD3⟩ ⟨rfl, hx⟩
    show wipe ((wipe σ [i]).set i (some x)) [i] = wipe σ [i] ∧ _
    rw [set_wipe]
    refine ⟨wipe_set, tYes_t (iteT ?_)⟩
    refine hte j x H3' _ hx s3 fun H4 s4 => ⟨_, s4 _ _ hD3, ?_, (s3.trans s4).wrn hD, ?_⟩
    · rw [List.length_map, List.length_map, List.length_range]
      exact Nat.lt_of_le_of_lt (show j ≤ 1000000 by omega) (by decide)
    · rw [upd_same, List.range_succ, List.map_append, List.map_append]
      rfl
  · rintro H3 ⟨s3, hD3⟩
    exact hd H3 s3 hD3
def prtD (p : Prt) : PyData := .tuple [.int p.1, .str p.2]
theorem prtOf_D (p : Prt) : prtOf (prtD p) = some p := rfl
theorem prtOf_inv {d : PyData} {p : Prt} (h : prtOf d = some p) : d = prtD p := by
  unfold prtOf at h
  split at h
  · cases h
    rfl
  · cases h
theorem parts_of {text : Str} {size : Int} : ∀ {ds : List PyData}, ds.all (isPartS text size) = true → ∃ ps : List Prt, ds = ps.map prtD ∧ ds.filterMap prtOf = ps
  | [], _ => ⟨[], rfl, rfl⟩
  | d :: ds, h => by
    rw [List.all_cons, Bool.and_eq_true] at h
    obtain ⟨ps, e1, e2⟩ := parts_of h.2
    unfold isPartS at h
    cases e : prtOf d with
    | none =>
      rw [e] at h
      cases h.1
    | some p => exact ⟨p :: ps, by rw [List.map_cons, ← e1, prtOf_inv e], by rw [List.filterMap_cons, e]; exact congrArg _ e2⟩
theorem all_range {ds : List PyData} {g : PyData → Bool} : (((List.range ds.length).map fun j => match ds[j]? with | some d => g d | none => true).all id) = ds.all g := by
  rw [Bool.eq_iff_iff, List.all_eq_true, List.all_eq_true]
  constructor
  · intro h d hd
    obtain ⟨i, hi, rfl⟩ := List.mem_iff_getElem.mp hd
    have := h _ (List.mem_map.mpr ⟨i, List.mem_range.mpr hi, rfl⟩)
    rw [List.getElem?_eq_getElem hi] at this
    exact this
  · intro h b hb
    obtain ⟨i, hi, rfl⟩ := List.mem_map.mp hb
    have hi := List.mem_range.mp hi
    rw [List.getElem?_eq_getElem hi]
    exact h _ (List.getElem_mem hi)
theorem scAre : FnScope ["text", "size", "thing", "there", "last", "first", "signs", "part"] ["text", "size", "thing"] (defScope sAre) := ⟨rfl, rfl, rfl, by decide +kernel, rfl, by decide +kernel, by decide +kernel⟩
theorem ok_are {f : Addr} {fd : FuncData} (F : Fun K "are_parts" "are_parts" sAre f fd) (B : TB mg) (cP : Cd P w K mg base 2 "is_part" ["text", "size", "thing"] (spIsPartA K)) : FnOk P w K mg base CX0 3 f fd ["text", "size", "thing"] (spAreA K) := by
  obtain ⟨fP, fdP, GP, mP, kP, bP⟩ := cP
  refine F.ok scAre (fun vs H Q E h => ?_) (fun cdv A outer s H vs Q E hr h => ?_)
  · obtain ⟨z, size, v, d, rfl, _⟩ := h
    rfl
  · obtain ⟨z, size, v, d, rfl, hd, hz, hsh, k⟩ := h
    have hr2 : Room 2 _ := hr
    refine ⟨_, (pss_cons (ps_if (PW.pt (pw_or (pt_not (pt_val (pe_callB (isiK (K := K) rfl) (by rfl) B.isinstance (by decide +kernel) (pa_cons (pv 2) (pa_cons (pe_bltn (v := .ty "tuple") (by rfl) B.tuple PyProof.Rows.boot_tuple rfl) pa_nil))))) (pw_or1 (pt_not (pt_val (pe_callB (crAllK (K := K) rfl rfl) (by rfl) B.all (by decide +kernel) (pa_cons (pe_lc (own := [("part", 7)]) (g := (gName 7)) (tt := tYes) rfl scAre.nd (pi_tup (pv 2)) (blkOk_by (N := ["text", "size", "thing", "there", "last", "first", "signs", "part"]) (sc := defScope sAre) (by decide +kernel))
       (fun _ _ _ _ _ => (pg_name (i := 7) scAre.nd rfl (Or.inl rfl))) (fun _ _ _ _ _ => pts_nil) (fun _ _ _ _ _ => (pe_call GP hr2 rfl mP kP bP .nil pass0 (pa_cons (pv 0) (pa_cons (pv 1) (pa_cons (pv 7) pa_nil)))))) pa_nil)))))))
       (pss_one (ps_ret pe_bl))
       pss_nil)
       (pss_cons (ps_set (i := 3) scAre.nd rfl (Or.inl rfl) pe_int)
       (pss_cons (ps_set (i := 4) scAre.nd rfl (Or.inl rfl) (pe_un un_neg pe_int))
       (pss_cons (ps_for PassesOwn.never rfl (pi_tup (pv 2)) (pg_tup rfl (pgs_cons (pg_name (i := 5) scAre.nd rfl (Or.inl rfl)) (pgs_cons (pg_name (i := 6) scAre.nd rfl (Or.inl rfl)) pgs_nil)))
       (pss_cons (ps_if (PW.pt (pw_or (pt_cmpR op_le (pv 5) (pv 4) (nomark _)) (pw_or1 (pt_cmpR op_gt (pv 5) (pv 3) (nomark _)))))
       (pss_one (ps_ret pe_bl))
       pss_nil)
       (pss_cons (ps_set (i := 4) scAre.nd rfl (Or.inl rfl) (pv 5))
       (pss_one (ps_set (i := 3) scAre.nd rfl (Or.inl rfl) (pe_callB (call_max2 rfl) (by rfl) B.max (by decide +kernel) (pa_cons (pv 3) (pa_cons (pe_op op_add (pv 5) (pe_callB (lenK (K := K) rfl) (by rfl) B.len PySem.boot_len (pa_cons (pv 6) pa_nil))) pa_nil))))))))
       (pss_one (ps_ret (pe_cmpR op_eq (pv 3) (pe_callB (lenK (K := K) rfl) (by rfl) B.len PySem.boot_len (pa_cons (pv 0) pa_nil)) (nomark _)))))))), ?_⟩
    have hzs : z.length ≤ sizeLine := Nat.le_trans hz (by decide)
    have k0 := k H (L2.Same.refl _)
    rcases hd with hd | ⟨rfl, a, rfl, hd⟩
    rotate_left
    · exact ⟨_, rfl, _, _, _, _, false, rfl, .ty _, .base (.dK hd), kit_ty (by decide +kernel), _, rfl, iteT (iteT k0)⟩
    cases hd with
    | non => exact ⟨_, rfl, _, _, _, _, false, rfl, .ty _, .base .non, kit_ty (by decide +kernel), _, rfl, iteT (iteT k0)⟩
    | bl b => exact ⟨_, rfl, _, _, _, _, false, rfl, .ty _, .base (.bl b), kit_ty (by decide +kernel), _, rfl, iteT (iteT k0)⟩
    | int i => exact ⟨_, rfl, _, _, _, _, false, rfl, .ty _, .base (.int i), kit_ty (by decide +kernel), _, rfl, iteT (iteT k0)⟩
    | str x => exact ⟨_, rfl, _, _, _, _, false, rfl, .ty _, .base (.str x), kit_ty (by decide +kernel), _, rfl, iteT (iteT k0)⟩
    | lst h1 h2 => exact ⟨_, rfl, _, _, _, _, false, rfl, .ty _, Wn.Dp.ty (.lst h1 h2), kit_ty (a := "list") (by decide +kernel), _, rfl, iteT (iteT k0)⟩
    | @tup a xs ds ha hall =>
      have lx := Wn.DpAll.len hall
      obtain ⟨hsp, hln⟩ := (show (∀ d ∈ ds, ShortP 1000 d) ∧ ds.length ≤ 1000 from hsh)
      refine ⟨_, rfl, _, _, _, _, true, rfl, .ty _, ty_tup ha, kit_ty (by decide +kernel), _, rfl, iteF ?_⟩
      refine ⟨_, rfl, a, rfl, ⟨_, ha⟩, fun D nD => ?_⟩
      refine mapB_it (i := 7) (walk_tup (K := K) (a := a) (xs := xs)) (fun H' s' => SqT.tk ha (TK.of s')) (fun j => match ds[j]? with | some d => isPartS z size d | none => true) nD (by omega) ?_ ?_
      · intro j x H' Q' hx s' hQ
        obtain ⟨d, ed, hdx⟩ := Wn.DpAll.get hall hx
        have e : (match ds[j]? with | some d => isPartS z size d | none => true) = isPartS z size d := by rw [ed]
        refine ⟨_, rfl, _, rfl, _, rfl, z, size, x, d, rfl, Wn.Dp.sm s' hdx, hz, hsp d (List.mem_of_getElem? ed), ?_⟩
        have := hQ H' (L2.Same.refl _)
        rw [e] at this
        exact this
      · intro H1 s1 hD1
        refine ⟨D, _, rfl, SqL.of hD1, _, rfl, ?_⟩
        rw [lx, all_range]
        cases hal : ds.all (isPartS z size) with
        | false =>
          have k1 := k H1 s1
          have e : areS z size (.tuple ds) = false := by
            show (ds.all (isPartS z size) && _) = false
            rw [hal]
            rfl
          rw [e] at k1
          exact iteT k1
        | true =>
          refine iteF ?_
          obtain ⟨ps, rfl, ep⟩ := parts_of hal
          have eA : areS z size (.tuple (ps.map prtD)) = decide (walkP (-1) 0 ps = some (z.length : Int)) := by
            show ((ps.map prtD).all (isPartS z size) && decide (walkP (-1) 0 ((ps.map prtD).filterMap prtOf) = some (z.length : Int))) = _
            rw [hal, ep, Bool.true_and]
          rw [eA] at k
          have k1 := k H1 s1
          refine ⟨1, rfl, ?_⟩
          refine ⟨_, rfl, a, rfl, ⟨_, SqT.tk ha (TK.of s1)⟩, ?_⟩
          rw [List.length_map] at lx
          have sps : ∀ p ∈ ps, p.2.length ≤ 1000 := fun p hp => hsp (prtD p) (List.mem_map.mpr ⟨p, hp, rfl⟩) p.2 (List.mem_cons_of_mem _ List.mem_cons_self)
          refine for_tup (K := K) (a := a) (xs := xs) (fun i σ H' => ∃ (last there : Int) (v5 v6 : Option V), σ = [some (.str z), some (.int size), some (.ref a), some (.int there), some (.int last), v5, v6, none] ∧ H' = H1 ∧ walkP (-1) 0 ps = walkP last there (ps.drop i)) ⟨-1, 0, _, _, rfl, rfl, by rw [List.drop_zero]⟩ (fun i σ H' _ ⟨_, _, _, _, _, e, _⟩ => by rw [e]; exact SqT.tk ha (TK.of s1)) ?_ ?_
          · rintro i x σ H2 hxi ⟨last, there, v5, v6, rfl, rfl, ew⟩
            have hi : i < ps.length := by
              have q := (List.getElem?_eq_some_iff.mp hxi).1
              omega
            obtain ⟨d, ed, hdx⟩ := Wn.DpAll.get hall hxi
            rw [List.getElem?_map, List.getElem?_eq_getElem hi] at ed
            have ed : prtD ps[i] = d := Option.some.inj ed
            subst ed
            have hpi := sps ps[i] (List.getElem_mem hi)
            have edr : ps.drop i = ps[i] :: ps.drop (i + 1) := List.drop_eq_getElem_cons hi
            rw [edr] at ew
            generalize ps[i] = p at hdx hpi ew
            unfold prtD at hdx
            cases hdx with
            | @tup t ys _ ht hys =>
              cases hys with
              | cons g0 hys =>
                cases hys with
                | cons g1 hys =>
                  cases hys
                  cases g0
                  cases g1
                  refine ⟨t, _, rfl, SqT.tk ht (TK.of s1), rfl, _, _, rfl, _, _, rfl, rfl, ?_⟩
                  refine ⟨_, rfl, _, rfl, _, _, rfl, rfl, _, rfl, ?_⟩
                  refine ite2 (fun c => ?_) (fun c => ?_)
                  · have c := of_decide_eq_true c
                    rw [ew] at k1
                    unfold walkP at k1
                    rw [if_pos (.inl c)] at k1
                    exact iteT k1
                  · have c : ¬ p.1 ≤ last := fun z => c (decide_eq_true z)
                    refine ⟨_, rfl, _, rfl, _, _, rfl, rfl, _, rfl, ?_⟩
                    refine ite2 (fun c2 => ?_) (fun c2 => ?_)
                    · have c2 : there < p.1 := of_decide_eq_true c2
                      rw [ew] at k1
                      unfold walkP at k1
                      rw [if_pos (.inr c2)] at k1
                      exact k1
                    · have c2 : ¬ there < p.1 := fun z => c2 (decide_eq_true z)
                      refine ⟨_, rfl, ?_⟩
                      refine ⟨_, rfl, _, rfl, _, rfl, _, p.2.length, rfl, ⟨Nat.le_trans hpi (by decide), rfl⟩, _, _, rfl, rfl, _, _, rfl, ?_⟩
                      refine ⟨p.1, _, _, _, rfl, rfl, ?_⟩
                      rw [ew]
                      show walkP last there (p :: ps.drop (i + 1)) = _
                      rw [walkP, if_neg (by omega)]
                      congr 1
                      show max there (p.1 + p.2.length) = if p.1 + (p.2.length : Int) > there then p.1 + (p.2.length : Int) else there
                      split <;> omega
          · rintro σ H2 ⟨last, there, v5, v6, rfl, rfl, ew⟩
            rw [lx, List.drop_length] at ew
            have ew : walkP (-1) 0 ps = some there := ew
            rw [ew] at k1
            refine ⟨_, rfl, _, rfl, _, z.length, rfl, ⟨hzs, rfl⟩, rfl, ?_⟩
            have e : decide (V.int there = V.int (z.length : Int)) = decide (some there = some (z.length : Int)) := decide_eq_decide.mpr ⟨fun h => by injection h with h; rw [h], fun h => by injection h with h; rw [h]⟩
            show Q (.bl (decide (V.int there = V.int (z.length : Int)))) H2
            rw [e]
            exact k1
end
end Wn

namespace Wn
open PySem L2
open SX (S S_len S_cat S_beq_eq join_S)
abbrev sSign : Stmt := top 9
abbrev sText : Stmt := top 10

def allSigns : Str := Str.ofString " !\"#$&'()*+,-./0123456789:;<=>?@ABCDEFGHIJKLMNOPQRSTUVWXYZ[\\]^_" ++ Str.ofString "`abcdefghijklmnopqrstuvwxyz{|}~"
theorem allSigns_len : allSigns.cps.toList.length = 94 := by decide +kernel
theorem allSigns_ok : (allSigns.cps.toList.all fun c => decide (32 ≤ c) && decide (c ≤ 126) && decide (c ≠ 37)) = true := by decide +kernel
theorem allSigns_sz : (Str.ofString " !\"#$&'()*+,-./0123456789:;<=>?@ABCDEFGHIJKLMNOPQRSTUVWXYZ[\\]^_").length + (Str.ofString "`abcdefghijklmnopqrstuvwxyz{|}~").length ≤ sizeLine := by decide +kernel
theorem allSigns_sz2 : allSigns.length ≤ sizeLine := by decide +kernel
section
variable {P : Program} {w : World} {K : PySem.W.Frag} {mg : Str → Option Value} {base : Heap}
theorem scSign : FnScope ["_law_deck_here", "_law_some"] ["_law_deck_here"] (defScope sSign) := ⟨rfl, rfl, rfl, by decide +kernel, rfl, by decide +kernel, by decide +kernel⟩
theorem ok_sign {f : Addr} {fd : FuncData} (F : Fun K "_law_sign" "_law_sign" sSign f fd)
    (cN : Cd P w K mg base 2 "_law_next" ["_law_deck_here", "_law_many"] spNext) : FnOk P w K mg base CX0 3 f fd ["_law_deck_here"] spSign := by
  obtain ⟨fN, fdN, GN, mN, kN, bN⟩ := cN.tk
  refine F.ok scSign (fun vs H Q E h => ?_) (fun cdv A outer s H vs Q E hr h => ?_)
  · obtain ⟨d, f, n, rfl, _⟩ := h
    rfl
  · obtain ⟨d, f, n, rfl, D0, hn, k⟩ := h
    have hr2 : Room 2 _ := hr
    refine ⟨_, (pss_cons (ps_set (i := 1) scSign.nd rfl (Or.inl rfl) pe_str)
       (pss_cons (ps_set (i := 1) scSign.nd rfl (Or.inl rfl) (pe_op op_add_str (pv 1) pe_str))
       (pss_one (ps_ret (pe_ix ix_str (pv 1) (pe_call GN hr2 rfl mN kN bN .nil pass0 (pa_cons (pv 0) (pa_cons pe_int pa_nil))) (fun _ _ => rfl)))))), ?_⟩
    refine ⟨_, rfl, _, _, rfl, rfl, allSigns_sz, ?_⟩
    refine ⟨_, rfl, _, rfl, d, f, 94, n, rfl, by decide, hn, D0, fun r H1 r0 r1 k1 D1 t1 => ?_⟩
    have hj : r.toNat < allSigns.cps.toList.length := by rw [allSigns_len]; omega
    have hr' : ((r.toNat : Nat) : Int) = r := by omega
    have ha : atI allSigns.cps.toList r = some (allSigns.cps.toList[r.toNat]) := by
      have := atI_nat (xs := allSigns.cps.toList) (j := r.toNat) (v := allSigns.cps.toList[r.toNat]) (by simp [hj])
      rw [hr'] at this
      exact this
    refine ⟨allSigns, r, _, rfl, rfl, allSigns_sz2, ha, k _ _ ?_ k1 D1⟩
    have h1 := List.all_eq_true.mp allSigns_ok _ (List.getElem_mem hj)
    simp only [Bool.and_eq_true, decide_eq_true_eq] at h1
    exact ⟨h1.1.1, h1.1.2, h1.2⟩
theorem scText : FnScope ["_law_deck_here", "_law_most", "_law_k"] ["_law_deck_here", "_law_most"] (defScope sText) := ⟨rfl, rfl, rfl, by decide +kernel, rfl, by decide +kernel, by decide +kernel⟩
theorem ok_text {f : Addr} {fd : FuncData} (F : Fun K "_law_text" "_law_text" sText f fd) (zR : mg "range" = none)
    (cN : Cd P w K mg base 2 "_law_next" ["_law_deck_here", "_law_many"] spNext) (cG : Cd P w K mg base 3 "_law_sign" ["_law_deck_here"] spSign) : FnOk P w K mg base CX0 4 f fd ["_law_deck_here", "_law_most"] spText := by
  obtain ⟨fN, fdN, GN, mN, kN, bN⟩ := cN.tk
  obtain ⟨fG, fdG, GG, mG, kG, bG⟩ := cG.tk
  refine F.ok scText (fun vs H Q E h => ?_) (fun cdv A outer s H vs Q E hr h => ?_)
  · obtain ⟨d, f, n, most, rfl, _⟩ := h
    rfl
  · obtain ⟨d, f, n, most, rfl, D0, hn, m0, m1, k⟩ := h
    have hr2 : Room 2 _ := hr.mono (by decide)
    have hr3 : Room 3 _ := hr
    refine ⟨_, (pss_one (ps_ret (joinK (K := K) rfl pe_str (pe_lc (own := [("_law_k", 2)]) (g := (gName 2)) (tt := tYes) rfl scText.nd (pi_range1 rfl zR (pa_cons (pe_call GN hr2 rfl mN kN bN .nil pass0 (pa_cons (pv 0) (pa_cons (pe_op op_add (pv 1) pe_int) pa_nil))) pa_nil)) (blkOk_by (N := ["_law_deck_here", "_law_most", "_law_k"]) (sc := defScope sText) (by decide +kernel))
       (fun _ _ _ _ _ => (pg_name (i := 2) scText.nd rfl (Or.inl rfl))) (fun _ _ _ _ _ => pts_nil) (fun _ _ _ _ _ => (pe_call GG hr3 rfl mG kG bG .nil pass0 (pa_cons (pv 0) pa_nil))))))), ?_⟩
    refine ⟨⟨_, rfl⟩, ?_⟩
    refine ⟨_, rfl, _, rfl, _, _, rfl, rfl, d, f, most + 1, n, rfl, by omega, by omega, D0, fun r H1 r0 r1 k1 D1 t1 => ?_⟩
    refine ⟨r, rfl, by omega, by omega, fun D hD => ?_⟩
    have nDd : D ≠ d := (ne_of_none D1.lst.choose_spec hD).symm
    have s2 : Same H1 (upd H1 D (.lst [])) := (L2.Same.refl H1).new hD
    refine lc_range (lo := 0) (n := r.toNat) (fun j H' => ∃ cs : List Nat, H' D = some (.lst ((cs.map fun c => S [c]).map V.str)) ∧ cs.length = j ∧ (∀ c ∈ cs, OkSign c) ∧ Kp [d] H1 H' ∧ Deck H' d f (n + 1 + j)) ⟨[], upd_same, rfl, (by intro c hc; cases hc), Kp.of s2, (D1.same s2).mono (by omega)⟩ ?_ ?_
    · rintro j H3 hj ⟨cs, hD3, lc, oc, k3, D3⟩
      refine ⟨rfl, _, rfl, d, f, n + 1 + j, rfl, D3, by omega, fun c H4 hc k4 D4 t4 => ?_⟩
      have hD4 := k4 _ _ (nin1 nDd) hD3
      refine ⟨_, hD4, ?_, cs ++ [c], ?_, by rw [List.length_append, lc]; rfl, ?_, (k3.trans k4).wrn hD, ?_⟩
      · rw [List.length_map, List.length_map, lc]
        exact Nat.lt_of_le_of_lt (show j ≤ 100000 by omega) (by decide)
      · rw [upd_same, List.map_append, List.map_append]
        rfl
      · intro c' hc'
        rcases List.mem_append.mp hc' with h | h
        · exact oc _ h
        · rw [List.mem_singleton.mp h]
          exact hc
      · have hf : f ≠ D := ne_of_none D1.lst2.choose_spec hD
        exact (D4.kp (M := [D]) ((Kp.refl _ _).wr (List.mem_singleton.mpr rfl)) (nin1 nDd.symm) (nin1 hf)).mono (by omega)
    · rintro H3 ⟨cs, hD3, lc, oc, k3, D3⟩
      refine ⟨_, D, cs.map fun c => S [c], rfl, rfl, .inl (SqL.of hD3), ?_, ?_⟩
      · rw [sum_signs, List.length_map]
        show cs.length + cs.length * 0 ≤ _
        omega
      · rw [show (Txt.join (Str.ofString "") (cs.map fun c => S [c])) = S cs from join_signs cs]
        exact k cs H3 (by omega) oc (k1.trans k3) (D3.mono (by omega))
end
end Wn

namespace Wn
open PySem L2 PySem.Spec PyProof.Rows HT
/-! ### t[::-1], t[i::-1] of a tuple -/
def revLen (n : Nat) : Option Int → Nat
  | none => n
  | some v => ((if v < 0 then max (v + (n : Int)) (-1) else min v ((n : Int) - 1)) + 1).toNat
theorem revLen_le (n : Nat) (lo : Option Int) : revLen n lo ≤ n := by
  cases lo with
  | none => exact Nat.le_refl _
  | some v =>
    show ((if v < 0 then max (v + (n : Int)) (-1) else min v ((n : Int) - 1)) + 1).toNat ≤ n
    split <;> omega
theorem fm_congr {α β : Type} {f g : α → Option β} : ∀ {l : List α}, (∀ x ∈ l, f x = g x) → l.filterMap f = l.filterMap g
  | [], _ => rfl
  | x :: l, h => by
    rw [List.filterMap_cons, List.filterMap_cons, h x List.mem_cons_self, fm_congr fun y hy => h y (List.mem_cons_of_mem _ hy)]
section
variable {prog : Program} {w : World} {A : Around} {E : Value → Shared → Prop} {s : Shared}
theorem rev_adjust (lo : Option Int) (n : Nat) : Builtin.Slice.sliceAdjust lo none (-1) (n : Int) = (((revLen n lo : Nat) : Int) - 1, -1) := by
  have h1 : ((-1 : Int) < 0) := by omega
  unfold Builtin.Slice.sliceAdjust
  simp only [h1, if_true]
  refine Prod.ext ?_ rfl
  cases lo with
  | none => rfl
  | some v =>
    show (if v < 0 then max (v + (n : Int)) (-1) else min v ((n : Int) - 1)) = (((((if v < 0 then max (v + (n : Int)) (-1) else min v ((n : Int) - 1)) + 1).toNat : Nat) : Int)) - 1
    split <;> omega
theorem rev_places (k : Nat) : Builtin.Slice.slicePlaces ((k : Int) - 1) (-1) (-1) = k := by
  unfold Builtin.Slice.slicePlaces
  have h1 : ¬ ((-1 : Int) > 0) := by omega
  rw [if_neg h1, show (- -1 : Int) = 1 by decide]
  simp only [Int.ediv_one]
  split <;> omega
theorem rev_applied {sl : Addr} {vl vs : Value} {lo : Option Int} {n : Nat} {Q : Int × Int × Nat → Shared → Prop} (hs : s.heap.IsSliceOf sl vl .none vs) (pl : IsPart vl lo) (ps : IsPart vs (some (-1)))
    (h : Q (((revLen n lo : Nat) : Int) - 1, -1, revLen n lo) s) : wpAny (model prog w) A (Builtin.Slice.sliceApplied (.ref sl) (pure (n : Int))) Q E s := by
  obtain ⟨os, hos, hcs, hds⟩ := id hs
  unfold Builtin.Slice.sliceApplied Builtin.Slice.sliceFields
  refine wpAny_bind (wpAny_bind (wpAny_field hos hds (x := vl) rfl (wpAny_bind (wpAny_field hos hds (x := .none) rfl (wpAny_bind (wpAny_field hos hds (x := vs) rfl (wpAny_pure ?_)))))))
  refine wpAny_bind (slicePart_ ps ?_)
  show wpAny _ _ (if ((-1 : Int) == 0) = true then _ else _) _ _ s
  rw [if_neg (by decide)]
  refine wpAny_bind (slicePart_ pl (wpAny_bind (slicePart_ .none (wpAny_bind (wpAny_pure ?_)))))
  show wpAny _ _ (match Builtin.Slice.sliceAdjust lo none (-1) (n : Int) with | (lo, hi) => pure (lo, (-1 : Int), Builtin.Slice.slicePlaces lo hi (-1))) _ _ s
  rw [rev_adjust lo n]
  show wpAny _ _ (pure (((revLen n lo : Nat) : Int) - 1, (-1 : Int), Builtin.Slice.slicePlaces (((revLen n lo : Nat) : Int) - 1) (-1) (-1))) _ _ s
  rw [rev_places]
  exact wpAny_pure h
theorem rev_pick (xs : Array Value) (k : Nat) (hk : k ≤ xs.size) : ((List.range k).filterMap fun (m : Nat) => xs[(((k : Int) - 1) + (m : Int) * (-1)).toNat]?).toArray = (xs.toList.take k).reverse.toArray := by
  congr 1
  have e : (List.range k).filterMap (fun (m : Nat) => xs[(((k : Int) - 1) + (m : Int) * (-1)).toNat]?) = ((List.range k).map fun m => k - 1 - m).filterMap (xs[·]?) := by
    rw [List.filterMap_map]
    refine fm_congr fun m hm => ?_
    have hm := List.mem_range.mp hm
    show xs[_]? = xs[k - 1 - m]?
    congr 1
    omega
  rw [e, PySem.W.krv_range, List.filterMap_reverse]
  congr 1
  have := pick_run xs 0 k
  rw [List.filterMap_map] at this
  have e2 : ((fun x => xs[x]?) ∘ fun x => 0 + x) = fun m => xs[m]? := by
    funext m
    show xs[0 + m]? = xs[m]?
    rw [Nat.zero_add]
  rw [e2, List.drop_zero] at this
  exact this
theorem getItem_tuple_rev {t sl : Addr} {items : Array Value} {vl vs : Value} {lo : Option Int} {Q : Value → Shared → Prop} (ht : IsTup s.heap t items) (hs : s.heap.IsSliceOf sl vl .none vs) (pl : IsPart vl lo) (ps : IsPart vs (some (-1)))
    (h : Q (.ref s.heap.objs.size) { s with heap := s.heap.push { cls := .type "tuple", data := .seq (items.toList.take (revLen items.size lo)).reverse.toArray } })
    (hsz : items.size ≤ sizeLine) : wpAny (model prog w) A (getItem (.ref t) (.ref sl)) Q E s := by
  have hk := revLen_le items.size lo
  have htake : sizeOk (.seq (items.toList.take (revLen items.size lo)).reverse.toArray) := by
    show (items.toList.take (revLen items.size lo)).reverse.toArray.size ≤ sizeLine
    rw [List.size_toArray, List.length_reverse, List.length_take, Array.length_toList]
    omega
  obtain ⟨os, hos, hcs, hds⟩ := id hs
  have hTs : s.TypeIs (.ref sl) "slice" := ⟨os, hos, hcs⟩
  unfold getItem
  try with_reducible refine wpAny_holding ?_
  first | refine wpAny_bind (wpAny_pure ?_) | skip
  refine wpAny_bind (wpAny_sequenceKey ht.typeIs (by decide) ?_)
  refine wpAny_bind (wpAny_callSpecial?_slot (name := Str.ofString "__getitem__") ht.typeIs PyProof.Rows.slot_tuple_getitem
    (wpAny_call_entry PyProof.Rows.slot_tuple_getitem ht.typeIs entry_tuple_getitem ?_ (args_tuple_getitem _ _)))
  show wpAny _ _ (Builtin.Tuple.tupleItemsOf (.ref t) >>= _) _ _ s
  refine wpAny_bind (tupleItemsOf_ ht ?_)
  refine wpAny_bind (wpAny_typeOf hTs ?_)
  rw [if_pos (by decide)]
  refine wpAny_bind (rev_applied hs pl ps ?_)
  have hno : ¬ (((((revLen items.size lo : Nat) : Int) - 1) == 0 && (-1 : Int) == 1 && (revLen items.size lo) == items.size) = true) := by
    rw [show ((-1 : Int) == 1) = false by decide, Bool.and_false, Bool.false_and]
    exact Bool.false_ne_true
  show wpAny _ _ (if ((((revLen items.size lo : Nat) : Int) - 1) == 0 && (-1 : Int) == 1 && (revLen items.size lo) == items.size) = true then _ else _) _ _ s
  rw [if_neg hno, rev_pick _ _ hk]
  first
    | exact wpAny_bind (m := Builtin.Tuple.tupleExact _) (wpAny_newObj_type (wpAny_pure ⟨_, rfl, wpAny_pure h⟩) htake)
    | exact wpAny_bind (m := Builtin.Tuple.tupleExact _) (wpAny_newObj_type (wpAny_bind (wpAny_pure (wpAny_pure ⟨_, rfl, wpAny_pure h⟩))) htake)
    | exact wpAny_bind (wpAny_bind (m := Builtin.Tuple.tupleExact _) (wpAny_newObj_type (wpAny_pure (wpAny_pure ⟨_, rfl, wpAny_pure h⟩)) htake))
    | exact wpAny_bind (wpAny_bind (m := Builtin.Tuple.tupleExact _) (wpAny_newObj_type (wpAny_pure ⟨_, rfl, wpAny_pure h⟩) htake))
end
section
variable {X : Cx} {K : PySem.W.Frag}
def tRevT (K : PySem.W.Frag) (te : TE) (tl : TO) : TE := fun σ H Q => te σ H fun x H1 => tl σ H1 fun lo H2 => ∃ a xs, x = .ref a ∧ SqT K H2 a xs ∧ ∀ p, H2 p = none → Q (.ref p) (upd H2 p (.tup (xs.take (revLen xs.length lo)).reverse))
theorem pe_revT {e : Expr} {lo : Option Expr} {te : TE} {tl : TO} {k : Nat} {p1 p2 p3 pos : Pos} (hK : X.K = K) (he : PE X e te) (hl : PO X lo tl) : PE X (.Subscript e (.Slice lo none (some (.UnaryOp .USub (.Constant (.int 1) k p1) p2)) p3) pos) (tRevT K te tl) := by
  subst hK
  refine ⟨fun pins s σ H Q I h => ?_⟩
  refine Subscript_ (thn (he.run pins s σ H _ I h) fun v s1 ⟨x, H1, I1, r1, q1⟩ => ?_)
  have hst : PO X (some (.UnaryOp .USub (.Constant (.int 1) k p1) p2)) (tPart (tUn (rU fun i => .int (-i)) (tC (.int 1)))) := po_some (pe_un un_neg pe_int)
  refine wpAny_Slice (thn (hl.run pins s1 σ H1 _ I1 q1) fun vl s2 ⟨l, H2, I2, pl, q2⟩ => ?_)
  obtain ⟨a, xs, ex, hx, q⟩ := q2
  subst ex
  cases r1
  refine thn (po_none.run pins s2 σ H2 (fun o H3 => o = none ∧ H3 = H2) I2 ⟨rfl, rfl⟩) fun vu s3 ⟨u, H3, I3, pu, eu, e3⟩ => ?_
  subst eu e3
  refine thn (hst.run pins s3 σ H3 (fun o H4 => o = some (-1) ∧ H4 = H3) I3 ⟨1, rfl, -1, rfl, rfl, rfl⟩) fun vs s4 ⟨o, H4, I4, ps, eo, e4⟩ => ?_
  subst eo e4
  cases pu
  have I5 : Inv X pins σ H4 { s4 with heap := s4.heap.push { cls := .type "slice", data := .fields #[vl, .none, vs] } } := I4.kept (t' := s4.toks) fun b ob q => Heap.get?_push_of_some _ q
  obtain ⟨its, r, ht, hz⟩ := I5.tuple hx
  have hlen : its.toArray.size = xs.length := by rw [List.size_toArray]; exact r.length.symm
  show wpAny (model X.prog X.w) X.A (subscriptTail e (.Slice lo none (some (.UnaryOp .USub (.Constant (.int 1) k p1) p2)) p3) (.ref a) (.ref s4.heap.objs.size)) (EP X pins σ Q) X.xe { s4 with heap := s4.heap.push { cls := .type "slice", data := .fields #[vl, .none, vs] } }
  refine tail_any (ops := [.ref a, .ref s4.heap.objs.size]) ht.typeIs (PyProof.Rows.slot_tuple_getitem.lookup) ?_ (by with_unfolding_all rfl)
  refine getItem_tuple_rev ht (Heap.IsSliceOf.new _ vl .none vs) pl ps ?_ (by rw [hlen]; exact hz)
  rw [hlen]
  refine ⟨.ref _, _, I5.laid (t' := s4.toks) (o := .tup (xs.take (revLen xs.length l)).reverse) (fun b ob q => Heap.get?_push_of_some _ q) (Nat.le_refl _) ?_, rfl, q _ (I5.hok.fresh (Nat.le_refl _))⟩
  refine ⟨by rw [List.length_reverse, List.length_take]; omega, _, ?_, IsTup.new _ _⟩
  have := r.take (revLen xs.length l)
  exact this.reverse
end
end Wn

namespace Wn
open PySem L2 PySem.Spec PyProof.Rows
section
variable {X : Cx} {K : PySem.W.Frag}
theorem slA (hK : X.K = K) : SlR X (rSlA K) := hK ▸ sl_tupA
theorem opCatA (hK : X.K = K) : OpR X (binaryOp .Add) (rCatA K) := hK ▸ op_catA
/-- x in a tuple of data -/
def rInDT (K : PySem.W.Frag) : R2 := fun x y H Q => ∃ d ds, Dp K H x d ∧ Dp K H y (.tuple ds) ∧ SeqAt.shaped d = true ∧ SeqAt.shaped (.tuple ds) = true ∧ Q (.bl (ds.any fun z => PyData.eqv z d)) H
def rNotInDT (K : PySem.W.Frag) : R2 := fun x y H Q => ∃ d ds, Dp K H x d ∧ Dp K H y (.tuple ds) ∧ SeqAt.shaped d = true ∧ SeqAt.shaped (.tuple ds) = true ∧ Q (.bl (!ds.any fun z => PyData.eqv z d)) H
theorem room_inT {A : Around} {d : PyData} {xs : List PyData} (h : SeqAt.shaped d = true) (hu : A.units + 65 < cLine) : A.units + 1 + min (PyData.depthAll xs) d.depth < cLine := by
  have h1 := SeqAt.depth_of_shaped h
  have h2 : min (PyData.depthAll xs) d.depth ≤ d.depth := Nat.min_le_right _ _
  omega
theorem op_inDT (hu : X.A.units + 65 < cLine) : OpR X (compareOp .In) (rInDT X.K) := by
  intro pins s σ H x y v u Q I rx ry h
  obtain ⟨d, ds, hd, he, sd, se, q⟩ := h
  obtain ⟨as, r1⟩ := Dp.reads I d x v hd rx
  obtain ⟨bs, r2⟩ := Dp.reads I (.tuple ds) y u he ry
  exact SeqAt.in_tuple_reads r2 r1 (SeqAt.canLay_of_shaped se) (SeqAt.canLay_of_shaped sd) (room_inT sd hu) ⟨.bl _, H, I, rfl, q⟩
theorem op_notInDT (hu : X.A.units + 65 < cLine) : OpR X (compareOp .NotIn) (rNotInDT X.K) := by
  intro pins s σ H x y v u Q I rx ry h
  obtain ⟨d, ds, hd, he, sd, se, q⟩ := h
  obtain ⟨as, r1⟩ := Dp.reads I d x v hd rx
  obtain ⟨bs, r2⟩ := Dp.reads I (.tuple ds) y u he ry
  exact SeqAt.notIn_tuple_reads r2 r1 (SeqAt.canLay_of_shaped se) (SeqAt.canLay_of_shaped sd) (room_inT sd hu) ⟨.bl _, H, I, rfl, q⟩
theorem inDTK (hK : X.K = K) (hu : X.A.units + 65 < cLine) : OpR X (compareOp .In) (rInDT K) := hK ▸ op_inDT hu
theorem notInDTK (hK : X.K = K) (hu : X.A.units + 65 < cLine) : OpR X (compareOp .NotIn) (rNotInDT K) := hK ▸ op_notInDT hu
theorem room65 {k : Nat} {A : Around} (r : Room k A) : A.units + 65 < cLine := by have := r.un; omega
end
end Wn

namespace Wn
open PySem L2
/-! ### slices and sums of tuples, whatever they are -/
theorem SqT.sm {K : PySem.W.Frag} {H H' : Hp} {a : Addr} {xs : List V} (h : SqT K H a xs) (e : Same H H') : SqT K H' a xs := SqT.tk h (TK.of e)
section
variable {α : Type}
def cutL (xs : List α) (lo hi : Option Int) : List α := (xs.drop (HT.sIx xs.length 0 lo)).take (HT.sIx xs.length xs.length hi - HT.sIx xs.length 0 lo)
theorem cutL_all (xs : List α) : cutL xs none none = xs := by
  unfold cutL
  rw [HT.sIx_none, HT.sIx_none, List.drop_zero, Nat.sub_zero, List.take_length]
theorem cutL_to (xs : List α) (k : Nat) : cutL xs none (some (k : Int)) = xs.take k := by
  unfold cutL
  rw [HT.sIx_nat, HT.sIx_none, List.drop_zero, Nat.sub_zero]
  by_cases hk : k ≤ xs.length
  · rw [Nat.min_eq_left hk]
  · rw [Nat.min_eq_right (by omega), List.take_of_length_le (Nat.le_refl _), List.take_of_length_le (by omega)]
theorem cutL_from (xs : List α) (k : Nat) : cutL xs (some (k : Int)) none = xs.drop k := by
  unfold cutL
  rw [HT.sIx_nat, HT.sIx_none]
  by_cases hk : k ≤ xs.length
  · rw [Nat.min_eq_left hk, List.take_of_length_le (by rw [List.length_drop]; exact Nat.le_refl _)]
  · rw [Nat.min_eq_right (by omega), List.drop_of_length_le (Nat.le_refl _), List.drop_of_length_le (by omega), List.take_nil]
theorem cutL_mid (xs : List α) (a b : Nat) : cutL xs (some (a : Int)) (some (b : Int)) = (xs.drop a).take (b - a) := by
  unfold cutL
  rw [HT.sIx_nat, HT.sIx_nat]
  by_cases h : a ≤ xs.length
  · rw [Nat.min_eq_left h]
    by_cases h2 : b ≤ xs.length
    · rw [Nat.min_eq_left h2]
    · rw [Nat.min_eq_right (by omega), List.take_of_length_le (by rw [List.length_drop]; exact Nat.le_refl _), List.take_of_length_le (by rw [List.length_drop]; omega)]
  · rw [show min a xs.length = xs.length by omega, List.drop_of_length_le (Nat.le_refl _), List.drop_of_length_le (show xs.length ≤ a by omega), List.take_nil, List.take_nil]
theorem cutL_butlast (xs : List α) : cutL xs none (some (-1)) = xs.dropLast := by
  unfold cutL
  have e : HT.sIx xs.length xs.length (some (-1)) = xs.length - 1 := by
    unfold HT.sIx
    dsimp only
    rw [if_pos (show (-1 : Int) < 0 by decide)]
    omega
  rw [e, HT.sIx_none, List.drop_zero, Nat.sub_zero, List.dropLast_eq_take]
theorem cutL_last (xs : List α) : cutL xs (some (-1)) none = xs.drop (xs.length - 1) := by
  unfold cutL
  have e : HT.sIx xs.length 0 (some (-1)) = xs.length - 1 := by
    unfold HT.sIx
    dsimp only
    rw [if_pos (show (-1 : Int) < 0 by decide)]
    omega
  rw [e, HT.sIx_none, List.take_of_length_le (by rw [List.length_drop]; exact Nat.le_refl _)]
theorem cutL_map {β : Type} (f : α → β) (xs : List α) (lo hi : Option Int) : cutL (xs.map f) lo hi = (cutL xs lo hi).map f := by
  unfold cutL
  rw [List.length_map, List.map_take, List.map_drop]
theorem cutL_mem {xs : List α} {lo hi : Option Int} {x : α} (h : x ∈ cutL xs lo hi) : x ∈ xs := List.mem_of_mem_drop (List.mem_of_mem_take h)
theorem cutL_len (xs : List α) (lo hi : Option Int) : (cutL xs lo hi).length ≤ xs.length := by
  unfold cutL
  rw [List.length_take, List.length_drop]
  omega
end
theorem cutV_L (xs : List V) (lo hi : Option Int) : cutV xs lo hi = cutL xs lo hi := rfl
section
variable {K : PySem.W.Frag} {H H' : Hp} {a b : Addr} {xs ys : List V} {ds es : List PyData} {lo hi : Option Int} {Q : VK}
theorem slA_sq (h : SqT K H a xs) (q : ∀ (H' : Hp) (x : Addr), Same H H' → SqT K H' x (cutL xs lo hi) → Q (.ref x) H') : rSlA K (.ref a) lo hi H Q := by
  refine ⟨a, xs, rfl, h, fun hw => ?_, fun hw p hp => ?_⟩
  · refine q H a (L2.Same.refl _) ?_
    have e : cutL xs lo hi = xs := by
      unfold cutL
      rw [hw.1, hw.2, List.drop_zero, Nat.sub_zero, List.take_length]
    rw [e]
    exact h
  · exact q _ p ((L2.Same.refl _).new hp) (SqT.of upd_same)
theorem catA_sq (ha : SqT K H a xs) (hb : SqT K H b ys) (hl : xs.length + ys.length ≤ 1000000) (q : ∀ (H' : Hp) (x : Addr), Same H H' → SqT K H' x (xs ++ ys) → Q (.ref x) H') : rCatA K (.ref a) (.ref b) H Q := by
  refine ⟨a, b, xs, ys, rfl, rfl, ha, hb, Nat.le_trans hl (by decide), fun e => ?_, fun _ e => ?_, fun _ _ p hp => ?_⟩
  · subst e
    exact q H b (L2.Same.refl _) hb
  · subst e
    exact q H a (L2.Same.refl _) (by rw [List.append_nil]; exact ha)
  · exact q _ p ((L2.Same.refl _).new hp) (SqT.of upd_same)
/-- a tuple of data -/
def TupAt (K : PySem.W.Frag) (H : Hp) (a : Addr) (ds : List PyData) : Prop := Rp K H (.tuple ds) (.ref a)
theorem TupAt.inv (h : TupAt K H a ds) : ∃ xs, SqT K H a xs ∧ RpL K H ds xs := by
  unfold TupAt Rp at h
  obtain ⟨b, xs, e, h1, h2⟩ := h
  cases e
  exact ⟨xs, h1, h2⟩
theorem TupAt.sm (h : TupAt K H a ds) (s : Same H H') : TupAt K H' a ds := Rp.tk (TK.of s) _ _ h
theorem TupAt.tk (h : TupAt K H a ds) (s : TK H H') : TupAt K H' a ds := Rp.tk s _ _ h
theorem RpL.cut (h : RpL K H ds xs) : RpL K H (cutL ds lo hi) (cutL xs lo hi) := by
  unfold cutL
  rw [RpL.len _ _ h]
  exact RpL.take _ (RpL.drop _ h)
theorem slA_tup (h : TupAt K H a ds) (q : ∀ (H' : Hp) (x : Addr), Same H H' → TupAt K H' x (cutL ds lo hi) → Q (.ref x) H') : rSlA K (.ref a) lo hi H Q := by
  obtain ⟨xs, hx, rx⟩ := h.inv
  exact slA_sq hx fun H' x s h' => q H' x s (Rp.tupS h' (RpL.tk (TK.of s) _ _ rx.cut))
theorem catA_tup (ha : TupAt K H a ds) (hb : TupAt K H b es) (hl : ds.length + es.length ≤ 1000000) (q : ∀ (H' : Hp) (x : Addr), Same H H' → TupAt K H' x (ds ++ es) → Q (.ref x) H') : rCatA K (.ref a) (.ref b) H Q := by
  obtain ⟨xs, hx, rx⟩ := ha.inv
  obtain ⟨ys, hy, ry⟩ := hb.inv
  refine catA_sq hx hy (by rw [RpL.len _ _ rx, RpL.len _ _ ry]; exact hl) fun H' x s h' => q H' x s (Rp.tupS h' (RpL.tk (TK.of s) _ _ (RpL.app rx ry)))
/-! ### the same of things of any kind -/
theorem DpAll.app : ∀ {xs ys : List V} {ds es : List PyData}, DpAll K H xs ds → DpAll K H ys es → DpAll K H (xs ++ ys) (ds ++ es)
  | _, _, _, _, .nil, h => h
  | _, _, _, _, .cons h1 h2, h => .cons h1 (DpAll.app h2 h)
theorem DpAll.take : ∀ (k : Nat) {xs : List V} {ds : List PyData}, DpAll K H xs ds → DpAll K H (xs.take k) (ds.take k)
  | 0, _, _, _ => .nil
  | k + 1, _, _, .nil => .nil
  | k + 1, _, _, .cons h1 h2 => .cons h1 (DpAll.take k h2)
theorem DpAll.drop : ∀ (k : Nat) {xs : List V} {ds : List PyData}, DpAll K H xs ds → DpAll K H (xs.drop k) (ds.drop k)
  | 0, _, _, h => h
  | k + 1, _, _, .nil => .nil
  | k + 1, _, _, .cons h1 h2 => DpAll.drop k h2
theorem DpAll.len' : ∀ {vs : List V} {ds : List PyData}, DpAll K H vs ds → vs.length = ds.length
  | _, _, .nil => rfl
  | _, _, .cons _ h => by rw [List.length_cons, List.length_cons, DpAll.len' h]
theorem DpAll.cut (h : DpAll K H xs ds) : DpAll K H (cutL xs lo hi) (cutL ds lo hi) := by
  unfold cutL
  rw [DpAll.len' h]
  exact DpAll.take _ (DpAll.drop _ h)
theorem DpAll.rev : ∀ {xs : List V} {ds : List PyData}, DpAll K H xs ds → DpAll K H xs.reverse ds.reverse
  | _, _, .nil => .nil
  | _, _, .cons h1 h2 => by
    rw [List.reverse_cons, List.reverse_cons]
    exact DpAll.app (DpAll.rev h2) (.cons h1 .nil)
end
end Wn

set_option maxHeartbeats 600000
namespace Wn
open PySem L2
set_option pp.maxSteps 700
set_option pp.deepTerms false
local macro_rules | `(tactic| walk_at "h") => `(tactic| first | with_reducible assumption | (with_reducible exact upd_same) | (with_reducible apply g_upd; (walk_at "neq"); (walk_at "h")) | (with_reducible apply g_same; (with_reducible assumption); (walk_at "h")) | (with_reducible apply g_kp; (with_reducible assumption); (walk_at "nin"); (walk_at "h")) | (with_reducible apply g_tk; (with_reducible assumption); (walk_at "h")))
local macro_rules | `(tactic| walk_at "neq") => `(tactic| first | with_reducible assumption | (with_reducible apply Ne.symm; with_reducible assumption) | (with_reducible apply ne_upd; (with_reducible assumption)) | (with_reducible apply Ne.symm; with_reducible apply ne_upd; with_reducible assumption) | (with_reducible apply ne_fr; (with_reducible assumption); (walk_at "h")) | (with_reducible apply ne_fr'; (with_reducible assumption); (walk_at "h")) | (with_reducible apply ne_kd; (walk_at "h"); (walk_at "h"); (with_unfolding_all (intro z; cases z))))
local macro_rules | `(tactic| walk_at "nin") => `(tactic| first | (with_reducible exact nin0) | with_reducible assumption | (with_reducible apply ninc; (walk_at "neq"); (walk_at "nin")))
local macro_rules | `(tactic| walk_at "none") => `(tactic| first | with_reducible assumption | (with_reducible apply n_upd; (with_reducible assumption)) | (with_reducible apply n_same; (with_reducible assumption); (walk_at "none")) | (with_reducible apply n_kp; (with_reducible assumption); (walk_at "nin"); (walk_at "none")))
local macro_rules | `(tactic| walk_at "mem") => `(tactic| first | (with_reducible exact List.mem_cons_self) | (with_reducible apply List.mem_cons_of_mem; (walk_at "mem")))
local macro_rules | `(tactic| walk_at "am") => `(tactic| first | (with_reducible exact am0) | (with_reducible apply am1; (first | (apply Or.inl; walk_at "mem") | (apply Or.inr; walk_at "none")); (walk_at "am")))
local macro_rules | `(tactic| walk_at "tk") => `(tactic| first | (with_reducible exact TK.refl _) | with_reducible assumption | (with_reducible apply t_tk; (with_reducible assumption); (walk_at "tk")) | (with_reducible apply t_same; (with_reducible assumption); (walk_at "tk")) | (with_reducible apply t_new; (with_reducible assumption); (walk_at "tk")) | (with_reducible apply t_wr; (walk_at "h"); (with_unfolding_all rfl); (walk_at "tk")))
local macro_rules | `(tactic| walk_at "same") => `(tactic| first | (with_reducible exact L2.Same.refl _) | with_reducible assumption | (with_reducible apply s_same; (with_reducible assumption); (walk_at "same")) | (with_reducible apply s_new; (with_reducible assumption); (walk_at "same")) | (with_reducible apply s_wrn; (walk_at "none"); (walk_at "same")))
local macro_rules | `(tactic| walk_at "kp") => `(tactic| first | (with_reducible exact Kp.refl _ _) | with_reducible assumption | (with_reducible apply k_same; (with_reducible assumption); (walk_at "kp")) | (with_reducible apply k_kp; (with_reducible assumption); (walk_at "kp")) | (with_reducible apply k_kpm; (with_reducible assumption); (walk_at "am"); (walk_at "kp")) | (with_reducible apply k_new; (with_reducible assumption); (walk_at "kp")) | (with_reducible apply k_wr; (walk_at "mem"); (walk_at "kp")) | (with_reducible apply k_wrn; (walk_at "none"); (walk_at "kp")))
local macro_rules | `(tactic| walk_at "rp") => `(tactic| first | with_reducible assumption | (with_reducible exact Rp.int) | (with_reducible exact Rp.str) | (with_reducible exact Rp.none) | (with_reducible exact Rp.bool) | (with_reducible apply Rp.tk'; (with_reducible assumption); (walk_at "tk")) | (with_reducible apply Rp.tup; (walk_at "h"); (walk_at "rpl")))
local macro_rules | `(tactic| walk_at "rpl") => `(tactic| first | with_reducible assumption | (with_reducible exact RpL.nil) | (with_reducible apply RpL.tk'; (with_reducible assumption); (walk_at "tk")) | (with_reducible apply RpL.cons; (walk_at "rp"); (walk_at "rpl")))
local macro_rules | `(tactic| walk_at "g") => `(tactic| repeat (first | refine ⟨_, rfl, ?_⟩ | refine ⟨_, _, rfl, rfl, ?_⟩ | refine ⟨rfl, _, rfl, ?_⟩ | refine ⟨_, _, rfl, rfl, (by first | decide | omega), ?_⟩))
abbrev sGood : Stmt := top 11
theorem Dp.tup_of {K : PySem.W.Frag} {H : Hp} {v : V} {d : PyData} (h : Dp K H v d) (e : tyN d = "tuple") : ∃ a xs ds, v = .ref a ∧ d = .tuple ds ∧ SqT K H a xs ∧ DpAll K H xs ds := by
  cases h with
  | @tup a xs ds ha hall => exact ⟨a, xs, ds, rfl, rfl, ha, hall⟩
  | _ => simp [tyN] at e
theorem Dp.str_of {K : PySem.W.Frag} {H : Hp} {v : V} {d : PyData} (h : Dp K H v d) (e : tyN d = "str") : ∃ z, v = .str z ∧ d = .str z := by
  cases h with
  | str z => exact ⟨z, rfl, rfl⟩
  | _ => simp [tyN] at e
theorem Dp.int_of {K : PySem.W.Frag} {H : Hp} {v : V} {d : PyData} (h : Dp K H v d) (e : tyN d = "int") : ∃ i, v = .int i ∧ d = .int i := by
  cases h with
  | int i => exact ⟨i, rfl, rfl⟩
  | _ => simp [tyN] at e
theorem DpAll.two {K : PySem.W.Frag} {H : Hp} : ∀ {ys : List V} {es : List PyData}, DpAll K H ys es → ys.length = 2 → ∃ x0 x1 d0 d1, ys = [x0, x1] ∧ es = [d0, d1] ∧ Dp K H x0 d0 ∧ Dp K H x1 d1
  | _, _, .cons h0 (.cons h1 .nil), _ => ⟨_, _, _, _, rfl, rfl, h0, h1⟩
  | _, _, .nil, e => by cases e
  | _, _, .cons _ .nil, e => by cases e
  | _, _, .cons _ (.cons _ (.cons _ _)), e => by simp at e
theorem prt_len {es : List PyData} (h : es.length ≠ 2) : prtOf (.tuple es) = none := by
  match es, h with
  | [], _ => rfl
  | [a], _ => exact prt1 a
  | [a, b], h => exact absurd rfl h
  | a :: b :: c :: r, _ => exact prt3 a b c r
def lastP (ps : List Prt) : Int := (ps.getLast?.map (·.1)).getD (-1)
theorem lastP_snoc (ps : List Prt) (p : Prt) : lastP (ps ++ [p]) = p.1 := by
  unfold lastP
  rw [List.getLast?_append]
  rfl
theorem rises_app : ∀ (ps : List Prt) (l : Int) (p : Prt) (qs : List Prt), risesP l (ps ++ p :: qs) = (risesP l ps && decide ((ps.getLast?.map (·.1)).getD l < p.1) && risesP p.1 qs)
  | [], l, p, qs => by
    show (decide (l < p.1) && risesP p.1 qs) = (true && decide (l < p.1) && risesP p.1 qs)
    rw [Bool.true_and]
  | [q], l, p, qs => by
    show (decide (l < q.1) && (decide (q.1 < p.1) && risesP p.1 qs)) = ((decide (l < q.1) && true) && decide (q.1 < p.1) && risesP p.1 qs)
    rw [Bool.and_true, Bool.and_assoc]
  | q :: r :: ps, l, p, qs => by
    have ih := rises_app (r :: ps) q.1 p qs
    have e : ∀ x y : Int, (((r :: ps).getLast?.map (·.1)).getD x) = (((r :: ps).getLast?.map (·.1)).getD y) := fun x y => by
      rw [List.getLast?_cons]
      rfl
    show (decide (l < q.1) && risesP q.1 ((r :: ps) ++ p :: qs)) = ((decide (l < q.1) && risesP q.1 (r :: ps)) && decide (((q :: r :: ps).getLast?.map (·.1)).getD l < p.1) && risesP p.1 qs)
    rw [ih, List.getLast?_cons_cons, e l q.1]
    simp only [Bool.and_assoc]
theorem good_bad {z : Str} {size : Int} {ds : List PyData} {d : PyData} (h : d ∈ ds) (b : isPartS z size d = false) : goodS z size (.tuple ds) = false := by
  show (ds.all (isPartS z size) && _ && _) = false
  have : ds.all (isPartS z size) = false := by
    rw [Bool.eq_false_iff]
    intro q
    rw [List.all_eq_true] at q
    rw [q d h] at b
    cases b
  rw [this]
  rfl
theorem good_low {z : Str} {size : Int} {ds : List PyData} {ps : List Prt} {p : Prt} {i : Nat} (h1 : ds.take i = ps.map prtD) (h2 : ds[i]? = some (prtD p)) (h3 : p.1 ≤ lastP ps) : goodS z size (.tuple ds) = false := by
  show (ds.all (isPartS z size) && risesP (-1) (ds.filterMap prtOf) && _) = false
  have e : ds = ps.map prtD ++ prtD p :: ds.drop (i + 1) := by
    have hi := (List.getElem?_eq_some_iff.mp h2).1
    have := List.take_append_drop i ds
    rw [h1, List.drop_eq_getElem_cons hi] at this
    rw [List.getElem?_eq_getElem hi] at h2
    rw [Option.some.inj h2] at this
    exact this.symm
  have : risesP (-1) (ds.filterMap prtOf) = false := by
    rw [e, List.filterMap_append, List.filterMap_cons]
    have e2 : (ps.map prtD).filterMap prtOf = ps := by
      rw [List.filterMap_map]
      exact List.filterMap_some
    rw [e2]
    show risesP (-1) (ps ++ p :: (ds.drop (i + 1)).filterMap prtOf) = false
    rw [rises_app]
    unfold lastP at h3
    rw [decide_eq_false (by omega), Bool.and_false, Bool.false_and]
  rw [this, Bool.and_false]
  rfl
def spGoodA (K : PySem.W.Frag) : Sp := fun vs H Q _ => ∃ (z : Str) (size : Int) (v : V) (d : PyData), vs = [.str z, .int size, v] ∧ AnyAt K H v d ∧ z.length ≤ 1000 ∧ ShortPs 1000 d ∧ ∀ H', Same H H' → Q (.bl (goodS z size d)) H'
theorem cov_snoc (n : Nat) (ps : List Prt) (p : Prt) (k : Nat) : ∀ j, covP (ps ++ [p]) j = (covP ps j || (decide (p.1 ≤ (j : Int)) && decide ((j : Int) < p.1 + p.2.length))) := fun j => by
  unfold covP
  rw [List.any_append]
  simp

section
variable {P : Program} {w : World} {K : PySem.W.Frag} {mg : Str → Option Value} {base : Heap}
theorem scGood : FnScope ["_law_text_here", "_law_size", "_law_thing", "_law_covered", "_law_last", "_law_part", "_law_first", "_law_signs", "_law_k"] ["_law_text_here", "_law_size", "_law_thing"] (defScope sGood) := ⟨rfl, rfl, rfl, by decide +kernel, rfl, by decide +kernel, by decide +kernel⟩
theorem ok_good {f : Addr} {fd : FuncData} (F : Fun K "_law_good" "_law_good" sGood f fd) (B : TB mg) : FnOk P w K mg base CX0 1 f fd ["_law_text_here", "_law_size", "_law_thing"] (spGoodA K) := by
  refine F.ok scGood (fun vs H Q E h => ?_) (fun cdv A outer s H vs Q E hr h => ?_)
  · obtain ⟨z, size, v, d, rfl, _⟩ := h
    rfl
  · obtain ⟨z, size, v, d, rfl, hd, hz, hsh, k⟩ := h
    refine ⟨_, (pss_cons (ps_if (pt_not (pt_val (pe_callB (isiK (K := K) rfl) (by rfl) B.isinstance (by decide +kernel) (pa_cons (pv 2) (pa_cons (pe_bltn (v := .ty "tuple") (by rfl) B.tuple PyProof.Rows.boot_tuple rfl) pa_nil)))))
       (pss_one (ps_ret pe_bl))
       pss_nil)
       (pss_cons (ps_set (i := 3) scGood.nd rfl (Or.inl rfl) (pe_op op_rep (pe_lst (pa_cons pe_bl pa_nil)) (pe_callB (lenK (K := K) rfl) (by rfl) B.len PySem.boot_len (pa_cons (pv 0) pa_nil))))
       (pss_cons (ps_set (i := 4) scGood.nd rfl (Or.inl rfl) (pe_un un_neg pe_int))
       (pss_cons (ps_for PassesOwn.never rfl (pi_tup (pv 2)) (pg_name (i := 5) scGood.nd rfl (Or.inl rfl))
       (pss_cons (ps_if (PW.pt (pw_or (pt_not (pt_val (pe_callB (isiK (K := K) rfl) (by rfl) B.isinstance (by decide +kernel) (pa_cons (pv 5) (pa_cons (pe_bltn (v := .ty "tuple") (by rfl) B.tuple PyProof.Rows.boot_tuple rfl) pa_nil))))) (pw_or (pt_cmpR op_ne (pe_callB (lenK (K := K) rfl) (by rfl) B.len PySem.boot_len (pa_cons (pv 5) pa_nil)) pe_int (nomark _)) (pw_or1 (pt_not (pt_val (pe_callB (isiK (K := K) rfl) (by rfl) B.isinstance (by decide +kernel) (pa_cons (pe_ix (ixT (K := K) rfl) (pv 5) pe_int (fun _ _ => rfl)) (pa_cons (pe_bltn (v := .ty "str") (by rfl) B.str PyProof.Rows.boot_str rfl) pa_nil)))))))))
       (pss_one (ps_ret pe_bl))
       pss_nil)
       (pss_cons (ps_if (PW.pt (pw_or (pt_not (pt_val (pe_callB (isiK (K := K) rfl) (by rfl) B.isinstance (by decide +kernel) (pa_cons (pe_ix (ixT (K := K) rfl) (pv 5) pe_int (fun _ _ => rfl)) (pa_cons (pe_bltn (v := .ty "int") (by rfl) B.int PyProof.Rows.boot_int rfl) pa_nil))))) (pw_or (pt_val (pe_callB (isiK (K := K) rfl) (by rfl) B.isinstance (by decide +kernel) (pa_cons (pe_ix (ixT (K := K) rfl) (pv 5) pe_int (fun _ _ => rfl)) (pa_cons (pe_bltn (v := .ty "bool") (by rfl) B.bool PyProof.Rows.boot_bool rfl) pa_nil)))) (pw_or1 (pt_cmpR op_le (pe_ix (ixT (K := K) rfl) (pv 5) pe_int (fun _ _ => rfl)) (pv 4) (nomark _))))))
       (pss_one (ps_ret pe_bl))
       pss_nil)
       (pss_cons (ps_asg (pv 5) (pg_tup rfl (pgs_cons (pg_name (i := 6) scGood.nd rfl (Or.inl rfl)) (pgs_cons (pg_name (i := 7) scGood.nd rfl (Or.inl rfl)) pgs_nil))))
       (pss_cons (ps_if (PW.pt (pw_or (pt_cmpR op_lt (pe_callB (lenK (K := K) rfl) (by rfl) B.len PySem.boot_len (pa_cons (pv 7) pa_nil)) pe_int (nomark _)) (pw_or (pt_cmpR op_gt (pe_callB (lenK (K := K) rfl) (by rfl) B.len PySem.boot_len (pa_cons (pv 7) pa_nil)) (pv 1) (nomark _)) (pw_or1 (pt_cmpR op_ne (pe_slice sl_str (pv 0) (po_some (pv 6)) (po_some (pe_op op_add (pv 6) (pe_callB (lenK (K := K) rfl) (by rfl) B.len PySem.boot_len (pa_cons (pv 7) pa_nil))))) (pv 7) (nomark _))))))
       (pss_one (ps_ret pe_bl))
       pss_nil)
       (pss_cons (ps_set (i := 4) scGood.nd rfl (Or.inl rfl) (pv 6))
       (pss_one (ps_for PassesOwn.never rfl (pi_range1 rfl B.range (pa_cons (pe_callB (lenK (K := K) rfl) (by rfl) B.len PySem.boot_len (pa_cons (pv 7) pa_nil)) pa_nil)) (pg_name (i := 8) scGood.nd rfl (Or.inl rfl))
       (pss_one (ps_asg pe_bl (pg_sub (pv 3) (pe_op op_add (pv 6) (pv 8)) set_list)))))))))))
       (pss_one (ps_ret (pe_callB (crAllK (K := K) rfl rfl) (by rfl) B.all (by decide +kernel) (pa_cons (pv 3) pa_nil)))))))), ?_⟩
    have hzs : z.length ≤ sizeLine := Nat.le_trans hz (by decide)
    refine ⟨_, rfl, _, _, _, _, _, rfl, .ty _, hd.ty, kit_tuple d, _, rfl, iteNP (fun c => ?_) (fun c => ?_)⟩
    · have e : goodS z size d = false := by
        cases d <;> first | rfl | exact absurd rfl c
      rw [e] at k
      exact k H (L2.Same.refl _)
    have hd : Dp K H v d := by
      rcases hd with h | ⟨rfl, _⟩
      · exact h
      · exact absurd c (by decide)
    obtain ⟨a, xs, ds, rfl, rfl, ha, hall⟩ := Wn.Dp.tup_of hd c
    obtain ⟨hsp, hln⟩ := (show (∀ d ∈ ds, ShortP 1000 d) ∧ ds.length ≤ 1000 from hsh)
    have lx := Wn.DpAll.len hall
    refine ⟨(by show 1 ≤ sizeLine; decide), fun l nl => ?_⟩
    refine ⟨_, rfl, _, z.length, rfl, ⟨hzs, rfl⟩, l, _, _, rfl, rfl, upd_same, by omega, by omega, ?_, fun cv ncv => ?_⟩
    · show 1 * _ ≤ sizeLine
      rw [Nat.one_mul]
      exact hzs
    have ncv0 : H cv = none := n_upd ncv
    refine ⟨_, rfl, ?_⟩
    have ecv : (List.replicate ((z.length : Int)).toNat [V.bl false]).flatten = ((List.range z.length).map (covP [])).map V.bl := by
      rw [Int.toNat_natCast, List.map_map]
      have : ∀ n : Nat, (List.replicate n [V.bl false]).flatten = (List.range n).map (V.bl ∘ covP []) := fun n => by
        induction n with
        | zero => rfl
        | succ n ih =>
          rw [List.range_succ, List.map_append, ← ih, List.replicate_succ', List.flatten_append]
          rfl
      exact this _
    rw [ecv]
    have s1 : Same H (upd (upd H l (.lst [.bl false])) cv (.lst (((List.range z.length).map (covP [])).map V.bl))) := by walk_at "same"
    have e1 : upd (upd H l (.lst [.bl false])) cv (.lst (((List.range z.length).map (covP [])).map V.bl)) cv = some (.lst (((List.range z.length).map (covP [])).map V.bl)) := upd_same
    generalize upd (upd H l (.lst [.bl false])) cv (.lst (((List.range z.length).map (covP [])).map V.bl)) = H1 at s1 e1
    refine ⟨_, rfl, a, rfl, ⟨_, SqT.tk ha (TK.of s1)⟩, ?_⟩
    refine for_tup (K := K) (a := a) (xs := xs) (fun i σ H' => ∃ (ps : List Prt) (v5 v6 v7 v8 : Option V), σ = [some (.str z), some (.int size), some (.ref a), some (.ref cv), some (.int (lastP ps)), v5, v6, v7, v8] ∧ Same H H' ∧ H' cv = some (.lst (((List.range z.length).map (covP ps)).map V.bl)) ∧
      ds.take i = ps.map prtD ∧ (∀ p ∈ ps, okPrt z size p = true) ∧ risesP (-1) ps = true ∧ -1 ≤ lastP ps) ⟨[], _, _, _, _, rfl, s1, e1, rfl, (fun p hp => by cases hp), rfl, by decide⟩ (fun i σ H' _ ⟨_, _, _, _, _, _, s, _⟩ => SqT.tk ha (TK.of s)) ?_ ?_
    · rintro i x σ H2 hxi ⟨ps, v5, v6, v7, v8, rfl, s2, e2, htk, hok, hrs, hlp⟩
      obtain ⟨d, ed, hdx⟩ := Wn.DpAll.get hall hxi
      have hdm := List.mem_of_getElem? ed
      have hdx := Wn.Dp.sm s2 hdx
      have bad : isPartS z size d = false → Q (.bl false) H2 := fun b => by
        have := k H2 s2
        rw [good_bad hdm b] at this
        exact this
      have nop : prtOf d = none → Q (.bl false) H2 := fun e => bad (by unfold isPartS; rw [e])
      refine ⟨_, rfl, _, _, _, _, _, rfl, .ty _, Wn.Dp.ty hdx, kit_tuple d, _, rfl, iteNP (fun c => iteT (nop ?_)) (fun c => ?_)⟩
      · cases d <;> first | rfl | exact absurd rfl c
      obtain ⟨t, ys, es, rfl, rfl, ht, hys⟩ := Wn.Dp.tup_of hdx c
      have ly := Wn.DpAll.len hys
      refine ⟨_, rfl, _, ys.length, rfl, .inr ⟨_, ht, rfl⟩, rfl, _, rfl, iteNI (fun c => iteT (nop ?_)) (fun c => ?_)⟩
      · exact prt_len (by rw [← ly]; intro z; exact c (by rw [z]; rfl))
      obtain ⟨x0, x1, d0, d1, rfl, rfl, h0, h1⟩ := Wn.DpAll.two hys (by omega)
      refine ⟨_, rfl, t, _, _, x1, rfl, rfl, ht, rfl, _, _, _, _, _, rfl, .ty _, Wn.Dp.ty h1, kit_str d1, _, rfl, iteNP (fun c0 => nop ?_) (fun c1 => ?_)⟩
      · cases d0 <;> first | rfl | (cases d1 <;> first | rfl | exact absurd rfl c0)
      obtain ⟨sg, rfl, rfl⟩ := Wn.Dp.str_of h1 c1
      have e0 : decide (tyN d0 = "int" ∨ tyN d0 = "bool") = true ∧ decide (tyN d0 = "bool") = false ∨ ¬ tyN d0 = "int" := by
        by_cases q : tyN d0 = "int"
        · exact .inl ⟨decide_eq_true (.inl q), decide_eq_false (by rw [q]; decide)⟩
        · exact .inr q
      have nop0 : tyN d0 ≠ "int" → Q (.bl false) H2 := fun q => nop (by cases d0 <;> first | rfl | exact absurd rfl q)
      refine ⟨_, rfl, t, _, _, x0, rfl, rfl, ht, rfl, _, _, _, _, _, rfl, .ty _, Wn.Dp.ty h0, kit_int d0, _, rfl, iteNP (fun c => iteT (nop0 fun z => c (.inl z))) (fun c2 => ?_)⟩
      refine ⟨_, rfl, t, _, _, x0, rfl, rfl, ht, rfl, _, _, _, _, _, rfl, .ty _, Wn.Dp.ty h0, kit_bool d0, _, rfl, iteP (fun c => iteT (nop0 fun z => by rw [z] at c; exact absurd c (by decide))) (fun c3 => ?_)⟩
      obtain ⟨fi, rfl, rfl⟩ := Wn.Dp.int_of h0 (c2.resolve_right c3)
      refine ⟨_, rfl, t, _, _, _, rfl, rfl, ht, rfl, _, rfl, _, _, rfl, rfl, _, rfl, iteP (fun c => ?_) (fun c4 => ?_)⟩
      · have := k H2 s2
        rw [good_low (p := (fi, sg)) htk ed c] at this
        exact this
      refine ⟨_, rfl, t, _, rfl, ht, rfl, _, _, rfl, _, _, rfl, rfl, ?_⟩
      have hsg : sg.length ≤ 1000 := hsp _ hdm sg (List.mem_cons_of_mem _ List.mem_cons_self)
      have hsgs : sg.length ≤ sizeLine := Nat.le_trans hsg (by decide)
      have bad' : okPrt z size (fi, sg) = false → Q (.bl false) H2 := bad
      refine ⟨_, rfl, _, sg.length, rfl, ⟨hsgs, rfl⟩, _, _, rfl, rfl, _, rfl, iteP (fun c => iteT (bad' ?_)) (fun c5 => ?_)⟩
      · unfold okPrt
        rw [decide_eq_false (show ¬ 1 ≤ sg.length by omega)]
        simp
      refine ⟨_, rfl, _, sg.length, rfl, ⟨hsgs, rfl⟩, _, rfl, _, _, rfl, rfl, _, rfl, iteP (fun c => iteT (bad' ?_)) (fun c6 => ?_)⟩
      · unfold okPrt
        rw [decide_eq_false (show ¬ (sg.length : Int) ≤ size by omega)]
        simp
      refine ⟨_, rfl, _, rfl, _, rfl, _, rfl, _, rfl, _, sg.length, rfl, ⟨hsgs, rfl⟩, _, _, rfl, rfl, _, rfl, _, rfl, hzs, _, rfl, rfl, _, rfl, iteNS' (fun c => bad' ?_) (fun c7 => ?_)⟩
      · unfold okPrt
        rw [decide_eq_false (show ¬ cutS z (some fi) (some (fi + sg.length)) = sg from c)]
        simp
      have okp : okPrt z size (fi, sg) = true := by
        unfold okPrt
        rw [decide_eq_true (show 0 ≤ fi by omega), decide_eq_true (show 1 ≤ sg.length by omega), decide_eq_true (show (sg.length : Int) ≤ size by omega), decide_eq_true (show cutS z (some fi) (some (fi + sg.length)) = sg from c7)]
        rfl
      obtain ⟨b1, b2, b3, b4⟩ := okPrt_bd okp
      have b4 : fi + sg.length ≤ z.length := b4
      have b1 : 0 ≤ fi := b1
      refine ⟨_, rfl, ?_⟩
      refine ⟨_, rfl, _, sg.length, rfl, ⟨hsgs, rfl⟩, sg.length, rfl, by omega, by omega, ?_⟩
      refine for_range (lo := 0) (fun j σ H' => ∃ v8 : Option V, σ = [some (.str z), some (.int size), some (.ref a), some (.ref cv), some (.int fi), some (.ref t), some (.int fi), some (.str sg), v8] ∧ Same H H' ∧ H' cv = some (.lst (((List.range z.length).map fun x => covP ps x || (decide (fi ≤ (x : Int)) && decide ((x : Int) < fi + j))).map V.bl)))
        ⟨_, rfl, s2, by rw [e2]; congr 4; funext x; rw [show (decide (fi ≤ (x : Int)) && decide ((x : Int) < fi + ((0 : Nat) : Int))) = false from by rw [Bool.and_eq_false_iff, decide_eq_false_iff_not, decide_eq_false_iff_not]; omega, Bool.or_false]⟩ ?_ ?_
      · rintro j σ H3 hj ⟨v8, rfl, s3, e3⟩
        have ex : ixN (((List.range z.length).map fun x => covP ps x || (decide (fi ≤ (x : Int)) && decide ((x : Int) < fi + j))).map V.bl).length (fi + (0 + (j : Int))) = some (fi.toNat + j) := by
          rw [List.length_map, List.length_map, List.length_range]
          unfold ixN
          rw [if_pos (by omega), if_pos (by omega)]
          congr 1
          omega
        refine ⟨_, rfl, _, rfl, _, rfl, _, _, rfl, rfl, cv, _, _, _, rfl, rfl, e3, ex, _, rfl, s3.wrn ncv0, ?_⟩
        rw [upd_same]
        congr 2
        refine List.ext_getElem (by simp) fun m h1 h2 => ?_
        rw [List.getElem_set]
        simp only [List.length_set, List.length_map, List.length_range] at h1
        simp only [List.getElem_map, List.getElem_range]
        by_cases em : fi.toNat + j = m
        · rw [if_pos em, show (decide (fi ≤ (m : Int)) && decide ((m : Int) < fi + ((j + 1 : Nat) : Int))) = true from by rw [Bool.and_eq_true, decide_eq_true_eq, decide_eq_true_eq]; omega, Bool.or_true]
        · rw [if_neg em, show decide ((m : Int) < fi + ((j + 1 : Nat) : Int)) = decide ((m : Int) < fi + (j : Int)) from decide_eq_decide.mpr (by omega)]
      · rintro σ H3 ⟨v8, rfl, s3, e3⟩
        refine ⟨ps ++ [(fi, sg)], _, _, _, _, by rw [lastP_snoc], s3, ?_, ?_, ?_, ?_, by rw [lastP_snoc]; omega⟩
        · rw [e3]
          congr 4
          funext x
          rw [cov_snoc 0 ps (fi, sg) 0, Int.toNat_natCast]
        · have hi := (List.getElem?_eq_some_iff.mp ed).1
          rw [List.take_succ_eq_append_getElem hi, htk, List.map_append]
          rw [List.getElem?_eq_getElem hi] at ed
          rw [Option.some.inj ed]
          rfl
        · intro p hp
          rw [List.mem_append, List.mem_singleton] at hp
          rcases hp with hp | rfl
          · exact hok p hp
          · exact okp
        · rw [rises_app, hrs]
          show (true && decide (lastP ps < fi) && true) = true
          rw [decide_eq_true (show lastP ps < fi by omega)]
          rfl
    · rintro σ H2 ⟨ps, v5, v6, v7, v8, rfl, s2, e2, htk, hok, hrs, hlp⟩
      rw [lx, List.take_length] at htk
      subst htk
      refine ⟨_, rfl, cv, _, rfl, SqL.of e2, ?_⟩
      have := k H2 s2
      have e : goodS z size (.tuple (ps.map prtD)) = ((List.range z.length).map (covP ps)).all id := by
        show ((ps.map prtD).all (isPartS z size) && risesP (-1) ((ps.map prtD).filterMap prtOf) && (List.range z.length).all (covP ((ps.map prtD).filterMap prtOf))) = _
        have e2 : (ps.map prtD).filterMap prtOf = ps := by
          rw [List.filterMap_map]
          exact List.filterMap_some
        have e3 : (ps.map prtD).all (isPartS z size) = true := by
          rw [List.all_map, List.all_eq_true]
          exact fun p hp => hok p hp
        rw [e2, e3, hrs, List.all_map]
        rfl
      rw [e] at this
      exact this
end
end Wn

set_option maxHeartbeats 600000
namespace Wn
open PySem L2
open SX (S S_len S_cat S_beq_eq join_S)
set_option pp.maxSteps 700
set_option pp.deepTerms false
local macro_rules | `(tactic| walk_at "h") => `(tactic| first | with_reducible assumption | (with_reducible exact upd_same) | (with_reducible apply g_upd; (walk_at "neq"); (walk_at "h")) | (with_reducible apply g_same; (with_reducible assumption); (walk_at "h")) | (with_reducible apply g_kp; (with_reducible assumption); (walk_at "nin"); (walk_at "h")) | (with_reducible apply g_tk; (with_reducible assumption); (walk_at "h")))
local macro_rules | `(tactic| walk_at "neq") => `(tactic| first | with_reducible assumption | (with_reducible apply Ne.symm; with_reducible assumption) | (with_reducible apply ne_upd; (with_reducible assumption)) | (with_reducible apply Ne.symm; with_reducible apply ne_upd; with_reducible assumption) | (with_reducible apply ne_fr; (with_reducible assumption); (walk_at "h")) | (with_reducible apply ne_fr'; (with_reducible assumption); (walk_at "h")) | (with_reducible apply ne_kd; (walk_at "h"); (walk_at "h"); (with_unfolding_all (intro z; cases z))))
local macro_rules | `(tactic| walk_at "nin") => `(tactic| first | (with_reducible exact nin0) | with_reducible assumption | (with_reducible apply ninc; (walk_at "neq"); (walk_at "nin")))
local macro_rules | `(tactic| walk_at "none") => `(tactic| first | with_reducible assumption | (with_reducible apply n_upd; (with_reducible assumption)) | (with_reducible apply n_same; (with_reducible assumption); (walk_at "none")) | (with_reducible apply n_kp; (with_reducible assumption); (walk_at "nin"); (walk_at "none")))
local macro_rules | `(tactic| walk_at "mem") => `(tactic| first | (with_reducible exact List.mem_cons_self) | (with_reducible apply List.mem_cons_of_mem; (walk_at "mem")))
local macro_rules | `(tactic| walk_at "am") => `(tactic| first | (with_reducible exact am0) | (with_reducible apply am1; (first | (apply Or.inl; walk_at "mem") | (apply Or.inr; walk_at "none")); (walk_at "am")))
local macro_rules | `(tactic| walk_at "tk") => `(tactic| first | (with_reducible exact TK.refl _) | with_reducible assumption | (with_reducible apply t_tk; (with_reducible assumption); (walk_at "tk")) | (with_reducible apply t_same; (with_reducible assumption); (walk_at "tk")) | (with_reducible apply t_new; (with_reducible assumption); (walk_at "tk")) | (with_reducible apply t_wr; (walk_at "h"); (with_unfolding_all rfl); (walk_at "tk")))
local macro_rules | `(tactic| walk_at "same") => `(tactic| first | (with_reducible exact L2.Same.refl _) | with_reducible assumption | (with_reducible apply s_same; (with_reducible assumption); (walk_at "same")) | (with_reducible apply s_new; (with_reducible assumption); (walk_at "same")) | (with_reducible apply s_wrn; (walk_at "none"); (walk_at "same")))
local macro_rules | `(tactic| walk_at "kp") => `(tactic| first | (with_reducible exact Kp.refl _ _) | with_reducible assumption | (with_reducible apply k_same; (with_reducible assumption); (walk_at "kp")) | (with_reducible apply k_kp; (with_reducible assumption); (walk_at "kp")) | (with_reducible apply k_kpm; (with_reducible assumption); (walk_at "am"); (walk_at "kp")) | (with_reducible apply k_new; (with_reducible assumption); (walk_at "kp")) | (with_reducible apply k_wr; (walk_at "mem"); (walk_at "kp")) | (with_reducible apply k_wrn; (walk_at "none"); (walk_at "kp")))
local macro_rules | `(tactic| walk_at "rp") => `(tactic| first | with_reducible assumption | (with_reducible exact Rp.int) | (with_reducible exact Rp.str) | (with_reducible exact Rp.none) | (with_reducible exact Rp.bool) | (with_reducible apply Rp.tk'; (with_reducible assumption); (walk_at "tk")) | (with_reducible apply Rp.tup; (walk_at "h"); (walk_at "rpl")))
local macro_rules | `(tactic| walk_at "rpl") => `(tactic| first | with_reducible assumption | (with_reducible exact RpL.nil) | (with_reducible apply RpL.tk'; (with_reducible assumption); (walk_at "tk")) | (with_reducible apply RpL.cons; (walk_at "rp"); (walk_at "rpl")))
local macro_rules | `(tactic| walk_at "g") => `(tactic| repeat (first | refine ⟨_, rfl, ?_⟩ | refine ⟨_, _, rfl, rfl, ?_⟩ | refine ⟨rfl, _, rfl, ?_⟩ | refine ⟨_, _, rfl, rfl, (by first | decide | omega), ?_⟩))
abbrev sParts : Stmt := top 12

theorem walk_app : ∀ (ps : List Prt) (l t : Int) (p : Prt) (t' : Int), walkP l t ps = some t' → (ps.getLast?.map (·.1)).getD l < p.1 → p.1 ≤ t' → walkP l t (ps ++ [p]) = some (max t' (p.1 + p.2.length))
  | [], l, t, p, t', h, h1, h2 => by
    have : t = t' := Option.some.inj h
    subst this
    have h1 : l < p.1 := h1
    show walkP l t [p] = _
    unfold walkP
    rw [if_neg (by omega)]
    rfl
  | q :: ps, l, t, p, t', h, h1, h2 => by
    show walkP l t (q :: (ps ++ [p])) = _
    unfold walkP at h ⊢
    split at h
    · cases h
    · rename_i hc
      rw [if_neg hc]
      refine walk_app ps q.1 _ p t' h ?_ h2
      cases ps with
      | nil => exact h1
      | cons r ps =>
        rw [List.getLast?_cons_cons] at h1
        rw [List.getLast?_cons] at h1 ⊢
        exact h1
def spParts (K : PySem.W.Frag) : Sp := fun vs H Q _ => ∃ (d f : Addr) (n size : Int) (cs : List Nat), vs = [.ref d, .str (S cs), .int size] ∧ Deck H d f n ∧ n < 2 ^ 59 ∧ 1 ≤ size ∧ size ≤ 100 ∧ cs.length ≤ 60 ∧
  ∀ (H' : Hp) (a : Addr) (ps : List Prt), TupAt K H' a (ps.map prtD) → areS (S cs) size (.tuple (ps.map prtD)) = true → ps.length ≤ 60 → Kp [d] H H' → Deck H' d f (n + 200) → Q (.ref a) H'

section
variable {P : Program} {w : World} {K : PySem.W.Frag} {mg : Str → Option Value} {base : Heap}
theorem scParts : FnScope ["_law_deck_here", "_law_text_here", "_law_size", "_law_found", "_law_there", "_law_first", "_law_long"] ["_law_deck_here", "_law_text_here", "_law_size"] (defScope sParts) := ⟨rfl, rfl, rfl, by decide +kernel, rfl, by decide +kernel, by decide +kernel⟩
theorem ok_parts {f : Addr} {fd : FuncData} (F : Fun K "_law_parts" "_law_parts" sParts f fd) (B : TB mg) (cN : Cd P w K mg base 2 "_law_next" ["_law_deck_here", "_law_many"] spNext) : FnOk P w K mg base CX0 3 f fd ["_law_deck_here", "_law_text_here", "_law_size"] (spParts K) := by
  obtain ⟨fN, fdN, GN, mN, kN, bN⟩ := cN.tk
  refine F.ok scParts (fun vs H Q E h => ?_) (fun cdv A outer s H vs Q E hr h => ?_)
  · obtain ⟨d, f, n, size, cs, rfl, _⟩ := h
    rfl
  · obtain ⟨d, f, n, size, cs, rfl, D0, hn, z1, z2, hc, k⟩ := h
    have hr2 : Room 2 _ := hr
    refine ⟨_, (pss_cons (ps_set (i := 3) scParts.nd rfl (Or.inl rfl) (pe_lst pa_nil))
       (pss_cons (ps_set (i := 4) scParts.nd rfl (Or.inl rfl) pe_int)
       (pss_cons (ps_set (i := 5) scParts.nd rfl (Or.inl rfl) pe_int)
       (pss_cons (ps_while PassesOwn.never (pt_cmpR op_lt (pv 4) (pe_callB (lenK (K := K) rfl) (by rfl) B.len PySem.boot_len (pa_cons (pv 1) pa_nil)) (nomark _))
       (pss_cons (ps_set (i := 6) scParts.nd rfl (Or.inl rfl) (pe_op op_add pe_int (pe_call GN hr2 rfl mN kN bN .nil pass0 (pa_cons (pv 0) (pa_cons (pv 2) pa_nil)))))
       (pss_one (ps_if (pt_cmpR op_gt (pe_op op_add (pv 5) (pv 6)) (pv 4) (nomark _))
       (pss_cons (ps_expr (pe_bm PySem.F.plainAttrs_list PySem.F.slot_list_append PySem.F.type_list_append mt_append (pv 3) (pa_cons (pe_tup (pa_cons (pv 5) (pa_cons (pe_slice sl_str (pv 1) (po_some (pv 5)) (po_some (pe_op op_add (pv 5) (pv 6)))) pa_nil))) pa_nil)))
       (pss_cons (ps_set (i := 4) scParts.nd rfl (Or.inl rfl) (pe_op op_add (pv 5) (pe_callB (lenK (K := K) rfl) (by rfl) B.len PySem.boot_len (pa_cons (pe_slice sl_str (pv 1) (po_some (pv 5)) (po_some (pe_op op_add (pv 5) (pv 6)))) pa_nil))))
       (pss_one (ps_set (i := 5) scParts.nd rfl (Or.inl rfl) (pe_callB (call_max2 rfl) (by rfl) B.max (by decide +kernel) (pa_cons (pe_op op_add (pv 5) pe_int) (pa_cons (pe_op op_sub (pv 4) (pe_call GN hr2 rfl mN kN bN .nil pass0 (pa_cons (pv 0) (pa_cons pe_int pa_nil)))) pa_nil)))))))
       (pss_one (ps_set (i := 5) scParts.nd rfl (Or.inl rfl) (pe_op op_add (pv 5) pe_int)))))))
       (pss_one (ps_ret (pe_callTy (tupOfK (K := K) rfl) (by rfl) B.tuple PyProof.Rows.boot_tuple (pa_cons (pv 3) pa_nil)))))))), ?_⟩
    have hzs : (S cs).length ≤ sizeLine := by rw [S_len]; exact Nat.le_trans hc (by decide)
    have lS : (S cs).length = cs.length := S_len cs
    refine ⟨Nat.zero_le _, fun fa nfa => ?_⟩
    obtain ⟨zd, hd0⟩ := D0.lst
    obtain ⟨zf, hf0⟩ := D0.lst2
    have nfd : fa ≠ d := by walk_at "neq"
    have nff : fa ≠ f := by walk_at "neq"
    refine while_m (fun σ H' => ∃ (ps : List Prt) (there first : Nat) (v6 : Option V), σ = [some (.ref d), some (.str (S cs)), some (.int size), some (.ref fa), some (.int there), some (.int first), v6] ∧ LstAt K H' fa (ps.map prtD) ∧ walkP (-1) 0 ps = some (there : Int) ∧ (∀ p ∈ ps, okPrt (S cs) size p = true) ∧
      lastP ps < first ∧ first ≤ there ∧ there ≤ cs.length ∧ ps.length ≤ first ∧ Kp [d] H H' ∧ Deck H' d f (n + 3 * first)) (fun σ H' => match σ with | [_, _, _, _, _, some (.int first), _] => (61 - first).toNat | _ => 0)
      ⟨[], 0, 0, _, rfl, ⟨[], upd_same, RpL.nil⟩, rfl, (fun p hp => by cases hp), by decide, Nat.le_refl _, Nat.zero_le _, Nat.zero_le _, by walk_at "kp", (D0.same (by walk_at "same")).mono (by omega)⟩ ?_
    rintro m σ H1 em ⟨ps, there, first, v6, rfl, hL, hw, hok, hl, hft, htl, hpl, kp, D1⟩
    have em : m = (61 - (first : Int)).toNat := em
    refine ⟨_, rfl, _, rfl, _, (S cs).length, rfl, ⟨hzs, rfl⟩, _, _, rfl, rfl, _, rfl, iteP (fun c => ?_) (fun c => ?_)⟩
    · have c : there < cs.length := by rw [lS] at c; omega
      refine ⟨_, fun σ' H' h => h, ?_⟩
      refine ⟨_, rfl, _, rfl, d, f, size, n + 3 * first, rfl, by omega, by omega, D1, fun r H2 r0 r1 k2 D2 t2 => ?_⟩
      refine ⟨_, _, rfl, rfl, ?_⟩
      obtain ⟨zs, hz1, rz1⟩ := id hL
      have hz2 : H2 fa = some (.lst zs) := by walk_at "h"
      have rz2 : RpL K H2 (ps.map prtD) zs := by walk_at "rpl"
      have lz := RpL.len _ _ rz2
      rw [List.length_map] at lz
      have er : 1 + r = ((1 + r.toNat : Nat) : Int) := by omega
      have efl : (first : Int) + (1 + r) = ((first + (1 + r.toNat) : Nat) : Int) := by omega
      refine ⟨_, rfl, _, rfl, _, _, rfl, rfl, _, rfl, _, _, rfl, rfl, _, rfl, iteP (fun c2 => ?_) (fun c2 => ?_)⟩
      · have ec : cutS (S cs) (some (first : Int)) (some ((first : Int) + (1 + r))) = S ((cs.drop first).take (1 + r.toNat)) := by
          rw [efl, cutS_S, Nat.add_sub_cancel_left]
        refine ⟨_, rfl, .inl ⟨rfl, _, SqL.of hz2⟩, _, rfl, _, rfl, _, rfl, _, rfl, _, rfl, _, rfl, _, _, rfl, rfl, _, rfl, _, rfl, hzs, (by show 2 ≤ sizeLine; decide), fun tp ntp => ?_⟩
        rw [ec]
        obtain ⟨q1, q2, q3, q4⟩ := push_tup (ds := [.int first, .str (S ((cs.drop first).take (1 + r.toNat)))]) hz2 rz2 ntp (RpL.cons Rp.int (RpL.cons Rp.str RpL.nil))
        refine ⟨fa, _, _, rfl, rfl, q1, Nat.lt_of_le_of_lt (show zs.length ≤ 1000 by omega) (by decide), ?_⟩
        have D3 := D2.kp q4 (by walk_at "nin") (by walk_at "nin")
        have kp3 : Kp [d] H (upd (upd H2 tp (.tup [V.int first, V.str (S ((cs.drop first).take (1 + r.toNat)))])) fa (.lst (zs ++ [V.ref tp]))) := by walk_at "kp"
        generalize upd (upd H2 tp (.tup [V.int first, V.str (S ((cs.drop first).take (1 + r.toNat)))])) fa (.lst (zs ++ [V.ref tp])) = H3 at q2 q3 q4 D3 kp3
        have ll : (S ((cs.drop first).take (1 + r.toNat))).length = min (1 + r.toNat) (cs.length - first) := by rw [S_len, List.length_take, List.length_drop]
        have lls : (S ((cs.drop first).take (1 + r.toNat))).length ≤ sizeLine := by rw [ll]; exact Nat.le_trans (show _ ≤ 60 by omega) (by decide)
        refine ⟨_, rfl, _, rfl, _, rfl, _, rfl, _, rfl, _, rfl, _, _, rfl, rfl, _, rfl, _, rfl, hzs, ?_⟩
        rw [ec]
        refine ⟨_, _, rfl, ⟨lls, rfl⟩, _, _, rfl, rfl, ?_⟩
        rw [ll]
        have et : (first : Int) + ((min (1 + r.toNat) (cs.length - first) : Nat) : Int) = ((first + min (1 + r.toNat) (cs.length - first) : Nat) : Int) := by omega
        have okp : okPrt (S cs) size ((first : Int), S ((cs.drop first).take (1 + r.toNat))) = true := by
          unfold okPrt
          simp only [Bool.and_eq_true, decide_eq_true_eq]
          refine ⟨⟨⟨by omega, by rw [ll]; omega⟩, by rw [ll]; omega⟩, ?_⟩
          rw [ll, et, cutS_S, Nat.add_sub_cancel_left]
          congr 1
          by_cases hm : 1 + r.toNat ≤ cs.length - first
          · rw [Nat.min_eq_left hm]
          · rw [Nat.min_eq_right (by omega), List.take_of_length_le (by rw [List.length_drop]; exact Nat.le_refl _), List.take_of_length_le (by rw [List.length_drop]; omega)]
        have hw3 : walkP (-1) 0 (ps ++ [((first : Int), S ((cs.drop first).take (1 + r.toNat)))]) = some ((first + min (1 + r.toNat) (cs.length - first) : Nat) : Int) := by
          rw [walk_app ps (-1) 0 (_, _) _ hw hl (by show (first : Int) ≤ there; omega)]
          congr 1
          show max (there : Int) ((first : Int) + (S ((cs.drop first).take (1 + r.toNat))).length) = _
          rw [ll]
          omega
        generalize hth : first + min (1 + r.toNat) (cs.length - first) = there' at hw3 et
        dsimp only
        rw [et]
        refine ⟨_, rfl, _, _, rfl, rfl, ?_⟩
        refine ⟨_, rfl, _, rfl, d, f, 3, n + 3 * first + 1, rfl, by decide, by omega, D3, fun r2 H4 u0 u1 k4 D4 t4 => ?_⟩
        refine ⟨_, _, rfl, rfl, _, _, rfl, ?_⟩
        have hq4 := q2.kp k4 t4 (by walk_at "nin")
        have ef : (if (there' : Int) - r2 > (first : Int) + 1 then (there' : Int) - r2 else (first : Int) + 1) = ((max (first + 1) (there' - r2.toNat) : Nat) : Int) := by split <;> omega
        dsimp only
        rw [ef]
        generalize hfi : max (first + 1) (there' - r2.toNat) = first'
        refine ⟨_, ?_, rfl, ps ++ [((first : Int), S ((cs.drop first).take (1 + r.toNat)))], there', first', _, rfl, ?_, hw3, ?_, ?_, by omega, by omega, by rw [List.length_append, List.length_singleton]; omega, by walk_at "kp", D4.mono (by omega)⟩
        · show (61 - (first' : Int)).toNat < m
          omega
        · rw [List.map_append]
          exact hq4
        · intro p hp
          rw [List.mem_append, List.mem_singleton] at hp
          rcases hp with hp | rfl
          · exact hok p hp
          · exact okp
        · rw [lastP_snoc]
          show (first : Int) < first'
          omega
      · refine ⟨_, rfl, _, _, rfl, rfl, ?_⟩
        refine ⟨_, ?_, rfl, ps, there, first + 1, _, rfl, ⟨zs, hz2, rz2⟩, hw, hok, by omega, by omega, htl, by omega, by walk_at "kp", D2.mono (by omega)⟩
        show (61 - ((first : Int) + 1)).toNat < m
        omega
    · have c : there = cs.length := by rw [lS] at c; omega
      obtain ⟨zs, hz1, rz1⟩ := id hL
      refine ⟨_, rfl, fa, zs, rfl, .inl ⟨SqL.of hz1, fun t nt => ?_⟩⟩
      refine k _ t ps (Rp.tup upd_same (by walk_at "rpl")) ?_ (by omega) (by walk_at "kp") ((D1.same (by walk_at "same")).mono (by omega))
      show ((ps.map prtD).all (isPartS (S cs) size) && decide (walkP (-1) 0 ((ps.map prtD).filterMap prtOf) = some ((S cs).length : Int))) = true
      have e2 : (ps.map prtD).filterMap prtOf = ps := by
        rw [List.filterMap_map]
        exact List.filterMap_some
      have e3 : (ps.map prtD).all (isPartS (S cs) size) = true := by
        rw [List.all_map, List.all_eq_true]
        exact fun p hp => hok p hp
      rw [e2, e3, hw, c, lS, decide_eq_true rfl]
      rfl
end
end Wn

namespace Wn
open PySem L2
/-! ### data whose repr and == are at hand: no great ints, signs that are signs, no dicts -/
mutual
def nice : PyData → Bool
  | .none | .bool _ => true
  | .int i => decide (i.natAbs.log2 < 1920)
  | .str x => PySem.PyData.strOk x
  | .list xs | .tuple xs => niceAll xs
  | .dict _ => false
def niceAll : List PyData → Bool
  | [] => true
  | x :: xs => nice x && niceAll xs
end
mutual
theorem nice_lay : ∀ d : PyData, nice d = true → d.canLay0 = true
  | .none, _ => rfl
  | .bool _, _ => rfl
  | .int _, _ => rfl
  | .str x, h => h
  | .list xs, h => niceAll_lay xs h
  | .tuple xs, h => niceAll_lay xs h
  | .dict _, h => by cases h
theorem niceAll_lay : ∀ ds : List PyData, niceAll ds = true → PyData.canLayAll0 ds = true
  | [], _ => rfl
  | x :: xs, h => by
    unfold niceAll at h
    rw [Bool.and_eq_true] at h
    unfold PyData.canLayAll0
    rw [nice_lay x h.1, niceAll_lay xs h.2]
    rfl
end
mutual
theorem nice_show : ∀ d : PyData, nice d = true → d.showable = true
  | .none, _ => rfl
  | .bool _, _ => rfl
  | .int _, h => h
  | .str x, h => rfl
  | .list xs, h => niceAll_show xs h
  | .tuple xs, h => niceAll_show xs h
  | .dict _, h => by cases h
theorem niceAll_show : ∀ ds : List PyData, niceAll ds = true → PyData.showableAll ds = true
  | [], _ => rfl
  | x :: xs, h => by
    unfold niceAll at h
    rw [Bool.and_eq_true] at h
    unfold PyData.showableAll
    rw [nice_show x h.1, niceAll_show xs h.2]
    rfl
end
mutual
theorem nice_ints : ∀ d : PyData, nice d = true → d.intsShort 2000 = true
  | .none, _ => rfl
  | .bool _, _ => rfl
  | .int i, h => by
    have h : i.natAbs.log2 < 1920 := of_decide_eq_true h
    have := PyProof.Rows.int_text_len_1921 h
    unfold PyData.intsShort
    refine decide_eq_true ?_
    show (Str.ofString (toString i)).length ≤ 2000
    omega
  | .str x, h => rfl
  | .list xs, h => niceAll_ints xs h
  | .tuple xs, h => niceAll_ints xs h
  | .dict _, h => by cases h
theorem niceAll_ints : ∀ ds : List PyData, niceAll ds = true → PyData.intsShortAll 2000 ds = true
  | [], _ => rfl
  | x :: xs, h => by
    unfold niceAll at h
    rw [Bool.and_eq_true] at h
    unfold PyData.intsShortAll
    rw [nice_ints x h.1, niceAll_ints xs h.2]
    rfl
end
theorem nice_ok {d : PyData} (h : nice d = true) (hd : d.depth ≤ 60) (hb : d.bulk ≤ 8000) : d.showable = true ∧ d.hasDict = false ∧ d.depth ≤ 60 ∧ d.shown.length ≤ sizeLine := by
  have h1 := nice_lay d h
  refine ⟨nice_show d h, PyData.hasDict_of_canLay d h1, hd, ?_⟩
  have := PyData.shown_le_bulk 2000 (by decide) d (PyData.leavesShort_of_canLay0 2000 d h1 (nice_ints d h))
  rw [sizeLine_eq]
  omega
theorem nice_shaped {d : PyData} (h : nice d = true) (hd : d.depth ≤ 64) : SeqAt.shaped d = true := by
  unfold SeqAt.shaped
  rw [nice_lay d h, decide_eq_true hd]
  rfl
theorem niceAll_app : ∀ (xs ys : List PyData), niceAll (xs ++ ys) = (niceAll xs && niceAll ys)
  | [], ys => by
    show niceAll ys = (true && niceAll ys)
    rw [Bool.true_and]
  | x :: xs, ys => by
    show (nice x && niceAll (xs ++ ys)) = ((nice x && niceAll xs) && niceAll ys)
    rw [niceAll_app xs ys, Bool.and_assoc]
theorem niceAll_of : ∀ {xs : List PyData}, (∀ x ∈ xs, nice x = true) → niceAll xs = true
  | [], _ => rfl
  | x :: xs, h => by
    show (nice x && niceAll xs) = true
    rw [h x List.mem_cons_self, niceAll_of fun y hy => h y (List.mem_cons_of_mem _ hy)]
    rfl
theorem niceAll_mem : ∀ {xs : List PyData}, niceAll xs = true → ∀ x ∈ xs, nice x = true
  | y :: ys, h, x, hx => by
    unfold niceAll at h
    rw [Bool.and_eq_true] at h
    rcases List.mem_cons.mp hx with rfl | hx
    · exact h.1
    · exact niceAll_mem h.2 x hx
theorem nice_int {i : Int} (h : i.natAbs < 2 ^ 60) : nice (.int i) = true := by
  show decide (i.natAbs.log2 < 1920) = true
  refine decide_eq_true ?_
  by_cases hx : i.natAbs = 0
  · rw [hx]
    decide
  · have : i.natAbs.log2 < 60 := (Nat.log2_lt hx).mpr h
    omega
theorem nice_S {cs : List Nat} (h : ∀ c ∈ cs, c < 0x110000) : nice (.str (SX.S cs)) = true := by
  show (SX.S cs).cps.all (· < 0x110000) = true
  rw [← Array.all_toList, List.all_eq_true]
  intro c hc
  exact decide_eq_true (h c (by simpa using hc))
theorem bulk_le {B : Nat} : ∀ {xs : List PyData}, (∀ x ∈ xs, x.bulk ≤ B) → PyData.bulkAll xs ≤ (B + 1) * xs.length
  | [], _ => Nat.zero_le _
  | x :: xs, h => by
    have h1 := h x List.mem_cons_self
    have h2 := bulk_le fun y hy => h y (List.mem_cons_of_mem _ hy)
    rw [List.length_cons, Nat.mul_succ]
    unfold PyData.bulkAll
    omega
theorem depth_le {B : Nat} : ∀ {xs : List PyData}, (∀ x ∈ xs, x.depth ≤ B) → PyData.depthAll xs ≤ B
  | [], _ => Nat.zero_le _
  | x :: xs, h => by
    have h1 := h x List.mem_cons_self
    have h2 := depth_le fun y hy => h y (List.mem_cons_of_mem _ hy)
    unfold PyData.depthAll
    omega
end Wn

namespace Wn
open PySem L2
open SX (S S_len S_cat S_beq_eq join_S)
abbrev sOk (z : Str) : Bool := PySem.PyData.strOk z
theorem sOk_iff {z : Str} : sOk z = true ↔ ∀ c ∈ z.cps.toList, c < 0x110000 := by
  show z.cps.all (· < 0x110000) = true ↔ _
  rw [← Array.all_toList, List.all_eq_true]
  exact ⟨fun h c hc => of_decide_eq_true (h c hc), fun h c hc => decide_eq_true (h c hc)⟩
theorem sOk_cut {z : Str} {lo hi : Option Int} (h : sOk z = true) : sOk (cutS z lo hi) = true := by
  rw [sOk_iff] at h ⊢
  intro c hc
  refine h c ?_
  unfold cutS at hc
  have hc : c ∈ (z.cps.toList.drop (HT.sIx z.length 0 lo)).take (HT.sIx z.length z.length hi - HT.sIx z.length 0 lo) := by simpa using hc
  exact List.mem_of_mem_drop (List.mem_of_mem_take hc)
theorem sOk_app {x y : Str} (h1 : sOk x = true) (h2 : sOk y = true) : sOk (x ++ y) = true := by
  rw [sOk_iff] at *
  intro c hc
  have hc : c ∈ x.cps.toList ++ y.cps.toList := by
    have e : (x ++ y).cps = x.cps ++ y.cps := rfl
    rw [e] at hc
    simpa using hc
  rcases List.mem_append.mp hc with h | h
  · exact h1 c h
  · exact h2 c h
/-- what a bent thing keeps -/
def ElemOk (d : PyData) : Prop := ShortP 1000 d ∧ nice d = true ∧ d.depth ≤ 3 ∧ d.bulk ≤ 70
def BentOk (d : PyData) : Prop := ShortPs 1000 d ∧ (d = .dict [] ∨ (nice d = true ∧ d.depth ≤ 60 ∧ d.bulk ≤ 8000))
def PrtOk (p : Prt) : Prop := (0 ≤ p.1 ∧ p.1 ≤ 60) ∧ p.2.length ≤ 60 ∧ sOk p.2 = true
theorem bent_tup {L : List PyData} (h : ∀ d ∈ L, ElemOk d) (hl : L.length ≤ 100) : BentOk (.tuple L) := by
  refine ⟨⟨fun d hd => (h d hd).1, by omega⟩, .inr ⟨niceAll_of fun d hd => (h d hd).2.1, ?_, ?_⟩⟩
  · have := depth_le (B := 3) (xs := L) fun d hd => (h d hd).2.2.1
    show PyData.depthAll L + 1 ≤ 60
    omega
  · have := bulk_le (B := 70) (xs := L) fun d hd => (h d hd).2.2.2
    show PyData.bulkAll L ≤ 8000
    have h2 : (70 + 1) * L.length ≤ (70 + 1) * 100 := Nat.mul_le_mul_left _ hl
    omega
theorem bent_lst {L : List PyData} (h : ∀ d ∈ L, ElemOk d) (hl : L.length ≤ 100) : BentOk (.list L) := by
  refine ⟨trivial, .inr ⟨niceAll_of fun d hd => (h d hd).2.1, ?_, ?_⟩⟩
  · have := depth_le (B := 3) (xs := L) fun d hd => (h d hd).2.2.1
    show PyData.depthAll L + 1 ≤ 60
    omega
  · have := bulk_le (B := 70) (xs := L) fun d hd => (h d hd).2.2.2
    show PyData.bulkAll L ≤ 8000
    have h2 : (70 + 1) * L.length ≤ (70 + 1) * 100 := Nat.mul_le_mul_left _ hl
    omega
/-- a leaf -/
def LeafOk : PyData → Prop
  | .none => True
  | .bool _ => True
  | .int i => i.natAbs < 2 ^ 60
  | .str z => z.length ≤ 62 ∧ sOk z = true
  | _ => False
theorem leaf_nice {d : PyData} (h : LeafOk d) : nice d = true ∧ d.depth = 0 ∧ d.bulk ≤ 62 := by
  cases d with
  | none => exact ⟨rfl, rfl, Nat.zero_le _⟩
  | bool b => exact ⟨rfl, rfl, Nat.zero_le _⟩
  | int i => exact ⟨nice_int h, rfl, Nat.zero_le _⟩
  | str z => exact ⟨h.2, rfl, h.1⟩
  | list ds => exact h.elim
  | tuple ds => exact h.elim
  | dict kv => exact h.elim
theorem leaf_short {ds : List PyData} (h : ∀ d ∈ ds, LeafOk d) : ShortP 1000 (.tuple ds) := fun z hz => by
  have := h _ hz
  exact Nat.le_trans this.1 (by decide)
theorem elem_tup {ds : List PyData} (h : ∀ d ∈ ds, LeafOk d) (hb : PyData.bulkAll ds ≤ 70) : ElemOk (.tuple ds) := by
  refine ⟨leaf_short h, niceAll_of fun d hd => (leaf_nice (h d hd)).1, ?_, hb⟩
  have := depth_le (B := 0) (xs := ds) fun d hd => by rw [(leaf_nice (h d hd)).2.1]; exact Nat.le_refl _
  show PyData.depthAll ds + 1 ≤ 3
  omega
theorem elem_lst {ds : List PyData} (h : ∀ d ∈ ds, LeafOk d) (hb : PyData.bulkAll ds ≤ 70) : ElemOk (.list ds) := by
  refine ⟨trivial, niceAll_of fun d hd => (leaf_nice (h d hd)).1, ?_, hb⟩
  have := depth_le (B := 0) (xs := ds) fun d hd => by rw [(leaf_nice (h d hd)).2.1]; exact Nat.le_refl _
  show PyData.depthAll ds + 1 ≤ 3
  omega
theorem leaf1 {x : PyData} (h1 : LeafOk x) : ∀ d ∈ [x], LeafOk d := fun d hd => by
  rw [List.mem_singleton] at hd
  subst hd
  exact h1
theorem leaf2 {x y : PyData} (h1 : LeafOk x) (h2 : LeafOk y) : ∀ d ∈ [x, y], LeafOk d := fun d hd => by
  rcases List.mem_cons.mp hd with rfl | hd
  · exact h1
  · exact leaf1 h2 d hd
theorem leaf3 {x y z : PyData} (h1 : LeafOk x) (h2 : LeafOk y) (h3 : LeafOk z) : ∀ d ∈ [x, y, z], LeafOk d := fun d hd => by
  rcases List.mem_cons.mp hd with rfl | hd
  · exact h1
  · exact leaf2 h2 h3 d hd
theorem bulk2 {x y : PyData} (hx : x.bulk ≤ 3) (h2 : LeafOk y) : PyData.bulkAll [x, y] ≤ 70 := by
  have := (leaf_nice h2).2.2
  show x.bulk + 1 + (y.bulk + 1 + 0) ≤ 70
  omega
theorem elem2 {x y : PyData} (h1 : LeafOk x) (hx : x.bulk ≤ 3) (h2 : LeafOk y) : ElemOk (.tuple [x, y]) := elem_tup (leaf2 h1 h2) (bulk2 hx h2)
theorem elem_prt {p : Prt} (h : PrtOk p) : ElemOk (prtD p) := elem2 (show p.1.natAbs < 2 ^ 60 by have := h.1; omega) (Nat.zero_le _) ⟨Nat.le_trans h.2.1 (by decide), h.2.2⟩
theorem elem_prts {ps : List Prt} (h : ∀ p ∈ ps, PrtOk p) : ∀ d ∈ ps.map prtD, ElemOk d := fun d hd => by
  obtain ⟨p, hp, rfl⟩ := List.mem_map.mp hd
  exact elem_prt (h p hp)
theorem str60 : ∀ i : Fin 61, (Str.ofString (toString ((i.val : Nat) : Int))).length ≤ 3 ∧ sOk (Str.ofString (toString ((i.val : Nat) : Int))) = true := by decide +kernel
theorem strI {i : Int} (h0 : 0 ≤ i) (h1 : i ≤ 60) : (Str.ofString (toString i)).length ≤ 3 ∧ sOk (Str.ofString (toString i)) = true := by
  have := str60 ⟨i.toNat, by omega⟩
  rw [show (((i.toNat : Nat)) : Int) = i by omega] at this
  exact this
def bentB : PyData → Bool
  | .dict [] => true
  | .tuple ds => (ds.all fun d => match d with | .tuple es => (es.all fun e => match e with | .str z => decide (z.length ≤ 1000) | _ => true) | _ => true) && decide (ds.length ≤ 1000) && nice (.tuple ds) && decide ((PyData.tuple ds).depth ≤ 60) && decide ((PyData.tuple ds).bulk ≤ 8000)
  | d => nice d && decide (d.depth ≤ 60) && decide (d.bulk ≤ 8000)
theorem bent_c {d : PyData} (h : bentB d = true) : BentOk d := by
  have plain : (nice d && decide (d.depth ≤ 60) && decide (d.bulk ≤ 8000)) = true → ShortPs 1000 d → BentOk d := fun h hs => by
    rw [Bool.and_eq_true, Bool.and_eq_true, decide_eq_true_eq, decide_eq_true_eq] at h
    exact ⟨hs, .inr ⟨h.1.1, h.1.2, h.2⟩⟩
  cases d with
  | dict kv =>
    cases kv with
    | nil => exact ⟨trivial, .inl rfl⟩
    | cons a b => exact plain h trivial
  | tuple ds =>
    unfold bentB at h
    simp only [Bool.and_eq_true, decide_eq_true_eq] at h
    obtain ⟨⟨⟨⟨h1, h2⟩, h3⟩, h4⟩, h5⟩ := h
    refine ⟨⟨fun d hd => ?_, h2⟩, .inr ⟨h3, h4, h5⟩⟩
    have := List.all_eq_true.mp h1 d hd
    cases d with
    | tuple es =>
      intro z hz
      have := List.all_eq_true.mp this _ hz
      exact of_decide_eq_true this
    | _ => trivial
  | none => exact plain h trivial
  | bool b => exact plain h trivial
  | int i => exact plain h trivial
  | str z => exact plain h trivial
  | list ds => exact plain h trivial
end Wn

set_option maxHeartbeats 800000
namespace Wn
open PySem L2
open SX (S S_len S_cat S_beq_eq join_S)
set_option pp.maxSteps 700
set_option pp.deepTerms false
local macro_rules | `(tactic| walk_at "h") => `(tactic| first | with_reducible assumption | (with_reducible exact upd_same) | (with_reducible apply g_upd; (walk_at "neq"); (walk_at "h")) | (with_reducible apply g_same; (with_reducible assumption); (walk_at "h")) | (with_reducible apply g_kp; (with_reducible assumption); (walk_at "nin"); (walk_at "h")) | (with_reducible apply g_tk; (with_reducible assumption); (walk_at "h")))
local macro_rules | `(tactic| walk_at "neq") => `(tactic| first | with_reducible assumption | (with_reducible apply Ne.symm; with_reducible assumption) | (with_reducible apply ne_upd; (with_reducible assumption)) | (with_reducible apply Ne.symm; with_reducible apply ne_upd; with_reducible assumption) | (with_reducible apply ne_fr; (with_reducible assumption); (walk_at "h")) | (with_reducible apply ne_fr'; (with_reducible assumption); (walk_at "h")) | (with_reducible apply ne_kd; (walk_at "h"); (walk_at "h"); (with_unfolding_all (intro z; cases z))))
local macro_rules | `(tactic| walk_at "nin") => `(tactic| first | (with_reducible exact nin0) | with_reducible assumption | (with_reducible apply ninc; (walk_at "neq"); (walk_at "nin")))
local macro_rules | `(tactic| walk_at "none") => `(tactic| first | with_reducible assumption | (with_reducible apply n_upd; (with_reducible assumption)) | (with_reducible apply n_same; (with_reducible assumption); (walk_at "none")) | (with_reducible apply n_kp; (with_reducible assumption); (walk_at "nin"); (walk_at "none")))
local macro_rules | `(tactic| walk_at "mem") => `(tactic| first | (with_reducible exact List.mem_cons_self) | (with_reducible apply List.mem_cons_of_mem; (walk_at "mem")))
local macro_rules | `(tactic| walk_at "am") => `(tactic| first | (with_reducible exact am0) | (with_reducible apply am1; (first | (apply Or.inl; walk_at "mem") | (apply Or.inr; walk_at "none")); (walk_at "am")))
local macro_rules | `(tactic| walk_at "tk") => `(tactic| first | (with_reducible exact TK.refl _) | with_reducible assumption | (with_reducible apply t_tk; (with_reducible assumption); (walk_at "tk")) | (with_reducible apply t_same; (with_reducible assumption); (walk_at "tk")) | (with_reducible apply t_new; (with_reducible assumption); (walk_at "tk")) | (with_reducible apply t_wr; (walk_at "h"); (with_unfolding_all rfl); (walk_at "tk")))
local macro_rules | `(tactic| walk_at "same") => `(tactic| first | (with_reducible exact L2.Same.refl _) | with_reducible assumption | (with_reducible apply s_same; (with_reducible assumption); (walk_at "same")) | (with_reducible apply s_new; (with_reducible assumption); (walk_at "same")) | (with_reducible apply s_wrn; (walk_at "none"); (walk_at "same")))
local macro_rules | `(tactic| walk_at "kp") => `(tactic| first | (with_reducible exact Kp.refl _ _) | with_reducible assumption | (with_reducible apply k_same; (with_reducible assumption); (walk_at "kp")) | (with_reducible apply k_kp; (with_reducible assumption); (walk_at "kp")) | (with_reducible apply k_kpm; (with_reducible assumption); (walk_at "am"); (walk_at "kp")) | (with_reducible apply k_new; (with_reducible assumption); (walk_at "kp")) | (with_reducible apply k_wr; (walk_at "mem"); (walk_at "kp")) | (with_reducible apply k_wrn; (walk_at "none"); (walk_at "kp")))
local macro_rules | `(tactic| walk_at "rp") => `(tactic| first | with_reducible assumption | (with_reducible exact Rp.int) | (with_reducible exact Rp.str) | (with_reducible exact Rp.none) | (with_reducible exact Rp.bool) | (with_reducible apply Rp.tk'; (with_reducible assumption); (walk_at "tk")) | (with_reducible apply Rp.tup; (walk_at "h"); (walk_at "rpl")))
local macro_rules | `(tactic| walk_at "rpl") => `(tactic| first | with_reducible assumption | (with_reducible exact RpL.nil) | (with_reducible apply RpL.tk'; (with_reducible assumption); (walk_at "tk")) | (with_reducible apply RpL.cons; (walk_at "rp"); (walk_at "rpl")))
local macro_rules | `(tactic| walk_at "g") => `(tactic| repeat (first | refine ⟨_, rfl, ?_⟩ | refine ⟨_, _, rfl, rfl, ?_⟩ | refine ⟨rfl, _, rfl, ?_⟩ | refine ⟨_, _, rfl, rfl, (by first | decide | omega), ?_⟩))
abbrev sBent : Stmt := top 13
def spBent (K : PySem.W.Frag) : Sp := fun vs H Q _ => ∃ (d f a : Addr) (n : Int) (z : V) (ps : List Prt), vs = [.ref d, z, .ref a] ∧ Deck H d f n ∧ n < 2 ^ 59 ∧ TupAt K H a (ps.map prtD) ∧ ps.length ≤ 60 ∧ (∀ p ∈ ps, PrtOk p) ∧
  ∀ (H' : Hp) (v : V) (dd : PyData), AnyAt K H' v dd → BentOk dd → Kp [d] H H' → TK H H' → Deck H' d f (n + 10) → Q v H'

section
variable {P : Program} {w : World} {K : PySem.W.Frag} {mg : Str → Option Value} {base : Heap}
theorem scBent : FnScope ["_law_deck_here", "_law_text_here", "_law_parts_here", "_law_way", "_law_some", "_law_at", "_law_first", "_law_signs", "_law_new"] ["_law_deck_here", "_law_text_here", "_law_parts_here"] (defScope sBent) := ⟨rfl, rfl, rfl, by decide +kernel, rfl, by decide +kernel, by decide +kernel⟩
theorem ok_bent {f : Addr} {fd : FuncData} (F : Fun K "_law_bent" "_law_bent" sBent f fd) (B : TB mg) (cN : Cd P w K mg base 2 "_law_next" ["_law_deck_here", "_law_many"] spNext) : FnOk P w K mg base CX0 3 f fd ["_law_deck_here", "_law_text_here", "_law_parts_here"] (spBent K) := by
  obtain ⟨fN, fdN, GN, mN, kN, bN⟩ := cN.tk
  refine F.ok scBent (fun vs H Q E h => ?_) (fun cdv A outer s H vs Q E hr h => ?_)
  · obtain ⟨d, f, a, n, z, ps, rfl, _⟩ := h
    rfl
  · obtain ⟨d, f, a, n, z, ps, rfl, D0, hn, hT, hl, hok, k⟩ := h
    have hr2 : Room 2 _ := hr
    refine ⟨_, (pss_cons (ps_set (i := 3) scBent.nd rfl (Or.inl rfl) (pe_call GN hr2 rfl mN kN bN .nil pass0 (pa_cons (pv 0) (pa_cons pe_int pa_nil))))
       (pss_cons (ps_if (PW.pt (pw_or (pt_cmpR op_eq (pv 3) pe_int (nomark _)) (pw_or1 (pt_cmpR op_eq (pe_callB (lenK (K := K) rfl) (by rfl) B.len PySem.boot_len (pa_cons (pv 2) pa_nil)) pe_int (nomark _)))))
       (pss_cons (ps_set (i := 4) scBent.nd rfl (Or.inl rfl) (pe_lst (pa_cons pe_non (pa_cons (pe_tup pa_nil) (pa_cons (pe_lst pa_nil) (pa_cons pe_str (pa_cons pe_int (pa_cons (pe_tup (pa_cons (pe_tup (pa_cons pe_int (pa_cons pe_str pa_nil))) pa_nil)) (pa_cons (pe_tup (pa_cons (pe_tup (pa_cons pe_int (pa_cons pe_str (pa_cons pe_int pa_nil)))) pa_nil)) (pa_cons (pe_tup (pa_cons (pe_tup (pa_cons pe_str (pa_cons pe_str pa_nil))) pa_nil)) (pa_cons (pe_tup (pa_cons (pe_tup (pa_cons pe_bl (pa_cons pe_str pa_nil))) pa_nil)) (pa_cons (pe_tup (pa_cons (pe_tup (pa_cons (pe_un un_neg pe_int) (pa_cons pe_str pa_nil))) pa_nil)) (pa_cons pe_dnewK pa_nil)))))))))))))
       (pss_one (ps_ret (pe_ix (ixL (K := K) rfl) (pv 4) (pe_call GN hr2 rfl mN kN bN .nil pass0 (pa_cons (pv 0) (pa_cons pe_int pa_nil))) (fun _ _ => rfl)))))
       pss_nil)
       (pss_cons (ps_set (i := 5) scBent.nd rfl (Or.inl rfl) (pe_call GN hr2 rfl mN kN bN .nil pass0 (pa_cons (pv 0) (pa_cons (pe_callB (lenK (K := K) rfl) (by rfl) B.len PySem.boot_len (pa_cons (pv 2) pa_nil)) pa_nil))))
       (pss_cons (ps_asg (pe_ix (ixT (K := K) rfl) (pv 2) (pv 5) (fun _ _ => rfl)) (pg_tup rfl (pgs_cons (pg_name (i := 6) scBent.nd rfl (Or.inl rfl)) (pgs_cons (pg_name (i := 7) scBent.nd rfl (Or.inl rfl)) pgs_nil))))
       (pss_cons (ps_if (pt_cmpR op_eq (pv 3) pe_int (nomark _))
       (pss_one (ps_ret (pe_ix (ixL (K := K) rfl) (pe_lst (pa_cons (pe_op (opCatA (K := K) rfl) (pe_slice (slA (K := K) rfl) (pv 2) po_none (po_some (pv 5))) (pe_slice (slA (K := K) rfl) (pv 2) (po_some (pe_op op_add (pv 5) pe_int)) po_none)) (pa_cons (pe_op (opCatA (K := K) rfl) (pv 2) (pe_slice (slA (K := K) rfl) (pv 2) (po_some (pv 5)) (po_some (pe_op op_add (pv 5) pe_int)))) (pa_cons (pe_revT (K := K) rfl (pv 2) po_none) (pa_cons (pe_callTy (lstOfK (K := K) rfl) (by rfl) B.list (by decide +kernel) (pa_cons (pv 2) pa_nil)) pa_nil))))) (pe_call GN hr2 rfl mN kN bN .nil pass0 (pa_cons (pv 0) (pa_cons pe_int pa_nil))) (fun _ _ => rfl))))
       pss_nil)
       (pss_cons (ps_set (i := 8) scBent.nd rfl (Or.inl rfl) (pe_lst (pa_cons (pe_tup (pa_cons (pe_op op_add (pv 6) pe_int) (pa_cons (pv 7) pa_nil))) (pa_cons (pe_tup (pa_cons (pe_op op_sub (pv 6) pe_int) (pa_cons (pv 7) pa_nil))) (pa_cons (pe_tup (pa_cons (pv 6) (pa_cons (pe_op op_add_str (pv 7) pe_str) pa_nil))) (pa_cons (pe_tup (pa_cons (pv 6) (pa_cons (pe_slice sl_str (pv 7) (po_some pe_int) po_none) pa_nil))) (pa_cons (pe_tup (pa_cons (pv 6) (pa_cons pe_str pa_nil))) pa_nil)))))))
       (pss_cons (ps_set (i := 8) scBent.nd rfl (Or.inl rfl) (pe_op op_cat (pv 8) (pe_lst (pa_cons (pe_lst (pa_cons (pv 6) (pa_cons (pv 7) pa_nil))) (pa_cons (pe_tup (pa_cons (pv 6) (pa_cons (pe_op op_add_str (pe_slice sl_str (pv 7) po_none (po_some (pe_un un_neg pe_int))) pe_str) pa_nil))) (pa_cons (pe_tup (pa_cons (pv 6) (pa_cons (pv 7) (pa_cons pe_int pa_nil)))) (pa_cons (pe_tup (pa_cons (pv 6) pa_nil)) (pa_cons (pe_tup (pa_cons (pe_callTy call_str_int (by rfl) B.str PyProof.Rows.boot_str (pa_cons (pv 6) pa_nil)) (pa_cons (pv 7) pa_nil))) pa_nil))))))))
       (pss_cons (ps_set (i := 8) scBent.nd rfl (Or.inl rfl) (pe_op op_cat (pv 8) (pe_lst (pa_cons (pe_tup (pa_cons (pv 6) (pa_cons pe_non pa_nil))) (pa_cons (pe_tup (pa_cons (pe_un un_neg pe_int) (pa_cons (pv 7) pa_nil))) (pa_cons (pe_tup (pa_cons (pe_cmpR op_eq (pv 6) pe_int (nomark _)) (pa_cons (pv 7) pa_nil))) (pa_cons (pe_tup (pa_cons (pe_cmpR op_eq (pv 6) pe_int (nomark _)) (pa_cons (pv 7) pa_nil))) pa_nil)))))))
       (pss_one (ps_ret (pe_op (opCatA (K := K) rfl) (pe_op (opCatA (K := K) rfl) (pe_slice (slA (K := K) rfl) (pv 2) po_none (po_some (pv 5))) (pe_tup (pa_cons (pe_ix (ixL (K := K) rfl) (pv 8) (pe_call GN hr2 rfl mN kN bN .nil pass0 (pa_cons (pv 0) (pa_cons pe_int pa_nil))) (fun _ _ => rfl)) pa_nil))) (pe_slice (slA (K := K) rfl) (pv 2) (po_some (pe_op op_add (pv 5) pe_int)) po_none)))))))))))), ?_⟩
    refine ⟨_, rfl, d, f, 8, n, rfl, by decide, by omega, D0, fun way H1 w0 w1 k1 D1 t1 => ?_⟩
    dsimp only [gName, List.set, tNext, L2.start]
    refine seq_or (fun H' => H' = H1) ?body (fun body => ?_)
    case body =>
      rintro _ rfl
      obtain ⟨zd, hd1⟩ := D1.lst
      refine ⟨(by show 0 ≤ sizeLine; decide), fun p1 n_p1 => ?_⟩
      generalize e_G1 : upd _ p1 _ = G1
      obtain ⟨s1, q1⟩ := new_tup (K := K) n_p1 e_G1 (by walk_at "rpl")
      clear e_G1
      refine ⟨(by show 0 ≤ sizeLine; decide), fun p2 n_p2 => ?_⟩
      obtain ⟨G2, e_G2, s2, r2⟩ := new_any n_p2
      rw [← e_G2]
      clear e_G2
      refine ⟨(by show 2 ≤ sizeLine; decide), fun p3 n_p3 => ?_⟩
      generalize e_G3 : upd _ p3 _ = G3
      obtain ⟨s3, r3⟩ := new_tup (K := K) n_p3 e_G3 (by walk_at "rpl")
      clear e_G3
      refine ⟨(by show 1 ≤ sizeLine; decide), fun p4 n_p4 => ?_⟩
      generalize e_G4 : upd _ p4 _ = G4
      obtain ⟨s4, r4⟩ := new_tup (K := K) n_p4 e_G4 (by walk_at "rpl")
      clear e_G4
      refine ⟨(by show 3 ≤ sizeLine; decide), fun p5 n_p5 => ?_⟩
      generalize e_G5 : upd _ p5 _ = G5
      obtain ⟨s5, r5⟩ := new_tup (K := K) n_p5 e_G5 (by walk_at "rpl")
      clear e_G5
      refine ⟨(by show 1 ≤ sizeLine; decide), fun p6 n_p6 => ?_⟩
      generalize e_G6 : upd _ p6 _ = G6
      obtain ⟨s6, r6⟩ := new_tup (K := K) n_p6 e_G6 (by walk_at "rpl")
      clear e_G6
      refine ⟨(by show 2 ≤ sizeLine; decide), fun p7 n_p7 => ?_⟩
      generalize e_G7 : upd _ p7 _ = G7
      obtain ⟨s7, r7⟩ := new_tup (K := K) n_p7 e_G7 (by walk_at "rpl")
      clear e_G7
      refine ⟨(by show 1 ≤ sizeLine; decide), fun p8 n_p8 => ?_⟩
      generalize e_G8 : upd _ p8 _ = G8
      obtain ⟨s8, r8⟩ := new_tup (K := K) n_p8 e_G8 (by walk_at "rpl")
      clear e_G8
      refine ⟨(by show 2 ≤ sizeLine; decide), fun p9 n_p9 => ?_⟩
      generalize e_G9 : upd _ p9 _ = G9
      obtain ⟨s9, r9⟩ := new_tup (K := K) n_p9 e_G9 (by walk_at "rpl")
      clear e_G9
      refine ⟨(by show 1 ≤ sizeLine; decide), fun p10 n_p10 => ?_⟩
      generalize e_G10 : upd _ p10 _ = G10
      obtain ⟨s10, r10⟩ := new_tup (K := K) n_p10 e_G10 (by walk_at "rpl")
      clear e_G10
      refine ⟨_, rfl, (by show 2 ≤ sizeLine; decide), fun p11 n_p11 => ?_⟩
      generalize e_G11 : upd _ p11 _ = G11
      obtain ⟨s11, r11⟩ := new_tup (K := K) n_p11 e_G11 (by walk_at "rpl")
      clear e_G11
      refine ⟨(by show 1 ≤ sizeLine; decide), fun p12 n_p12 => ?_⟩
      generalize e_G12 : upd _ p12 _ = G12
      obtain ⟨s12, r12⟩ := new_tup (K := K) n_p12 e_G12 (by walk_at "rpl")
      clear e_G12
      intro p13 n_p13
      obtain ⟨G13, e_G13, s13, h13⟩ := new_any n_p13
      rw [← e_G13]
      clear e_G13
      refine ⟨(by show 11 ≤ sizeLine; decide), fun l n_l => ?_⟩
      obtain ⟨G14, e_G14, s14, h14⟩ := new_any n_l
      rw [← e_G14]
      clear e_G14
      refine ⟨_, rfl, _, rfl, d, f, 11, n + 1, rfl, by decide, by omega, D1.same (by walk_at "same"), fun r G15 r0 r1 k15 D15 t15 => ?_⟩
      have nld : l ≠ d := by walk_at "neq"
      have h15 := k15 _ _ (nin1 nld) h14
      have D15 := D15.mono (m := n + 10) (by omega)
      have n2d : p2 ≠ d := by walk_at "neq"
      have n13d : p13 ≠ d := by walk_at "neq"
      have q1 := Rp.tk' q1 (show TK _ G15 by walk_at "tk")
      have r4 := Rp.tk' r4 (show TK _ G15 by walk_at "tk")
      have r6 := Rp.tk' r6 (show TK _ G15 by walk_at "tk")
      have r8 := Rp.tk' r8 (show TK _ G15 by walk_at "tk")
      have r10 := Rp.tk' r10 (show TK _ G15 by walk_at "tk")
      have r12 := Rp.tk' r12 (show TK _ G15 by walk_at "tk")
      have g2 : G15 p2 = some (.lst []) := by walk_at "h"
      have g13 : G15 p13 = some (.dK []) := by walk_at "h"
      have kp : Kp [d] H G15 := by walk_at "kp"
      have tk : TK H G15 := by walk_at "tk"
      have c : r = 0 ∨ r = 1 ∨ r = 2 ∨ r = 3 ∨ r = 4 ∨ r = 5 ∨ r = 6 ∨ r = 7 ∨ r = 8 ∨ r = 9 ∨ r = 10 := by omega
      rcases c with rfl | rfl | rfl | rfl | rfl | rfl | rfl | rfl | rfl | rfl | rfl
      · exact ⟨l, _, _, _, rfl, rfl, SqL.of h15, rfl, k _ _ _ (.inl .non) (bent_c (by decide +kernel)) kp tk D15⟩
      · exact ⟨l, _, _, _, rfl, rfl, SqL.of h15, rfl, k _ _ _ (.inl (Rp.dp _ _ q1)) (bent_c (by decide +kernel)) kp tk D15⟩
      · exact ⟨l, _, _, _, rfl, rfl, SqL.of h15, rfl, k _ _ (.list []) (.inl (.lst (SqL.of g2) .nil)) (bent_c (by decide +kernel)) kp tk D15⟩
      · exact ⟨l, _, _, _, rfl, rfl, SqL.of h15, rfl, k _ _ _ (.inl (.str _)) (bent_c (by decide +kernel)) kp tk D15⟩
      · exact ⟨l, _, _, _, rfl, rfl, SqL.of h15, rfl, k _ _ _ (.inl (.int _)) (bent_c (by decide +kernel)) kp tk D15⟩
      · exact ⟨l, _, _, _, rfl, rfl, SqL.of h15, rfl, k _ _ _ (.inl (Rp.dp _ _ r4)) (bent_c (by decide +kernel)) kp tk D15⟩
      · exact ⟨l, _, _, _, rfl, rfl, SqL.of h15, rfl, k _ _ _ (.inl (Rp.dp _ _ r6)) (bent_c (by decide +kernel)) kp tk D15⟩
      · exact ⟨l, _, _, _, rfl, rfl, SqL.of h15, rfl, k _ _ _ (.inl (Rp.dp _ _ r8)) (bent_c (by decide +kernel)) kp tk D15⟩
      · exact ⟨l, _, _, _, rfl, rfl, SqL.of h15, rfl, k _ _ _ (.inl (Rp.dp _ _ r10)) (bent_c (by decide +kernel)) kp tk D15⟩
      · exact ⟨l, _, _, _, rfl, rfl, SqL.of h15, rfl, k _ _ _ (.inl (Rp.dp _ _ r12)) (bent_c (by decide +kernel)) kp tk D15⟩
      · exact ⟨l, _, _, _, rfl, rfl, SqL.of h15, rfl, k _ _ _ (.inr ⟨rfl, p13, rfl, g13⟩) (bent_c (by decide +kernel)) kp tk D15⟩
    obtain ⟨xs, hx, rx⟩ := hT.inv
    have lx := RpL.len _ _ rx
    rw [List.length_map] at lx
    have hx1 := SqT.tk hx t1
    refine ⟨_, rfl, rfl, _, rfl, iteI (fun c => iteT (body _ rfl)) (fun c => ?_)⟩
    refine ⟨_, rfl, _, xs.length, rfl, .inr ⟨_, hx1, rfl⟩, rfl, _, rfl, iteI (fun c2 => body _ rfl) (fun c2 => ?_)⟩
    clear body
    refine ⟨_, rfl, _, rfl, _, xs.length, rfl, .inr ⟨_, hx1, rfl⟩, d, f, xs.length, n + 1, rfl, by omega, by omega, D1, fun at' H2 a0 a1 k2 D2 t2 => ?_⟩
    obtain ⟨i, rfl⟩ : ∃ i : Nat, at' = i := ⟨at'.toNat, by omega⟩
    have hi : i < ps.length := by omega
    have t02 : TK H H2 := by walk_at "tk"
    have kp2 : Kp [d] H H2 := by walk_at "kp"
    have hx2 := SqT.tk hx t02
    have rx2 := RpL.tk' rx t02
    obtain ⟨v, ev, rv⟩ := RpL.get _ _ rx2 i (prtD ps[i]) (by rw [List.getElem?_map, List.getElem?_eq_getElem hi]; rfl)
    have okp := hok _ (List.getElem_mem hi)
    generalize ps[i] = p at rv okp
    obtain ⟨fi, sg⟩ := p
    unfold prtD Rp at rv
    obtain ⟨t, ys, rfl, ht, ry⟩ := rv
    unfold RpL at ry
    obtain ⟨v0, r0, rfl, h0, ry⟩ := ry
    unfold RpL at ry
    obtain ⟨v1, r1, rfl, h1, ry⟩ := ry
    unfold RpL at ry
    subst ry
    have h0 := Rp.int_eq h0
    have h1 := Rp.str_eq h1
    subst h0 h1
    refine ⟨_, rfl, _, rfl, a, _, _, _, rfl, rfl, hx2, atI_nat ev, t, _, rfl, ht, rfl, _, _, rfl, _, _, rfl, rfl, ?_⟩
    dsimp only [gName, List.set, tNext]
    have hT2 : TupAt K H2 a (ps.map prtD) := hT.tk t02
    have eps := elem_prts hok
    have lps : (ps.map prtD).length ≤ 60 := by rw [List.length_map]; exact hl
    generalize ps.map prtD = L at hT2 eps lps rx rx2
    refine ⟨_, rfl, rfl, _, rfl, iteI (fun c3 => ?_) (fun c3 => ?_)⟩
    · obtain ⟨zd, hd2⟩ := D2.lst
      refine ⟨_, rfl, _, rfl, _, rfl, slA_tup hT2 fun G1 x1 s1 q1 => ?_⟩
      refine ⟨_, rfl, _, rfl, _, _, rfl, rfl, _, rfl, ?_⟩
      dsimp only [tNoPart]
      refine slA_tup (hT2.sm s1) fun G2 x2 s2 q2 => ?_
      refine catA_tup (q1.sm s2) q2 (by have := cutL_len L none (some (i : Int)); have := cutL_len L (some ((i : Int) + 1)) none; omega) fun G3 x3 s3 q3 => ?_
      have s03 : SmB H2 G3 := show Same H2 G3 by walk_at "same"
      refine ⟨_, rfl, _, rfl, _, rfl, _, rfl, _, rfl, _, _, rfl, rfl, _, rfl, slA_tup (hT2.sm s03) fun G4 x4 s4 q4 => ?_⟩
      refine catA_tup (hT2.sm (L2.Same.trans s03 s4)) q4 (by have := cutL_len L (some (i : Int)) (some ((i : Int) + 1)); omega) fun G5 x5 s5 q5 => ?_
      have s05 : SmB H2 G5 := show Same H2 G5 by walk_at "same"
      refine ⟨_, rfl, a, xs, rfl, SqT.sm hx2 s05, fun x6 n_x6 => ?_⟩
      obtain ⟨G6, e_G6, s6, q6⟩ := new_any n_x6
      rw [← e_G6]
      clear e_G6
      have s06 : SmB H2 G6 := show Same H2 G6 by walk_at "same"
      refine ⟨_, rfl, a, xs, rfl, .inr (SqT.sm hx2 s06), fun x7 n_x7 => ?_⟩
      obtain ⟨G7, e_G7, s7, q7⟩ := new_any n_x7
      rw [← e_G7]
      clear e_G7
      refine ⟨(by show 4 ≤ sizeLine; decide), fun l n_l => ?_⟩
      obtain ⟨G8, e_G8, s8, q8⟩ := new_any n_l
      rw [← e_G8]
      clear e_G8
      have s08 : SmB H2 G8 := show Same H2 G8 by walk_at "same"
      have hd8 := s08 _ _ hd2
      refine ⟨_, rfl, d, f, 4, n + 1 + 1, rfl, by decide, by omega, D2.same s08, fun r G9 r0 r1 k9 D9 t9 => ?_⟩
      have nld : l ≠ d := by walk_at "neq"
      have n7d : x7 ≠ d := by walk_at "neq"
      have q8 := k9 _ _ (nin1 nld) q8
      have D9 := D9.mono (m := n + 10) (by omega)
      have q7 := k9 _ _ (nin1 n7d) (s8 _ _ q7)
      have q6 := t9.1 _ _ (s8 _ _ (s7 _ _ q6))
      have q3 := Rp.tk' q3 (show TK G3 G9 by walk_at "tk")
      have q5 := Rp.tk' q5 (show TK G5 G9 by walk_at "tk")
      have t29 : TK H2 G9 := (TK.of s08).trans t9
      have ra := RpL.dp _ _ (RpL.tk' rx2 t29)
      have kp : Kp [d] H G9 := kp2.trans ((Kp.of s08).trans k9)
      have tk : TK H G9 := t02.trans t29
      have c : r = 0 ∨ r = 1 ∨ r = 2 ∨ r = 3 := by omega
      rcases c with rfl | rfl | rfl | rfl
      · refine ⟨l, _, _, _, rfl, rfl, SqL.of q8, rfl, k _ _ _ (.inl (Rp.dp _ _ q3)) (bent_tup (fun e he => ?_) ?_) kp tk D9⟩
        · rcases List.mem_append.mp he with he | he
          · exact eps _ (cutL_mem he)
          · exact eps _ (cutL_mem he)
        · have e : ((i : Int) + 1) = ((i + 1 : Nat) : Int) := by omega
          rw [List.length_append, e, cutL_to, cutL_from, List.length_take, List.length_drop]
          omega
      · refine ⟨l, _, _, _, rfl, rfl, SqL.of q8, rfl, k _ _ _ (.inl (Rp.dp _ _ q5)) (bent_tup (fun e he => ?_) ?_) kp tk D9⟩
        · rcases List.mem_append.mp he with he | he
          · exact eps _ he
          · exact eps _ (cutL_mem he)
        · rw [List.length_append, show (some ((i : Int) + 1)) = some ((i + 1 : Nat) : Int) from rfl, cutL_mid, List.length_take]
          omega
      · refine ⟨l, _, _, _, rfl, rfl, SqL.of q8, rfl, k _ _ (.tuple L.reverse) (.inl (.tup (SqT.of q6) ?_)) (bent_tup (fun e he => eps _ (List.mem_reverse.mp he)) (by rw [List.length_reverse]; omega)) kp tk D9⟩
        rw [show revLen xs.length none = xs.length from rfl, List.take_length]
        exact DpAll.rev ra
      · exact ⟨l, _, _, _, rfl, rfl, SqL.of q8, rfl, k _ _ (.list L) (.inl (.lst (SqL.of q7) ra)) (bent_lst eps (by omega)) kp tk D9⟩
    · obtain ⟨⟨f0, f1⟩, hsg, osg⟩ := okp
      have f0 : 0 ≤ fi := f0
      have f1 : fi ≤ 60 := f1
      have hsg : sg.length ≤ 60 := hsg
      have osg : sOk sg = true := osg
      have hsz : sg.length ≤ sizeLine := Nat.le_trans hsg (by decide)
      obtain ⟨zd, hd2⟩ := D2.lst
      have la : (Str.ofString "a").length = 1 := by decide
      have lz : (Str.ofString "z").length = 1 := by decide
      have lsg : LeafOk (.str sg) := ⟨by omega, osg⟩
      have hadd : ∀ (x y : Str), x.length ≤ 60 → y.length = 1 → x.length + y.length ≤ sizeLine := fun x y h1 h2 => Nat.le_trans (show _ ≤ 61 by omega) (by decide)
      refine ⟨_, rfl, _, _, rfl, rfl, _, rfl, (by show 2 ≤ sizeLine; decide), fun p1 n_p1 => ?_⟩
      generalize e_G1 : upd _ p1 _ = G1
      obtain ⟨s1, q1⟩ := new_tup (K := K) n_p1 e_G1 (by walk_at "rpl")
      clear e_G1
      refine ⟨_, rfl, _, _, rfl, rfl, _, rfl, (by show 2 ≤ sizeLine; decide), fun p2 n_p2 => ?_⟩
      generalize e_G2 : upd _ p2 _ = G2
      obtain ⟨s2, q2⟩ := new_tup (K := K) n_p2 e_G2 (by walk_at "rpl")
      clear e_G2
      refine ⟨_, rfl, _, rfl, _, _, rfl, rfl, hadd _ _ hsg la, (by show 2 ≤ sizeLine; decide), fun p3 n_p3 => ?_⟩
      generalize e_G3 : upd _ p3 _ = G3
      obtain ⟨s3, q3⟩ := new_tup (K := K) n_p3 e_G3 (by walk_at "rpl")
      clear e_G3
      refine ⟨_, rfl, _, rfl, _, rfl, _, rfl, hsz, (by show 2 ≤ sizeLine; decide), fun p4 n_p4 => ?_⟩
      generalize e_G4 : upd _ p4 _ = G4
      obtain ⟨s4, q4⟩ := new_tup (K := K) n_p4 e_G4 (by walk_at "rpl")
      clear e_G4
      refine ⟨_, rfl, (by show 2 ≤ sizeLine; decide), fun p5 n_p5 => ?_⟩
      generalize e_G5 : upd _ p5 _ = G5
      obtain ⟨s5, q5⟩ := new_tup (K := K) n_p5 e_G5 (by walk_at "rpl")
      clear e_G5
      refine ⟨(by show 5 ≤ sizeLine; decide), fun l1 n_l1 => ?_⟩
      obtain ⟨G6, e_G6, s6, q6⟩ := new_any n_l1
      rw [← e_G6]
      clear e_G6
      refine ⟨_, rfl, _, rfl, _, rfl, (by show 2 ≤ sizeLine; decide), fun p7 n_p7 => ?_⟩
      obtain ⟨G7, e_G7, s7, q7⟩ := new_any n_p7
      rw [← e_G7]
      clear e_G7
      refine ⟨_, rfl, _, rfl, _, rfl, _, rfl, _, rfl, hsz, _, _, rfl, rfl, hadd _ _ (Nat.le_trans (cutS_length _ _ _) hsg) lz, (by show 2 ≤ sizeLine; decide), fun p8 n_p8 => ?_⟩
      generalize e_G8 : upd _ p8 _ = G8
      obtain ⟨s8, q8⟩ := new_tup (K := K) n_p8 e_G8 (by walk_at "rpl")
      clear e_G8
      refine ⟨_, rfl, _, rfl, (by show 3 ≤ sizeLine; decide), fun p9 n_p9 => ?_⟩
      generalize e_G9 : upd _ p9 _ = G9
      obtain ⟨s9, q9⟩ := new_tup (K := K) n_p9 e_G9 (by walk_at "rpl")
      clear e_G9
      refine ⟨_, rfl, (by show 1 ≤ sizeLine; decide), fun p10 n_p10 => ?_⟩
      generalize e_G10 : upd _ p10 _ = G10
      obtain ⟨s10, q10⟩ := new_tup (K := K) n_p10 e_G10 (by walk_at "rpl")
      clear e_G10
      refine ⟨_, rfl, _, rfl, ?_, _, rfl, (by show 2 ≤ sizeLine; decide), fun p11 n_p11 => ?_⟩
      · exact of_decide_eq_true (nice_int (i := fi) (by omega))
      generalize e_G11 : upd _ p11 _ = G11
      obtain ⟨s11, q11⟩ := new_tup (K := K) n_p11 e_G11 (by walk_at "rpl")
      clear e_G11
      refine ⟨(by show 5 ≤ sizeLine; decide), fun l2 n_l2 => ?_⟩
      obtain ⟨G12, e_G12, s12, q12⟩ := new_any n_l2
      rw [← e_G12]
      clear e_G12
      have g6 : G12 l1 = some (.lst [.ref p1, .ref p2, .ref p3, .ref p4, .ref p5]) := by walk_at "h"
      refine ⟨l1, l2, _, _, rfl, rfl, g6, q12, (by show 10 ≤ sizeLine; decide), fun l3 n_l3 => ?_⟩
      obtain ⟨G13, e_G13, s13, q13⟩ := new_any n_l3
      rw [← e_G13]
      clear e_G13
      refine ⟨_, rfl, _, rfl, (by show 2 ≤ sizeLine; decide), fun p14 n_p14 => ?_⟩
      generalize e_G14 : upd _ p14 _ = G14
      obtain ⟨s14, q14⟩ := new_tup (K := K) n_p14 e_G14 (by walk_at "rpl")
      clear e_G14
      refine ⟨_, rfl, _, rfl, (by show 2 ≤ sizeLine; decide), fun p15 n_p15 => ?_⟩
      generalize e_G15 : upd _ p15 _ = G15
      obtain ⟨s15, q15⟩ := new_tup (K := K) n_p15 e_G15 (by walk_at "rpl")
      clear e_G15
      refine ⟨_, rfl, rfl, _, rfl, (by show 2 ≤ sizeLine; decide), fun p16 n_p16 => ?_⟩
      generalize e_G16 : upd _ p16 _ = G16
      obtain ⟨s16, q16⟩ := new_tup (K := K) n_p16 e_G16 (by walk_at "rpl")
      clear e_G16
      refine ⟨_, rfl, rfl, _, rfl, (by show 2 ≤ sizeLine; decide), fun p17 n_p17 => ?_⟩
      generalize e_G17 : upd _ p17 _ = G17
      obtain ⟨s17, q17⟩ := new_tup (K := K) n_p17 e_G17 (by walk_at "rpl")
      clear e_G17
      refine ⟨(by show 4 ≤ sizeLine; decide), fun l4 n_l4 => ?_⟩
      obtain ⟨G18, e_G18, s18, q18⟩ := new_any n_l4
      rw [← e_G18]
      clear e_G18
      have g13 : G18 l3 = some (.lst ([.ref p1, .ref p2, .ref p3, .ref p4, .ref p5] ++ [.ref p7, .ref p8, .ref p9, .ref p10, .ref p11])) := by walk_at "h"
      refine ⟨l3, l4, _, _, rfl, rfl, g13, q18, (by show 14 ≤ sizeLine; decide), fun l5 n_l5 => ?_⟩
      obtain ⟨G19, e_G19, s19, q19⟩ := new_any n_l5
      rw [← e_G19]
      clear e_G19
      have s019 : SmB H2 G19 := show Same H2 G19 by walk_at "same"
      have q7 : G19 p7 = some (.lst [.int fi, .str sg]) := by walk_at "h"
      have nld : l5 ≠ d := by walk_at "neq"
      have n7d : p7 ≠ d := by walk_at "neq"
      have hall : ∀ G, TK G19 G → G p7 = some (.lst [.int fi, .str sg]) → ∀ v ∈ [V.ref p1, .ref p2, .ref p3, .ref p4, .ref p5] ++ [.ref p7, .ref p8, .ref p9, .ref p10, .ref p11] ++ [.ref p14, .ref p15, .ref p16, .ref p17], ∃ e, Dp K G v e ∧ ElemOk e := by
        intro G' tG' g7
        have rr : ∀ {v : V} {e : PyData} {G : Hp}, Rp K G e v → TK G G19 → ElemOk e → ∃ e, Dp K G' v e ∧ ElemOk e := fun r t o => ⟨_, Rp.dp _ _ (Rp.tk' r (t.trans tG')), o⟩
        have li : ∀ {x : Int}, -100 ≤ x → x ≤ 100 → LeafOk (.int x) := fun h1 h2 => show _ < 2 ^ 60 by omega
        have sI := strI f0 f1
        intro v hv
        simp only [List.cons_append, List.nil_append, List.mem_cons, List.not_mem_nil, or_false] at hv
        rcases hv with rfl | rfl | rfl | rfl | rfl | rfl | rfl | rfl | rfl | rfl | rfl | rfl | rfl | rfl
        · exact rr q1 (by walk_at "tk") (elem2 (li (by omega) (by omega)) (Nat.zero_le _) lsg)
        · exact rr q2 (by walk_at "tk") (elem2 (li (by omega) (by omega)) (Nat.zero_le _) lsg)
        · exact rr q3 (by walk_at "tk") (elem2 (li (by omega) (by omega)) (Nat.zero_le _) ⟨by rw [Str.length_append]; omega, sOk_app osg (by decide +kernel)⟩)
        · exact rr q4 (by walk_at "tk") (elem2 (li (by omega) (by omega)) (Nat.zero_le _) ⟨Nat.le_trans (cutS_length _ _ _) (by omega), sOk_cut osg⟩)
        · exact rr q5 (by walk_at "tk") (elem2 (li (by omega) (by omega)) (Nat.zero_le _) ⟨by decide, by decide +kernel⟩)
        · exact ⟨.list [.int fi, .str sg], .lst (SqL.of g7) (.cons (.int _) (.cons (.str _) .nil)), elem_lst (leaf2 (li (by omega) (by omega)) lsg) (bulk2 (Nat.zero_le _) lsg)⟩
        · exact rr q8 (by walk_at "tk") (elem2 (li (by omega) (by omega)) (Nat.zero_le _) ⟨by rw [Str.length_append]; have := cutS_length sg none (some (-1)); omega, sOk_app (sOk_cut osg) (by decide +kernel)⟩)
        · exact rr q9 (by walk_at "tk") (elem_tup (leaf3 (li (by omega) (by omega)) lsg (li (by omega) (by omega))) (by show 0 + 1 + (sg.length + 1 + (0 + 1 + 0)) ≤ 70; omega))
        · exact rr q10 (by walk_at "tk") (elem_tup (leaf1 (li (by omega) (by omega))) (by show 0 + 1 + 0 ≤ 70; decide))
        · exact rr q11 (by walk_at "tk") (elem2 ⟨Nat.le_trans sI.1 (by decide), sI.2⟩ sI.1 lsg)
        · exact rr q14 (by walk_at "tk") (elem2 (li (by omega) (by omega)) (Nat.zero_le _) trivial)
        · exact rr q15 (by walk_at "tk") (elem2 (li (by omega) (by omega)) (Nat.zero_le _) lsg)
        · exact rr q16 (by walk_at "tk") (elem2 trivial (Nat.zero_le _) lsg)
        · exact rr q17 (by walk_at "tk") (elem2 trivial (Nat.zero_le _) lsg)
      clear g13 g6 q1 q2 q3 q4 q5 q6 q8 q9 q10 q11 q12 q13 q14 q15 q16 q17 q18
      have lW : ([V.ref p1, V.ref p2, V.ref p3, V.ref p4, V.ref p5] ++ [V.ref p7, V.ref p8, V.ref p9, V.ref p10, V.ref p11] ++ [V.ref p14, V.ref p15, V.ref p16, V.ref p17]).length = 14 := rfl
      generalize [V.ref p1, V.ref p2, V.ref p3, V.ref p4, V.ref p5] ++ [V.ref p7, V.ref p8, V.ref p9, V.ref p10, V.ref p11] ++ [V.ref p14, V.ref p15, V.ref p16, V.ref p17] = W at q19 hall lW
      have hx19 := SqT.sm hx2 s019
      have D19 := D2.same s019
      clear s1 s2 s3 s4 s5 s6 s7 s8 s9 s10 s11 s12 s13 s14 s15 s16 s17 s18 s19
      refine ⟨_, rfl, _, rfl, _, rfl, slA_sq hx19 fun G20 y1 s20 g20 => ?_⟩
      refine ⟨_, rfl, _, rfl, d, f, 14, n + 1 + 1, rfl, by decide, by omega, D19.same s20, fun r G21 r0 r1 k21 D21 t21 => ?_⟩
      obtain ⟨v, hat, hv⟩ := at_of (xs := W) r0 (by rw [lW]; exact r1)
      obtain ⟨e, hde, oke⟩ := hall G21 ((TK.of s20).trans t21) (k21 _ _ (nin1 n7d) (s20 _ _ q7)) v (List.mem_of_getElem? hv)
      refine ⟨l5, W, r, v, rfl, rfl, SqL.of (k21 _ _ (nin1 nld) (s20 _ _ q19)), hat, (by show 1 ≤ sizeLine; decide), fun pt n_pt => ?_⟩
      obtain ⟨G22, e_G22, s22, g22⟩ := new_any n_pt
      rw [← e_G22]
      clear e_G22
      have t1922 : TK G19 G22 := ((TK.of s20).trans t21).trans (TK.of s22)
      have lcx : ∀ lo hi, (cutL xs lo hi).length ≤ 60 := fun lo hi => by have := cutL_len xs lo hi; omega
      refine catA_sq (SqT.tk g20 (t21.trans (TK.of s22))) (SqT.of g22) (by have := lcx none (some (i : Int)); show _ + 1 ≤ _; omega) fun G23 y2 s23 g23 => ?_
      refine ⟨_, rfl, _, rfl, _, _, rfl, rfl, _, rfl, ?_⟩
      dsimp only [tNoPart]
      refine slA_sq (SqT.tk hx19 (t1922.trans (TK.of s23))) fun G24 y3 s24 g24 => ?_
      refine catA_sq (SqT.sm g23 s24) g24 (by have := lcx none (some (i : Int)); have := lcx (some ((i : Int) + 1)) none; rw [List.length_append]; show _ + 1 + _ ≤ _; omega) fun G25 y4 s25 g25 => ?_
      have s2225 : Same G21 G25 := s22.trans (s23.trans (s24.trans s25))
      have tk : TK H G25 := t02.trans ((TK.of s019).trans ((TK.of s20).trans (t21.trans (TK.of s2225))))
      have rxf := RpL.dp _ _ (RpL.tk' rx tk)
      refine k G25 (.ref y4) (.tuple ((cutL L none (some (i : Int)) ++ [e]) ++ cutL L (some ((i : Int) + 1)) none)) (.inl (.tup g25 (DpAll.app (DpAll.app (DpAll.cut rxf) (.cons (Wn.Dp.sm s2225 hde) .nil)) (DpAll.cut rxf)))) (bent_tup (fun x hx => ?_) ?_) (kp2.trans ((Kp.of s019).trans ((Kp.of s20).trans (k21.trans (Kp.of s2225))))) tk ((D21.same s2225).mono (by omega))
      · rcases List.mem_append.mp hx with hx | hx
        · rcases List.mem_append.mp hx with hx | hx
          · exact eps _ (cutL_mem hx)
          · rw [List.mem_singleton] at hx
            subst hx
            exact oke
        · exact eps _ (cutL_mem hx)
      · have e1 : ((i : Int) + 1) = ((i + 1 : Nat) : Int) := by omega
        rw [List.length_append, List.length_append, List.length_singleton, e1, cutL_to, cutL_from, List.length_take, List.length_drop]
        omega
end
end Wn

set_option maxHeartbeats 800000
namespace Wn
open PySem L2
open SX (S S_len S_cat S_beq_eq join_S)
set_option pp.maxSteps 700
set_option pp.deepTerms false
local macro_rules | `(tactic| walk_at "h") => `(tactic| first | with_reducible assumption | (with_reducible exact upd_same) | (with_reducible apply g_upd; (walk_at "neq"); (walk_at "h")) | (with_reducible apply g_same; (with_reducible assumption); (walk_at "h")) | (with_reducible apply g_kp; (with_reducible assumption); (walk_at "nin"); (walk_at "h")) | (with_reducible apply g_tk; (with_reducible assumption); (walk_at "h")))
local macro_rules | `(tactic| walk_at "neq") => `(tactic| first | with_reducible assumption | (with_reducible apply Ne.symm; with_reducible assumption) | (with_reducible apply ne_upd; (with_reducible assumption)) | (with_reducible apply Ne.symm; with_reducible apply ne_upd; with_reducible assumption) | (with_reducible apply ne_fr; (with_reducible assumption); (walk_at "h")) | (with_reducible apply ne_fr'; (with_reducible assumption); (walk_at "h")) | (with_reducible apply ne_kd; (walk_at "h"); (walk_at "h"); (with_unfolding_all (intro z; cases z))))
local macro_rules | `(tactic| walk_at "nin") => `(tactic| first | (with_reducible exact nin0) | with_reducible assumption | (with_reducible apply ninc; (walk_at "neq"); (walk_at "nin")))
local macro_rules | `(tactic| walk_at "none") => `(tactic| first | with_reducible assumption | (with_reducible apply n_upd; (with_reducible assumption)) | (with_reducible apply n_same; (with_reducible assumption); (walk_at "none")) | (with_reducible apply n_kp; (with_reducible assumption); (walk_at "nin"); (walk_at "none")))
local macro_rules | `(tactic| walk_at "mem") => `(tactic| first | (with_reducible exact List.mem_cons_self) | (with_reducible apply List.mem_cons_of_mem; (walk_at "mem")))
local macro_rules | `(tactic| walk_at "am") => `(tactic| first | (with_reducible exact am0) | (with_reducible apply am1; (first | (apply Or.inl; walk_at "mem") | (apply Or.inr; walk_at "none")); (walk_at "am")))
local macro_rules | `(tactic| walk_at "tk") => `(tactic| first | (with_reducible exact TK.refl _) | with_reducible assumption | (with_reducible apply t_tk; (with_reducible assumption); (walk_at "tk")) | (with_reducible apply t_same; (with_reducible assumption); (walk_at "tk")) | (with_reducible apply t_new; (with_reducible assumption); (walk_at "tk")) | (with_reducible apply t_wr; (walk_at "h"); (with_unfolding_all rfl); (walk_at "tk")))
local macro_rules | `(tactic| walk_at "same") => `(tactic| first | (with_reducible exact L2.Same.refl _) | with_reducible assumption | (with_reducible apply s_same; (with_reducible assumption); (walk_at "same")) | (with_reducible apply s_new; (with_reducible assumption); (walk_at "same")) | (with_reducible apply s_wrn; (walk_at "none"); (walk_at "same")))
local macro_rules | `(tactic| walk_at "kp") => `(tactic| first | (with_reducible exact Kp.refl _ _) | with_reducible assumption | (with_reducible apply k_same; (with_reducible assumption); (walk_at "kp")) | (with_reducible apply k_kp; (with_reducible assumption); (walk_at "kp")) | (with_reducible apply k_kpm; (with_reducible assumption); (walk_at "am"); (walk_at "kp")) | (with_reducible apply k_new; (with_reducible assumption); (walk_at "kp")) | (with_reducible apply k_wr; (walk_at "mem"); (walk_at "kp")) | (with_reducible apply k_wrn; (walk_at "none"); (walk_at "kp")))
local macro_rules | `(tactic| walk_at "rp") => `(tactic| first | with_reducible assumption | (with_reducible exact Rp.int) | (with_reducible exact Rp.str) | (with_reducible exact Rp.none) | (with_reducible exact Rp.bool) | (with_reducible apply Rp.tk'; (with_reducible assumption); (walk_at "tk")) | (with_reducible apply Rp.tup; (walk_at "h"); (walk_at "rpl")))
local macro_rules | `(tactic| walk_at "rpl") => `(tactic| first | with_reducible assumption | (with_reducible exact RpL.nil) | (with_reducible apply RpL.tk'; (with_reducible assumption); (walk_at "tk")) | (with_reducible apply RpL.cons; (walk_at "rp"); (walk_at "rpl")))
local macro_rules | `(tactic| walk_at "g") => `(tactic| repeat (first | refine ⟨_, rfl, ?_⟩ | refine ⟨_, _, rfl, rfl, ?_⟩ | refine ⟨rfl, _, rfl, ?_⟩ | refine ⟨_, _, rfl, rfl, (by first | decide | omega), ?_⟩))
abbrev sLaw : Stmt := top 14

theorem prts_ok {cs : List Nat} {size : Int} {ps : List Prt} (h : areS (S cs) size (.tuple (ps.map prtD)) = true) (hl : cs.length ≤ 60) (hc : ∀ c ∈ cs, OkSign c) : ∀ p ∈ ps, PrtOk p := fun p hp => by
  have h : ((ps.map prtD).all (isPartS (S cs) size) && _) = true := h
  rw [Bool.and_eq_true] at h
  have hk : okPrt (S cs) size p = true := List.all_eq_true.mp h.1 (prtD p) (List.mem_map.mpr ⟨p, hp, rfl⟩)
  obtain ⟨b1, b2, b3, b4⟩ := okPrt_bd hk
  have e0 : (S cs).length = cs.length := S_len cs
  have e : cutS (S cs) (some p.1) (some (p.1 + p.2.length)) = p.2 := by
    unfold okPrt at hk
    simp only [Bool.and_eq_true, decide_eq_true_eq] at hk
    exact hk.2
  refine ⟨⟨b1, by omega⟩, by omega, ?_⟩
  rw [← e]
  refine sOk_cut ?_
  rw [sOk_iff]
  intro c q
  have := hc c (by simpa using q)
  have := this.2.1
  omega
theorem short_prts {ps : List Prt} (h : ∀ p ∈ ps, PrtOk p) (hl : ps.length ≤ 60) : BentOk (.tuple (ps.map prtD)) := bent_tup (elem_prts h) (by rw [List.length_map]; omega)
theorem rep_ok {d : PyData} (h : BentOk d) : d.showable = true ∧ (d = .dict [] ∨ d.hasDict = false) ∧ d.depth ≤ 60 ∧ d.shown.length ≤ sizeLine := by
  rcases h.2 with rfl | ⟨h1, h2, h3⟩
  · exact ⟨by decide +kernel, .inl rfl, by decide +kernel, by decide +kernel⟩
  · obtain ⟨a, b, c, d⟩ := nice_ok h1 h2 h3
    exact ⟨a, .inr b, c, d⟩
theorem at3i {a b c : Int} {r : Int} (h0 : 0 ≤ r) (h1 : r < 3) : ∃ v : Int, atI [V.int a, .int b, .int c] r = some (.int v) ∧ (v = a ∨ v = b ∨ v = c) := by
  have h : r = 0 ∨ r = 1 ∨ r = 2 := by omega
  rcases h with rfl | rfl | rfl
  · exact ⟨a, rfl, .inl rfl⟩
  · exact ⟨b, rfl, .inr (.inl rfl)⟩
  · exact ⟨c, rfl, .inr (.inr rfl)⟩
theorem at2i {a b : Int} {r : Int} (h0 : 0 ≤ r) (h1 : r < 2) : ∃ v : Int, atI [V.int a, .int b] r = some (.int v) ∧ (v = a ∨ v = b) := by
  have h : r = 0 ∨ r = 1 := by omega
  rcases h with rfl | rfl
  · exact ⟨a, rfl, .inl rfl⟩
  · exact ⟨b, rfl, .inr rfl⟩
section
variable {P : Program} {w : World} {K : PySem.W.Frag} {mg : Str → Option Value} {base : Heap}
theorem scLaw : FnScope ["_law_script", "_law_deck_here", "_law_turn", "_law_text_here", "_law_size", "_law_parts_here", "_law_k", "_law_thing", "_law_kept", "_law_found"] ["_law_script"] (defScope sLaw) := ⟨rfl, rfl, rfl, by decide +kernel, rfl, by decide +kernel, by decide +kernel⟩
theorem ok_law {f : Addr} {fd : FuncData} (F : Fun K "law" "law" sLaw f fd) (B : TB mg) (nRepr : mg "repr" = none)
    (cN : Cd P w K mg base 2 "_law_next" ["_law_deck_here", "_law_many"] spNext) (cD : Cd P w K mg base 2 "_law_deck" ["_law_script"] (spDeck K)) (cX : Cd P w K mg base 4 "_law_text" ["_law_deck_here", "_law_most"] spText)
    (cP : Cd P w K mg base 3 "_law_parts" ["_law_deck_here", "_law_text_here", "_law_size"] (spParts K)) (cA : Cd P w K mg base 3 "are_parts" ["text", "size", "thing"] (spAreA K))
    (cB : Cd P w K mg base 3 "_law_bent" ["_law_deck_here", "_law_text_here", "_law_parts_here"] (spBent K)) (cG : Cd P w K mg base 1 "_law_good" ["_law_text_here", "_law_size", "_law_thing"] (spGoodA K)) :
    LawOk P w K mg base f fd ["_law_script"] (spLaw K) := by
  obtain ⟨fN, fdN, GN, mN, kN, bN⟩ := cN.tk
  obtain ⟨fD, fdD, GD, mD, kD, bD⟩ := cD
  obtain ⟨fX, fdX, GX, mX, kX, bX⟩ := cX
  obtain ⟨fP, fdP, GP, mP, kP, bP⟩ := cP.tk
  obtain ⟨fA, fdA, GA, mA, kA, bA⟩ := cA
  obtain ⟨fB, fdB, GB, mB, kB, bB⟩ := cB
  obtain ⟨fG, fdG, GG, mG, kG, bG⟩ := cG
  refine law_ok (k := 4) F scLaw (fun vs H Q E h => ?_) ⟨rfl, by decide, by decide⟩ (fun cdv A s H vs Q hA hr h => ?_)
  · obtain ⟨a, ns, rfl, _⟩ := h
    rfl
  · obtain ⟨a, ns, rfl, hS, hlen, k⟩ := h
    subst hA
    have hr1 : Room 1 _ := hr.mono (by decide)
    have hr2 : Room 2 _ := hr.mono (by decide)
    have hr3 : Room 3 _ := hr.mono (by decide)
    refine ⟨_, (pss_cons (ps_set (i := 1) scLaw.nd rfl (Or.inl rfl) (pe_call GD hr2 rfl mD kD bD .nil pass0 (pa_cons (pv 0) pa_nil)))
       (pss_cons (ps_for PassesOwn.never rfl (pi_range1 rfl B.range (pa_cons pe_int pa_nil)) (pg_name (i := 2) scLaw.nd rfl (Or.inl rfl))
       (pss_cons (ps_set (i := 3) scLaw.nd rfl (Or.inl rfl) (pe_call GX hr rfl mX kX bX .nil pass0 (pa_cons (pv 1) (pa_cons (pe_ix (ixL (K := K) rfl) (pe_lst (pa_cons pe_int (pa_cons pe_int (pa_cons pe_int pa_nil)))) (pe_call GN hr2 rfl mN kN bN .nil pass0 (pa_cons (pv 1) (pa_cons pe_int pa_nil))) (fun _ _ => rfl)) pa_nil))))
       (pss_cons (ps_set (i := 4) scLaw.nd rfl (Or.inl rfl) (pe_op op_add pe_int (pe_call GN hr2 rfl mN kN bN .nil pass0 (pa_cons (pv 1) (pa_cons (pe_ix (ixL (K := K) rfl) (pe_lst (pa_cons pe_int (pa_cons pe_int pa_nil))) (pe_call GN hr2 rfl mN kN bN .nil pass0 (pa_cons (pv 1) (pa_cons pe_int pa_nil))) (fun _ _ => rfl)) pa_nil)))))
       (pss_cons (ps_set (i := 5) scLaw.nd rfl (Or.inl rfl) (pe_call GP hr3 rfl mP kP bP .nil pass0 (pa_cons (pv 1) (pa_cons (pv 3) (pa_cons (pv 4) pa_nil)))))
       (pss_cons (ps_if (pt_cmpR op_isnot_bl (pe_call GA hr3 rfl mA kA bA .nil pass0 (pa_cons (pv 3) (pa_cons (pv 4) (pa_cons (pv 5) pa_nil)))) pe_bl (nomark _))
       (pss_one (ps_ret pe_bl))
       pss_nil)
       (pss_one (ps_for PassesOwn.never rfl (pi_range1 rfl B.range (pa_cons pe_int pa_nil)) (pg_name (i := 6) scLaw.nd rfl (Or.inl rfl))
       (pss_cons (ps_set (i := 7) scLaw.nd rfl (Or.inl rfl) (pe_call GB hr3 rfl mB kB bB .nil pass0 (pa_cons (pv 1) (pa_cons (pv 3) (pa_cons (pv 5) pa_nil)))))
       (pss_cons (ps_set (i := 8) scLaw.nd rfl (Or.inl rfl) (pe_callB (reprAK (K := K) rfl rfl hr.units) (by rfl) nRepr (by decide +kernel) (pa_cons (pv 7) pa_nil)))
       (pss_cons (ps_set (i := 9) scLaw.nd rfl (Or.inl rfl) (pe_call GA hr3 rfl mA kA bA .nil pass0 (pa_cons (pv 3) (pa_cons (pv 4) (pa_cons (pv 7) pa_nil)))))
       (pss_one (ps_if (PW.pt (pw_or (pt_not (pt_val (pe_callB (isiK (K := K) rfl) (by rfl) B.isinstance (by decide +kernel) (pa_cons (pv 9) (pa_cons (pe_bltn (v := .ty "bool") (by rfl) B.bool PyProof.Rows.boot_bool rfl) pa_nil))))) (pw_or (pt_cmpR op_ne (pv 9) (pe_call GG hr1 rfl mG kG bG .nil pass0 (pa_cons (pv 3) (pa_cons (pv 4) (pa_cons (pv 7) pa_nil)))) (nomark _)) (pw_or1 (pt_cmpR op_ne (pe_callB (reprAK (K := K) rfl rfl hr.units) (by rfl) nRepr (by decide +kernel) (pa_cons (pv 7) pa_nil)) (pv 8) (nomark _))))))
       (pss_one (ps_ret pe_bl))
       pss_nil))))))))))))
       (pss_one (ps_ret pe_bl)))), ?_⟩
    refine ⟨_, rfl, a, ns, rfl, hS, hlen, fun H1 d f nd nf s1 D1 => ?_⟩
    refine ⟨10, rfl, by decide, by decide, ?_⟩
    refine for_range (lo := 0) (fun i σ H' => ∃ v2 v3 v4 v5 v6 v7 v8 v9, σ = [some (.ref a), some (.ref d), v2, v3, v4, v5, v6, v7, v8, v9] ∧ Deck H' d f (1000 * i)) ⟨_, _, _, _, _, _, _, _, rfl, D1.mono (by omega)⟩ ?_ ?_
    · rintro i σ H2 hi ⟨v2, v3, v4, v5, v6, v7, v8, v9, rfl, D2⟩
      have hi : i < 10 := hi
      obtain ⟨zd, hd2⟩ := D2.lst
      refine ⟨_, rfl, (by show 3 ≤ sizeLine; decide), fun l n_l => ?_⟩
      obtain ⟨H3, e_H3, s3, h3⟩ := new_any n_l
      rw [← e_H3]
      clear e_H3
      refine ⟨_, rfl, d, f, 3, 1000 * i, rfl, by decide, by omega, D2.same s3, fun r H4 r0 r1 k4 D4 t4 => ?_⟩
      obtain ⟨most, hmost, hm3⟩ := at3i (a := 2) (b := 20) (c := 60) r0 r1
      refine ⟨l, _, _, _, rfl, rfl, SqL.of (by walk_at "h"), hmost, ?_⟩
      refine ⟨d, f, 1000 * i + 1, most, rfl, D4, by omega, by omega, by omega, fun cs H5 lcs ocs k5 D5 => ?_⟩
      have lcs : cs.length ≤ 60 := by omega
      obtain ⟨zd5, hd5⟩ := D5.lst
      refine ⟨_, rfl, (by show 2 ≤ sizeLine; decide), fun l2 n_l2 => ?_⟩
      obtain ⟨H6, e_H6, s6, h6⟩ := new_any n_l2
      rw [← e_H6]
      clear e_H6
      refine ⟨_, rfl, d, f, 2, 1000 * i + 1 + 1 + most, rfl, by decide, by omega, D5.same s6, fun r2 H7 r20 r21 k7 D7 t7 => ?_⟩
      obtain ⟨many, hmany, hm7⟩ := at2i (a := 3) (b := 20) r20 r21
      refine ⟨l2, _, _, _, rfl, rfl, SqL.of (by walk_at "h"), hmany, ?_⟩
      refine ⟨d, f, many, 1000 * i + 1 + 1 + most + 1, rfl, by omega, by omega, D7, fun sz0 H8 z0 z1 k8 D8 t8 => ?_⟩
      refine ⟨_, _, rfl, rfl, ?_⟩
      refine ⟨_, rfl, _, rfl, _, rfl, d, f, 1000 * i + 1 + 1 + most + 1 + 1, 1 + sz0, cs, rfl, D8, by omega, by omega, by omega, lcs, fun H9 pa ps hT hA hl kp9 D9 t9 => ?_⟩
      have hok := prts_ok hA lcs ocs
      have bok := short_prts hok hl
      have lS : (S cs).length ≤ 1000 := by rw [S_len]; omega
      obtain ⟨txs, hTx, rTx⟩ := hT.inv
      refine ⟨_, rfl, _, rfl, _, rfl, S cs, 1 + sz0, _, _, rfl, .inl (Rp.dp _ _ hT), lS, bok.1, fun H10 s10 => ?_⟩
      rw [hA]
      refine ⟨_, _, rfl, rfl, _, rfl, iteF ?_⟩
      have hd10 : ∃ z, H10 d = some (.lst z) := ⟨_, s10 _ _ D9.lst.choose_spec⟩
      refine ⟨4, rfl, by decide, by decide, ?_⟩
      have D10 := D9.same s10
      have hT10 := hT.sm s10
      refine for_range (lo := 0) (fun j σ H' => ∃ v6 v7 v8 v9, σ = [some (.ref a), some (.ref d), some (.int (0 + (i : Int))), some (.str (S cs)), some (.int (1 + sz0)), some (.ref pa), v6, v7, v8, v9] ∧ TupAt K H' pa (ps.map prtD) ∧ Deck H' d f (1000 * i + 500 + 20 * j)) ⟨_, _, _, _, rfl, hT10, D10.mono (by omega)⟩ ?_ ?_
      · rintro j σ H11 hj ⟨v6, v7, v8, v9, rfl, hT11, D11⟩
        have hj : j < 4 := hj
        refine ⟨_, rfl, _, rfl, _, rfl, d, f, pa, 1000 * i + 500 + 20 * j, _, ps, rfl, D11, by omega, hT11, hl, hok, fun H12 v dd hv hb k12 t12 D12 => ?_⟩
        obtain ⟨q1, q2, q3, q4⟩ := rep_ok hb
        refine ⟨_, rfl, _, dd, rfl, hv, q1, q2, q3, q4, ?_⟩
        refine ⟨_, rfl, _, rfl, _, rfl, S cs, 1 + sz0, v, dd, rfl, hv, lS, hb.1, fun H13 s13 => ?_⟩
        refine ⟨_, rfl, _, _, _, _, true, rfl, .ty _, .base (.bl _), kit_ty (by decide +kernel), _, rfl, iteF ?_⟩
        refine ⟨_, rfl, _, rfl, _, rfl, _, rfl, S cs, 1 + sz0, v, dd, rfl, hv.sm s13, lS, hb.1, fun H14 s14 => ?_⟩
        rw [are_good]
        refine ⟨rfl, _, rfl, iteNP (fun c => absurd rfl c) (fun _ => ?_)⟩
        refine ⟨_, rfl, v, dd, rfl, (hv.sm s13).sm s14, q1, q2, q3, q4, ?_⟩
        refine ⟨_, rfl, rfl, _, rfl, iteNP (fun c => absurd rfl c) (fun _ => ?_)⟩
        exact ⟨_, _, _, _, rfl, (hT11.tk t12).sm (s13.trans s14), (D12.same (s13.trans s14)).mono (by omega)⟩
      · rintro σ H11 ⟨v6, v7, v8, v9, rfl, hT11, D11⟩
        exact ⟨_, _, _, _, _, _, _, _, rfl, D11.mono (by omega)⟩
    · rintro σ H2 ⟨v2, v3, v4, v5, v6, v7, v8, v9, rfl, D2⟩
      exact k _
end
end Wn

namespace Wn
open PySem L2
theorem all_mk {l : PySem.W.OpenLaw} {w : World} {K : PySem.W.Frag} {h : Heap} {mg : Str → Option Value} {fa f_is_whole f_is_part f_are_parts f_law_mixed f_law_deck f_law_next f_law_sign f_law_text f_law_good f_law_parts f_law_bent f_law : Addr} (X : K.In h) (G : h.Ns mainGlobals mg) (hfa : mg "law" = some (.ref fa))
    {od_is_whole an_is_whole od_is_part an_is_part od_are_parts an_are_parts od_law_mixed an_law_mixed od_law_deck an_law_deck od_law_next an_law_next od_law_sign an_law_sign od_law_text an_law_text od_law_good an_law_good od_law_parts an_law_parts od_law_bent an_law_bent od_law an_law : Option Addr} {sl_is_whole sl_is_part sl_are_parts sl_law_mixed sl_law_deck sl_law_next sl_law_sign sl_law_text sl_law_good sl_law_parts sl_law_bent sl_law : Array (Option Value)} {oc_is_whole kV_is_whole dc_is_whole pm_is_whole cd_is_whole ct_is_whole oc_is_part kV_is_part dc_is_part pm_is_part cd_is_part ct_is_part oc_are_parts kV_are_parts dc_are_parts pm_are_parts cd_are_parts ct_are_parts oc_law_mixed kV_law_mixed dc_law_mixed pm_law_mixed cd_law_mixed ct_law_mixed oc_law_deck kV_law_deck dc_law_deck pm_law_deck cd_law_deck ct_law_deck oc_law_next kV_law_next dc_law_next pm_law_next cd_law_next ct_law_next oc_law_sign kV_law_sign dc_law_sign pm_law_sign cd_law_sign ct_law_sign oc_law_text kV_law_text dc_law_text pm_law_text cd_law_text ct_law_text oc_law_good kV_law_good dc_law_good pm_law_good cd_law_good ct_law_good oc_law_parts kV_law_parts dc_law_parts pm_law_parts cd_law_parts ct_law_parts oc_law_bent kV_law_bent dc_law_bent pm_law_bent cd_law_bent ct_law_bent oc_law kV_law dc_law pm_law cd_law ct_law : Value}
    (a_is_whole : PySem.W.nsIn K mainGlobals "is_whole" = some (some (.ref f_is_whole)))
    (l_is_whole : K.lookup f_is_whole = some ⟨oc_is_whole, od_is_whole, .func (PySem.W.fnOf "is_whole" "is_whole" (defArgs sWhole) (defBody sWhole) (defScope sWhole) .none kV_is_whole dc_is_whole pm_is_whole an_is_whole cd_is_whole ct_is_whole), sl_is_whole⟩)
    (c_is_whole : PySem.W.codeIn K cd_is_whole "is_whole" = true)
    (k_is_whole : PySem.W.keepIn K (.ref f_is_whole) = true)
    (a_is_part : PySem.W.nsIn K mainGlobals "is_part" = some (some (.ref f_is_part)))
    (l_is_part : K.lookup f_is_part = some ⟨oc_is_part, od_is_part, .func (PySem.W.fnOf "is_part" "is_part" (defArgs sIsPart) (defBody sIsPart) (defScope sIsPart) .none kV_is_part dc_is_part pm_is_part an_is_part cd_is_part ct_is_part), sl_is_part⟩)
    (c_is_part : PySem.W.codeIn K cd_is_part "is_part" = true)
    (k_is_part : PySem.W.keepIn K (.ref f_is_part) = true)
    (a_are_parts : PySem.W.nsIn K mainGlobals "are_parts" = some (some (.ref f_are_parts)))
    (l_are_parts : K.lookup f_are_parts = some ⟨oc_are_parts, od_are_parts, .func (PySem.W.fnOf "are_parts" "are_parts" (defArgs sAre) (defBody sAre) (defScope sAre) .none kV_are_parts dc_are_parts pm_are_parts an_are_parts cd_are_parts ct_are_parts), sl_are_parts⟩)
    (c_are_parts : PySem.W.codeIn K cd_are_parts "are_parts" = true)
    (k_are_parts : PySem.W.keepIn K (.ref f_are_parts) = true)
    (a_law_mixed : PySem.W.nsIn K mainGlobals "_law_mixed" = some (some (.ref f_law_mixed)))
    (l_law_mixed : K.lookup f_law_mixed = some ⟨oc_law_mixed, od_law_mixed, .func (PySem.W.fnOf "_law_mixed" "_law_mixed" (defArgs sMixed) (defBody sMixed) (defScope sMixed) .none kV_law_mixed dc_law_mixed pm_law_mixed an_law_mixed cd_law_mixed ct_law_mixed), sl_law_mixed⟩)
    (c_law_mixed : PySem.W.codeIn K cd_law_mixed "_law_mixed" = true)
    (k_law_mixed : PySem.W.keepIn K (.ref f_law_mixed) = true)
    (a_law_deck : PySem.W.nsIn K mainGlobals "_law_deck" = some (some (.ref f_law_deck)))
    (l_law_deck : K.lookup f_law_deck = some ⟨oc_law_deck, od_law_deck, .func (PySem.W.fnOf "_law_deck" "_law_deck" (defArgs sDeck) (defBody sDeck) (defScope sDeck) .none kV_law_deck dc_law_deck pm_law_deck an_law_deck cd_law_deck ct_law_deck), sl_law_deck⟩)
    (c_law_deck : PySem.W.codeIn K cd_law_deck "_law_deck" = true)
    (k_law_deck : PySem.W.keepIn K (.ref f_law_deck) = true)
    (a_law_next : PySem.W.nsIn K mainGlobals "_law_next" = some (some (.ref f_law_next)))
    (l_law_next : K.lookup f_law_next = some ⟨oc_law_next, od_law_next, .func (PySem.W.fnOf "_law_next" "_law_next" (defArgs sNext) (defBody sNext) (defScope sNext) .none kV_law_next dc_law_next pm_law_next an_law_next cd_law_next ct_law_next), sl_law_next⟩)
    (c_law_next : PySem.W.codeIn K cd_law_next "_law_next" = true)
    (k_law_next : PySem.W.keepIn K (.ref f_law_next) = true)
    (a_law_sign : PySem.W.nsIn K mainGlobals "_law_sign" = some (some (.ref f_law_sign)))
    (l_law_sign : K.lookup f_law_sign = some ⟨oc_law_sign, od_law_sign, .func (PySem.W.fnOf "_law_sign" "_law_sign" (defArgs sSign) (defBody sSign) (defScope sSign) .none kV_law_sign dc_law_sign pm_law_sign an_law_sign cd_law_sign ct_law_sign), sl_law_sign⟩)
    (c_law_sign : PySem.W.codeIn K cd_law_sign "_law_sign" = true)
    (k_law_sign : PySem.W.keepIn K (.ref f_law_sign) = true)
    (a_law_text : PySem.W.nsIn K mainGlobals "_law_text" = some (some (.ref f_law_text)))
    (l_law_text : K.lookup f_law_text = some ⟨oc_law_text, od_law_text, .func (PySem.W.fnOf "_law_text" "_law_text" (defArgs sText) (defBody sText) (defScope sText) .none kV_law_text dc_law_text pm_law_text an_law_text cd_law_text ct_law_text), sl_law_text⟩)
    (c_law_text : PySem.W.codeIn K cd_law_text "_law_text" = true)
    (k_law_text : PySem.W.keepIn K (.ref f_law_text) = true)
    (a_law_good : PySem.W.nsIn K mainGlobals "_law_good" = some (some (.ref f_law_good)))
    (l_law_good : K.lookup f_law_good = some ⟨oc_law_good, od_law_good, .func (PySem.W.fnOf "_law_good" "_law_good" (defArgs sGood) (defBody sGood) (defScope sGood) .none kV_law_good dc_law_good pm_law_good an_law_good cd_law_good ct_law_good), sl_law_good⟩)
    (c_law_good : PySem.W.codeIn K cd_law_good "_law_good" = true)
    (k_law_good : PySem.W.keepIn K (.ref f_law_good) = true)
    (a_law_parts : PySem.W.nsIn K mainGlobals "_law_parts" = some (some (.ref f_law_parts)))
    (l_law_parts : K.lookup f_law_parts = some ⟨oc_law_parts, od_law_parts, .func (PySem.W.fnOf "_law_parts" "_law_parts" (defArgs sParts) (defBody sParts) (defScope sParts) .none kV_law_parts dc_law_parts pm_law_parts an_law_parts cd_law_parts ct_law_parts), sl_law_parts⟩)
    (c_law_parts : PySem.W.codeIn K cd_law_parts "_law_parts" = true)
    (k_law_parts : PySem.W.keepIn K (.ref f_law_parts) = true)
    (a_law_bent : PySem.W.nsIn K mainGlobals "_law_bent" = some (some (.ref f_law_bent)))
    (l_law_bent : K.lookup f_law_bent = some ⟨oc_law_bent, od_law_bent, .func (PySem.W.fnOf "_law_bent" "_law_bent" (defArgs sBent) (defBody sBent) (defScope sBent) .none kV_law_bent dc_law_bent pm_law_bent an_law_bent cd_law_bent ct_law_bent), sl_law_bent⟩)
    (c_law_bent : PySem.W.codeIn K cd_law_bent "_law_bent" = true)
    (k_law_bent : PySem.W.keepIn K (.ref f_law_bent) = true)
    (a_law : PySem.W.nsIn K mainGlobals "law" = some (some (.ref f_law)))
    (l_law : K.lookup f_law = some ⟨oc_law, od_law, .func (PySem.W.fnOf "law" "law" (defArgs sLaw) (defBody sLaw) (defScope sLaw) .none kV_law dc_law pm_law an_law cd_law ct_law), sl_law⟩)
    (c_law : PySem.W.codeIn K cd_law "law" = true)
    (k_law : PySem.W.keepIn K (.ref f_law) = true)
    (z_len : PySem.W.nsIn K mainGlobals "len" = some none)
    (z_range : PySem.W.nsIn K mainGlobals "range" = some none)
    (z_min : PySem.W.nsIn K mainGlobals "min" = some none)
    (z_max : PySem.W.nsIn K mainGlobals "max" = some none)
    (z_isinstance : PySem.W.nsIn K mainGlobals "isinstance" = some none)
    (z_tuple : PySem.W.nsIn K mainGlobals "tuple" = some none)
    (z_bool : PySem.W.nsIn K mainGlobals "bool" = some none)
    (z_str : PySem.W.nsIn K mainGlobals "str" = some none)
    (z_int : PySem.W.nsIn K mainGlobals "int" = some none)
    (z_all : PySem.W.nsIn K mainGlobals "all" = some none)
    (z_list : PySem.W.nsIn K mainGlobals "list" = some none)
    (z_repr : PySem.W.nsIn K mainGlobals "repr" = some none) :
    ∃ fd : FuncData, (∀ (s : Shared) (v : Value), BindsTo s fd ⟨[v], []⟩ [("_law_script", v)]) ∧ ∀ base : Heap, K.In base → base.Ns mainGlobals mg → LawOk l.prog w K mg base fa fd ["_law_script"] (spLaw K) := by
  have e := hfa.symm.trans (PySem.W.mg_of X G a_law)
  cases e
  have F_is_whole := fun_mk (st := sWhole) l_is_whole c_is_whole k_is_whole
  have b_is_whole := F_is_whole.binds (ps := ["thing"]) fun _ _ _ _ _ _ us hl => match us, hl with | [_], _ => rfl
  have m_is_whole := PySem.W.mg_of X G a_is_whole
  have F_is_part := fun_mk (st := sIsPart) l_is_part c_is_part k_is_part
  have b_is_part := F_is_part.binds (ps := ["text", "size", "thing"]) fun _ _ _ _ _ _ us hl => match us, hl with | [_, _, _], _ => rfl
  have m_is_part := PySem.W.mg_of X G a_is_part
  have F_are_parts := fun_mk (st := sAre) l_are_parts c_are_parts k_are_parts
  have b_are_parts := F_are_parts.binds (ps := ["text", "size", "thing"]) fun _ _ _ _ _ _ us hl => match us, hl with | [_, _, _], _ => rfl
  have m_are_parts := PySem.W.mg_of X G a_are_parts
  have F_law_mixed := fun_mk (st := sMixed) l_law_mixed c_law_mixed k_law_mixed
  have b_law_mixed := F_law_mixed.binds (ps := ["_law_cell", "_law_at"]) fun _ _ _ _ _ _ us hl => match us, hl with | [_, _], _ => rfl
  have m_law_mixed := PySem.W.mg_of X G a_law_mixed
  have F_law_deck := fun_mk (st := sDeck) l_law_deck c_law_deck k_law_deck
  have b_law_deck := F_law_deck.binds (ps := ["_law_script"]) fun _ _ _ _ _ _ us hl => match us, hl with | [_], _ => rfl
  have m_law_deck := PySem.W.mg_of X G a_law_deck
  have F_law_next := fun_mk (st := sNext) l_law_next c_law_next k_law_next
  have b_law_next := F_law_next.binds (ps := ["_law_deck_here", "_law_many"]) fun _ _ _ _ _ _ us hl => match us, hl with | [_, _], _ => rfl
  have m_law_next := PySem.W.mg_of X G a_law_next
  have F_law_sign := fun_mk (st := sSign) l_law_sign c_law_sign k_law_sign
  have b_law_sign := F_law_sign.binds (ps := ["_law_deck_here"]) fun _ _ _ _ _ _ us hl => match us, hl with | [_], _ => rfl
  have m_law_sign := PySem.W.mg_of X G a_law_sign
  have F_law_text := fun_mk (st := sText) l_law_text c_law_text k_law_text
  have b_law_text := F_law_text.binds (ps := ["_law_deck_here", "_law_most"]) fun _ _ _ _ _ _ us hl => match us, hl with | [_, _], _ => rfl
  have m_law_text := PySem.W.mg_of X G a_law_text
  have F_law_good := fun_mk (st := sGood) l_law_good c_law_good k_law_good
  have b_law_good := F_law_good.binds (ps := ["_law_text_here", "_law_size", "_law_thing"]) fun _ _ _ _ _ _ us hl => match us, hl with | [_, _, _], _ => rfl
  have m_law_good := PySem.W.mg_of X G a_law_good
  have F_law_parts := fun_mk (st := sParts) l_law_parts c_law_parts k_law_parts
  have b_law_parts := F_law_parts.binds (ps := ["_law_deck_here", "_law_text_here", "_law_size"]) fun _ _ _ _ _ _ us hl => match us, hl with | [_, _, _], _ => rfl
  have m_law_parts := PySem.W.mg_of X G a_law_parts
  have F_law_bent := fun_mk (st := sBent) l_law_bent c_law_bent k_law_bent
  have b_law_bent := F_law_bent.binds (ps := ["_law_deck_here", "_law_text_here", "_law_parts_here"]) fun _ _ _ _ _ _ us hl => match us, hl with | [_, _, _], _ => rfl
  have m_law_bent := PySem.W.mg_of X G a_law_bent
  have F_law := fun_mk (st := sLaw) l_law c_law k_law
  have b_law := F_law.binds (ps := ["_law_script"]) fun _ _ _ _ _ _ us hl => match us, hl with | [_], _ => rfl
  have n_len := PySem.W.mg_none_of X G z_len
  have n_range := PySem.W.mg_none_of X G z_range
  have n_min := PySem.W.mg_none_of X G z_min
  have n_max := PySem.W.mg_none_of X G z_max
  have n_isinstance := PySem.W.mg_none_of X G z_isinstance
  have n_tuple := PySem.W.mg_none_of X G z_tuple
  have n_bool := PySem.W.mg_none_of X G z_bool
  have n_str := PySem.W.mg_none_of X G z_str
  have n_int := PySem.W.mg_none_of X G z_int
  have n_all := PySem.W.mg_none_of X G z_all
  have n_list := PySem.W.mg_none_of X G z_list
  have n_repr := PySem.W.mg_none_of X G z_repr
  refine ⟨PySem.W.fnOf "law" "law" (defArgs sLaw) (defBody sLaw) (defScope sLaw) .none kV_law dc_law pm_law an_law cd_law ct_law, fun s v => .of_eq rfl, fun base _ _ => ?_⟩
  have B : TB mg := ⟨n_isinstance, n_tuple, n_bool, n_str, n_int, n_all, n_len, n_range, n_max, n_list⟩
  have cM : Cd l.prog w K mg base 1 "_law_mixed" ["_law_cell", "_law_at"] spMixed := ⟨_, _, ok_mixed F_law_mixed, m_law_mixed, k_law_mixed, b_law_mixed⟩
  have cN : Cd l.prog w K mg base 2 "_law_next" ["_law_deck_here", "_law_many"] spNext := ⟨_, _, ok_next F_law_next n_len cM, m_law_next, k_law_next, b_law_next⟩
  have cD : Cd l.prog w K mg base 2 "_law_deck" ["_law_script"] (spDeck K) := ⟨_, _, ok_deck F_law_deck n_len n_range n_min cM, m_law_deck, k_law_deck, b_law_deck⟩
  have cS : Cd l.prog w K mg base 3 "_law_sign" ["_law_deck_here"] spSign := ⟨_, _, ok_sign F_law_sign cN, m_law_sign, k_law_sign, b_law_sign⟩
  have cX : Cd l.prog w K mg base 4 "_law_text" ["_law_deck_here", "_law_most"] spText := ⟨_, _, ok_text F_law_text n_range cN cS, m_law_text, k_law_text, b_law_text⟩
  have cW : Cd l.prog w K mg base 1 "is_whole" ["thing"] (spWholeA K) := ⟨_, _, ok_whole F_is_whole B, m_is_whole, k_is_whole, b_is_whole⟩
  have cI : Cd l.prog w K mg base 2 "is_part" ["text", "size", "thing"] (spIsPartA K) := ⟨_, _, ok_ispart F_is_part B cW, m_is_part, k_is_part, b_is_part⟩
  have cA : Cd l.prog w K mg base 3 "are_parts" ["text", "size", "thing"] (spAreA K) := ⟨_, _, ok_are F_are_parts B cI, m_are_parts, k_are_parts, b_are_parts⟩
  have cG : Cd l.prog w K mg base 1 "_law_good" ["_law_text_here", "_law_size", "_law_thing"] (spGoodA K) := ⟨_, _, ok_good F_law_good B, m_law_good, k_law_good, b_law_good⟩
  have cP : Cd l.prog w K mg base 3 "_law_parts" ["_law_deck_here", "_law_text_here", "_law_size"] (spParts K) := ⟨_, _, ok_parts F_law_parts B cN, m_law_parts, k_law_parts, b_law_parts⟩
  have cB : Cd l.prog w K mg base 3 "_law_bent" ["_law_deck_here", "_law_text_here", "_law_parts_here"] (spBent K) := ⟨_, _, ok_bent F_law_bent B cN, m_law_bent, k_law_bent, b_law_bent⟩
  exact ok_law F_law B n_repr cN cD cX cP cA cB cG
theorem walk {l : PySem.W.OpenLaw} {q : Program} {loose : List Str} {XP : (Str → Option Value) → Heap → Prop} {YP : World → Heap → Prop} {d : DefRec} {K : Params → PySem.W.Frag} (hn : l.most = some 63) (hdf : d.params.defaults = [])
    (hY : ∀ (w : World) (h : Heap), YP w h → (K w.params).In h)
    (F : ∀ (w : World) (mg : Str → Option Value) (fa : Addr) (h : Heap), (K w.params).In h → h.Ns mainGlobals mg → mg d.name = some (.ref fa) →
      ∃ fd : FuncData, (∀ (s : Shared) (u : Value), BindsTo s fd ⟨[u], []⟩ [("_law_script", u)]) ∧ ∀ base : Heap, (K w.params).In base → base.Ns mainGlobals mg → LawOk l.prog w (K w.params) mg base fa fd ["_law_script"] (spLaw (K w.params))) :
    PySem.W.WalkO q loose XP YP l.row.toRowW d [] (fun f vs => PySem.call f vs) :=
  walkG (n := 63) (x := "_law_script") (sp := fun w => spLaw (K w.params)) hn (by decide) hdf hY F fun _ _ a ns hl hS => ⟨a, ns, rfl, hS, hl, fun _ => rfl⟩
end Wn

open PySem PySem.W PyProof.Rows in
set_option maxRecDepth 100000 in
set_option maxHeartbeats 0 in
theorem PySem.Challenge.cw_wrapnets_k23_whole_what_are_parts_holds : PySem.Challenge.rw_wrapnets_k23_whole_what_are_parts.Holds := by
  w_on; o_law; k_head; (case hw => w_witness2)
  k_fill
  refine Wn.walk (l := PySem.Challenge.rw_wrapnets_k23_whole_what_are_parts) rfl rfl (fun w h Y => PySem.W.kIn_of Y) ?F
  case F =>
    intro w mg fa h KX G hmg
    refine' Wn.all_mk KX G hmg ?a_is_whole ?l_is_whole ?c_is_whole ?k_is_whole ?a_is_part ?l_is_part ?c_is_part ?k_is_part ?a_are_parts ?l_are_parts ?c_are_parts ?k_are_parts ?a_law_mixed ?l_law_mixed ?c_law_mixed ?k_law_mixed ?a_law_deck ?l_law_deck ?c_law_deck ?k_law_deck ?a_law_next ?l_law_next ?c_law_next ?k_law_next ?a_law_sign ?l_law_sign ?c_law_sign ?k_law_sign ?a_law_text ?l_law_text ?c_law_text ?k_law_text ?a_law_good ?l_law_good ?c_law_good ?k_law_good ?a_law_parts ?l_law_parts ?c_law_parts ?k_law_parts ?a_law_bent ?l_law_bent ?c_law_bent ?k_law_bent ?a_law ?l_law ?c_law ?k_law ?z_len ?z_range ?z_min ?z_max ?z_isinstance ?z_tuple ?z_bool ?z_str ?z_int ?z_all ?z_list ?z_repr
    (case a_is_whole => k_is)
    (case l_is_whole => k_is)
    (case c_is_whole => k_is)
    (case k_is_whole => k_is)
    (case a_is_part => k_is)
    (case l_is_part => k_is)
    (case c_is_part => k_is)
    (case k_is_part => k_is)
    (case a_are_parts => k_is)
    (case l_are_parts => k_is)
    (case c_are_parts => k_is)
    (case k_are_parts => k_is)
    (case a_law_mixed => k_is)
    (case l_law_mixed => k_is)
    (case c_law_mixed => k_is)
    (case k_law_mixed => k_is)
    (case a_law_deck => k_is)
    (case l_law_deck => k_is)
    (case c_law_deck => k_is)
    (case k_law_deck => k_is)
    (case a_law_next => k_is)
    (case l_law_next => k_is)
    (case c_law_next => k_is)
    (case k_law_next => k_is)
    (case a_law_sign => k_is)
    (case l_law_sign => k_is)
    (case c_law_sign => k_is)
    (case k_law_sign => k_is)
    (case a_law_text => k_is)
    (case l_law_text => k_is)
    (case c_law_text => k_is)
    (case k_law_text => k_is)
    (case a_law_good => k_is)
    (case l_law_good => k_is)
    (case c_law_good => k_is)
    (case k_law_good => k_is)
    (case a_law_parts => k_is)
    (case l_law_parts => k_is)
    (case c_law_parts => k_is)
    (case k_law_parts => k_is)
    (case a_law_bent => k_is)
    (case l_law_bent => k_is)
    (case c_law_bent => k_is)
    (case k_law_bent => k_is)
    (case a_law => k_is)
    (case l_law => k_is)
    (case c_law => k_is)
    (case k_law => k_is)
    (case z_len => k_is)
    (case z_range => k_is)
    (case z_min => k_is)
    (case z_max => k_is)
    (case z_isinstance => k_is)
    (case z_tuple => k_is)
    (case z_bool => k_is)
    (case z_str => k_is)
    (case z_int => k_is)
    (case z_all => k_is)
    (case z_list => k_is)
    (case z_repr => k_is)
