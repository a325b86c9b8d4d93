import PyProof.Rows.All
import Wide.All
import OpenK.AllK
import Wide.FinOn
import HandS.ForMost
import HandS.IsInst
import HandS.Flow
import HandS.SortInts
import HandS.More
import HandS.Text
import HandS.Walk
import HandS.Conv
import PyProof.ReprRoads
import HandS.TupAny
import HandS.TryOnly
import HandS.Deep
import HandS.Style
import HandS.TupLe
import HandS.DictTup
import HandS.TupSets
import KE.KRevSl
import PyProof.Draws
import PyProof.EnumMake
import HandS.Zip0
import HandS.RaiseMore
import HandS.Replace
import HandS.Zip
import PyProof.ReprBulk
import PyProof.Rows.IntBool
import PyProof.NeKinds
import PySem.Challenge.RW_wrapnets_k04_whole_settled_fars_alone
set_option Elab.async false
set_option maxRecDepth 100000
set_option linter.all false
namespace Wn
open PySem L2

/-- what a caller knows of a def: that it keeps a promise, and where it stands -/
def Cd (P : Program) (w : World) (K : PySem.W.Frag) (mg : Str → Option Value) (base : Heap) (k : Nat) (name : Str) (ps : List Str) (sp : Sp) : Prop :=
  ∃ (f : Addr) (fd : FuncData), FnOk P w K mg base CX0 k f fd ps sp ∧ mg name = some (.ref f) ∧ PySem.W.keepIn K (.ref f) = true ∧ Binds K fd ps []
/-- what a caller knows of a method -/
def Md (P : Program) (w : World) (K : PySem.W.Frag) (mg : Str → Option Value) (base : Heap) (k : Nat) (C : Addr) (name : Str) (ps : List Str) (sp : Sp) : Prop :=
  ∃ (f : Addr) (fd : FuncData), FnOk P w K mg base CX0 k f fd ps sp ∧ Meth K C name f ∧ Binds K fd ps []

/-- all but some addresses stay -/
def Kp (M : List Addr) (H H' : Hp) : Prop := ∀ b o, b ∉ M → H b = some o → H' b = some o
theorem Kp.refl (M : List Addr) (H : Hp) : Kp M H H := fun _ _ _ h => h
theorem Kp.trans {M : List Addr} {H H1 H2 : Hp} (a : Kp M H H1) (b : Kp M H1 H2) : Kp M H H2 := fun c o hc h => b c o hc (a c o hc h)
theorem Kp.mono {M M' : List Addr} {H H1 : Hp} (a : Kp M H H1) (h : ∀ x ∈ M, x ∈ M') : Kp M' H H1 := fun c o hc q => a c o (fun z => hc (h c z)) q
theorem Kp.of {M : List Addr} {H H1 : Hp} (a : Same H H1) : Kp M H H1 := fun c o _ q => a c o q
theorem Kp.new {M : List Addr} {H H1 : Hp} {p : Addr} {o : HO} (a : Kp M H H1) (hp : H1 p = none) : Kp M H (upd H1 p o) := fun c u hc q => by
  rw [upd_ne (ne_of_none (a c u hc q) hp)]
  exact a c u hc q
theorem Kp.wr {M : List Addr} {H H1 : Hp} {p : Addr} {o : HO} (a : Kp M H H1) (hp : p ∈ M) : Kp M H (upd H1 p o) := fun c u hc q => by
  rw [upd_ne (show c ≠ p from fun z => hc (by rw [z]; exact hp))]
  exact a c u hc q
/-- a write to what wasn't there at first -/
theorem Kp.wrn {M : List Addr} {H H1 : Hp} {p : Addr} {o : HO} (a : Kp M H H1) (hp : H p = none) : Kp M H (upd H1 p o) := fun c u hc q => by
  rw [upd_ne (ne_of_none q hp)]
  exact a c u hc q
theorem _root_.L2.Same.new {H H1 : Hp} {p : Addr} {o : HO} (a : Same H H1) (hp : H1 p = none) : Same H (upd H1 p o) := fun c u q => by
  rw [upd_ne (ne_of_none (a c u q) hp)]
  exact a c u q
theorem _root_.L2.Same.wrn {H H1 : Hp} {p : Addr} {o : HO} (a : Same H H1) (hp : H p = none) : Same H (upd H1 p o) := fun c u q => by
  rw [upd_ne (ne_of_none q hp)]
  exact a c u q

/-- a while by a word and a measure -/
theorem while_m {c : TT} {tb : TS} {D : Ends} {σ : L2.St} {H : Hp} (Pv : L2.St → Hp → Prop) (μ : L2.St → Hp → Nat) (h0 : Pv σ H)
    (hs : ∀ m σ H, m = μ σ H → Pv σ H → c σ H fun b H1 => if b = true then ∃ N : L2.St → Hp → Prop, (∀ σ' H', N σ' H' → ∃ m', m' < m ∧ (m' = μ σ' H' ∧ Pv σ' H')) ∧ tb { D with nx := N, ct := N, bk := D.nx } σ H1 else D.nx σ H1) : tWhile c tb D σ H :=
  ⟨fun m σ H => m = μ σ H ∧ Pv σ H, ⟨_, rfl, h0⟩, fun m σ H ⟨e, p⟩ => hs m σ H e p⟩

/-! ### the deck -/
def spMixed : Sp := fun vs H Q _ => ∃ (c a : Int), vs = [.int c, .int a] ∧ -1 ≤ a ∧ a < 2 ^ 60 ∧ ∀ r : Int, Q (.int r) H
/-- a deck at d, of which n draws were taken at most -/
def Deck (H : Hp) (d f : Addr) (n : Int) : Prop :=
  ∃ (a wh : Int) (xs : List Int), H d = some (.lst [.int a, .int wh, .ref f]) ∧ H f = some (.lst (xs.map V.int)) ∧ 0 ≤ a ∧ a ≤ n ∧ xs.length ≤ 100000
def spNext : Sp := fun vs H Q _ => ∃ (d f : Addr) (m n : Int), vs = [.ref d, .int m] ∧ 0 < m ∧ n < 2 ^ 60 ∧ Deck H d f n ∧
  ∀ (r : Int) (H' : Hp), 0 ≤ r → r < m → Kp [d] H H' → Deck H' d f (n + 1) → Q (.int r) H'
def spDeck (K : PySem.W.Frag) : Sp := fun vs H Q _ => ∃ (a : Addr) (ns : List Int), vs = [.ref a] ∧ SqL K H a (ns.map V.int) ∧ ns.length ≤ 63 ∧
  ∀ (H' : Hp) (d f : Addr), H d = none → H f = none → Same H H' → Deck H' d f 0 → Q (.ref d) H'
end Wn

namespace Wn
open PySem L2
/-! ### tuples stay, whatever is called -/
def TK (H H' : Hp) : Prop := (∀ b xs, H b = some (.tup xs) → H' b = some (.tup xs)) ∧ (∀ b o u, H b = some (.frz o u) → H' b = some (.frz o u))
theorem TK.refl (H : Hp) : TK H H := ⟨fun _ _ h => h, fun _ _ _ h => h⟩
theorem TK.trans {H H1 H2 : Hp} (a : TK H H1) (b : TK H1 H2) : TK H H2 := ⟨fun c o h => b.1 c o (a.1 c o h), fun c o u h => b.2 c o u (a.2 c o u h)⟩
theorem TK.of {H H1 : Hp} (a : Same H H1) : TK H H1 := ⟨fun c o h => a _ _ h, fun c o u h => a _ _ h⟩
theorem TK.new {H H1 : Hp} {p : Addr} {o : HO} (a : TK H H1) (hp : H1 p = none) : TK H (upd H1 p o) :=
  ⟨fun c u q => by rw [upd_ne (ne_of_none (a.1 c u q) hp)]; exact a.1 c u q, fun c u z q => by rw [upd_ne (ne_of_none (a.2 c u z q) hp)]; exact a.2 c u z q⟩
/-- what is neither a tuple nor locked may be written -/
def Wrt : HO → Bool
  | .tup _ => false
  | .frz _ _ => false
  | _ => true
theorem TK.wr {H H1 : Hp} {p : Addr} {o u : HO} (a : TK H H1) (hp : H1 p = some u) (hu : Wrt u = true) : TK H (upd H1 p o) :=
  ⟨fun c v q => by
    have h1 := a.1 c v q
    rw [upd_ne (ne_of h1 hp (fun z => by rw [← z] at hu; cases hu))]
    exact h1, fun c v z q => by
    have h1 := a.2 c v z q
    rw [upd_ne (ne_of h1 hp (fun z => by rw [← z] at hu; cases hu))]
    exact h1⟩
theorem _root_.L2.FnOk.tk {P : Program} {w : World} {K : PySem.W.Frag} {mg : Str → Option Value} {base : Heap} {k : Nat} {f : Addr} {fd : FuncData} {ps : List Str} {sp : Sp} (F : FnOk P w K mg base CX0 k f fd ps sp) :
    FnOk P w K mg base CX0 k f fd ps (fun vs H Q E => sp vs H (fun v H' => TK H H' → Q v H') E) := by
  refine ⟨fun vs H Q E q => F.len vs H _ E q, fun A outer s H args us vs Q E hr he hb hv hs => ?_⟩
  refine codeAny_mono (F.run A outer s H args us vs _ E hr he hb hv hs) fun r s' h => ?_
  cases r with
  | ok fl =>
    cases fl with
    | ret u =>
      obtain ⟨v, H', e1, e2, e3, e4, e5, q⟩ := h
      exact ⟨v, H', e1, e2, e3, e4, e5, q ⟨e3.tups, e3.frzs⟩⟩
    | _ => exact h
  | error e => exact h
/-- a promise, tuples kept besides -/
def Tk (sp : Sp) : Sp := fun vs H Q E => sp vs H (fun v H' => TK H H' → Q v H') E
theorem Cd.tk {P : Program} {w : World} {K : PySem.W.Frag} {mg : Str → Option Value} {base : Heap} {k : Nat} {name : Str} {ps : List Str} {sp : Sp} (h : Cd P w K mg base k name ps sp) : Cd P w K mg base k name ps (Tk sp) := by
  obtain ⟨f, fd, G, a, b, c⟩ := h
  exact ⟨f, fd, G.tk, a, b, c⟩
theorem Md.tk {P : Program} {w : World} {K : PySem.W.Frag} {mg : Str → Option Value} {base : Heap} {k : Nat} {C : Addr} {name : Str} {ps : List Str} {sp : Sp} (h : Md P w K mg base k C name ps sp) : Md P w K mg base k C name ps (Tk sp) := by
  obtain ⟨f, fd, G, a, b⟩ := h
  exact ⟨f, fd, G.tk, a, b⟩

/-! ### data: None, truths, ints, texts, tuples of these -/
mutual
def Rp (K : PySem.W.Frag) (H : Hp) : PyData → V → Prop
  | .none, v => v = .non
  | .bool b, v => v = .bl b
  | .int i, v => v = .int i
  | .str s, v => v = .str s
  | .tuple ds, v => ∃ a xs, v = .ref a ∧ SqT K H a xs ∧ RpL K H ds xs
  | .list _, _ => False
  | .dict _, _ => False
def RpL (K : PySem.W.Frag) (H : Hp) : List PyData → List V → Prop
  | [], xs => xs = []
  | d :: ds, xs => ∃ v r, xs = v :: r ∧ Rp K H d v ∧ RpL K H ds r
end
mutual
def dep : PyData → Nat
  | .tuple xs => deps xs + 1
  | _ => 0
def deps : List PyData → Nat
  | [] => 0
  | x :: xs => max (dep x) (deps xs)
end
mutual
def sz : PyData → Nat
  | .tuple xs => szs xs + 1
  | _ => 1
def szs : List PyData → Nat
  | [] => 0
  | x :: xs => sz x + szs xs
end
theorem SqT.tk {K : PySem.W.Frag} {H H' : Hp} {a : Addr} {xs : List V} (h : SqT K H a xs) (e : TK H H') : SqT K H' a xs := by
  rcases h with (h | ⟨o, h⟩) | h
  · exact .inl (.inl (e.1 _ _ h))
  · exact .inl (.inr ⟨o, e.2 _ _ _ h⟩)
  · exact .inr h
mutual
theorem Rp.tk {K : PySem.W.Frag} {H H' : Hp} (e : TK H H') : ∀ (d : PyData) (v : V), Rp K H d v → Rp K H' d v
  | .none, _, h => h
  | .bool _, _, h => h
  | .int _, _, h => h
  | .str _, _, h => h
  | .tuple ds, v, h => by
    unfold Rp at h ⊢
    obtain ⟨a, xs, rfl, hs, hl⟩ := h
    exact ⟨a, xs, rfl, SqT.tk hs e, RpL.tk e ds xs hl⟩
  | .list _, _, h => h
  | .dict _, _, h => h
theorem RpL.tk {K : PySem.W.Frag} {H H' : Hp} (e : TK H H') : ∀ (ds : List PyData) (xs : List V), RpL K H ds xs → RpL K H' ds xs
  | [], _, h => h
  | d :: ds, xs, h => by
    unfold RpL at h ⊢
    obtain ⟨v, r, rfl, h1, h2⟩ := h
    exact ⟨v, r, rfl, Rp.tk e d v h1, RpL.tk e ds r h2⟩
end
theorem RpL.len {K : PySem.W.Frag} {H : Hp} : ∀ (ds : List PyData) (xs : List V), RpL K H ds xs → xs.length = ds.length
  | [], xs, h => by
    unfold RpL at h
    rw [h]
    rfl
  | d :: ds, xs, h => by
    unfold RpL at h
    obtain ⟨v, r, rfl, h1, h2⟩ := h
    rw [List.length_cons, List.length_cons, RpL.len ds r h2]
theorem RpL.get {K : PySem.W.Frag} {H : Hp} : ∀ (ds : List PyData) (xs : List V), RpL K H ds xs → ∀ (i : Nat) (d : PyData), ds[i]? = some d → ∃ v, xs[i]? = some v ∧ Rp K H d v
  | [], xs, h, i, d, e => by cases e
  | d :: ds, xs, h, i, d', e => by
    unfold RpL at h
    obtain ⟨v, r, rfl, h1, h2⟩ := h
    cases i with
    | zero =>
      simp only [List.getElem?_cons_zero, Option.some.injEq] at e
      exact ⟨v, rfl, e ▸ h1⟩
    | succ i =>
      simp only [List.getElem?_cons_succ] at e ⊢
      exact RpL.get ds r h2 i d' e
theorem RpL.of {K : PySem.W.Frag} {H : Hp} : ∀ (ds : List PyData) (xs : List V), xs.length = ds.length → (∀ (i : Nat) (d : PyData) (v : V), ds[i]? = some d → xs[i]? = some v → Rp K H d v) → RpL K H ds xs
  | [], xs, h, _ => by
    unfold RpL
    exact List.length_eq_zero_iff.mp h
  | d :: ds, [], h, _ => by cases h
  | d :: ds, v :: r, h, k => by
    unfold RpL
    refine ⟨v, r, rfl, k 0 d v rfl rfl, RpL.of ds r (by simpa using h) fun i d' v' h1 h2 => k (i + 1) d' v' ?_ ?_⟩
    · simpa using h1
    · simpa using h2
theorem RpL.snoc {K : PySem.W.Frag} {H : Hp} {d : PyData} {v : V} (h : Rp K H d v) : ∀ (ds : List PyData) (xs : List V), RpL K H ds xs → RpL K H (ds ++ [d]) (xs ++ [v])
  | [], xs, q => by
    unfold RpL at q
    subst q
    show RpL K H [d] [v]
    unfold RpL
    exact ⟨v, [], rfl, h, by unfold RpL; rfl⟩
  | d' :: ds, xs, q => by
    unfold RpL at q
    obtain ⟨v', r, rfl, h1, h2⟩ := q
    show RpL K H (d' :: (ds ++ [d])) (v' :: (r ++ [v]))
    unfold RpL
    exact ⟨_, _, rfl, h1, RpL.snoc h ds r h2⟩
theorem dep_get : ∀ (ds : List PyData) (i : Nat) (d : PyData), ds[i]? = some d → dep d ≤ deps ds
  | [], i, d, e => by cases e
  | x :: xs, 0, d, e => by
    simp only [List.getElem?_cons_zero, Option.some.injEq] at e
    unfold deps
    rw [e]
    exact Nat.le_max_left _ _
  | x :: xs, i + 1, d, e => by
    simp only [List.getElem?_cons_succ] at e
    unfold deps
    exact Nat.le_trans (dep_get xs i d e) (Nat.le_max_right _ _)
theorem sz_get : ∀ (ds : List PyData) (i : Nat) (d : PyData), ds[i]? = some d → sz d ≤ szs ds
  | [], i, d, e => by cases e
  | x :: xs, 0, d, e => by
    simp only [List.getElem?_cons_zero, Option.some.injEq] at e
    unfold szs
    rw [e]
    exact Nat.le_add_right _ _
  | x :: xs, i + 1, d, e => by
    simp only [List.getElem?_cons_succ] at e
    unfold szs
    exact Nat.le_trans (sz_get xs i d e) (Nat.le_add_left _ _)
theorem sz_pos : ∀ d : PyData, 1 ≤ sz d
  | .tuple xs => by unfold sz; omega
  | .none | .bool _ | .int _ | .str _ | .list _ | .dict _ => by unfold sz; exact Nat.le_refl _
theorem szs_len : ∀ ds : List PyData, ds.length ≤ szs ds
  | [] => Nat.zero_le _
  | x :: xs => by
    have := szs_len xs
    have := sz_pos x
    unfold szs
    rw [List.length_cons]
    omega
/-- the type of such a thing -/
theorem ty_tup {K : PySem.W.Frag} {H : Hp} {a : Addr} {xs : List V} (h : SqT K H a xs) : TyX K H (.ref a) (.type "tuple") := by
  rcases h with (h | ⟨o, h⟩) | ⟨o, its, n, h, c, _⟩
  · exact .base (.tup h)
  · exact .fTuple h
  · exact .kTuple h c
/-- the same data handed in twice, of depth below n: True -/
def spSame (K : PySem.W.Frag) (n : Nat) : Sp := fun vs H Q _ => ∃ (x y : V) (d : PyData), vs = [x, y] ∧ Rp K H d x ∧ Rp K H d y ∧ dep d < n ∧ sz d ≤ 1000000 ∧ ∀ H', Same H H' → Q (.bl true) H'
end Wn

namespace Wn
open PySem L2
theorem fld1 {f : Str} {v : V} : ([(f, v)] : List (Str × V)).lookup f = some v := by
  show (match f == f with | true => some v | false => _) = some v
  rw [beq_self_eq_true]
theorem fld1_ne {f g : Str} {v : V} (h : (g == f) = false) : ([(f, v)] : List (Str × V)).lookup g = none := by
  show (match g == f with | true => some v | false => _) = none
  rw [h]
  rfl
theorem putF1 {f : Str} {v u : V} : putF f u [(f, v)] = [(f, u)] := by
  show (if f = f then (f, u) :: [] else _) = _
  rw [if_pos rfl]
/-! ### dicts by whole numbers, their values data -/
section
variable {α : Type}
def lookA (m : List (Int × α)) (k : Int) : Option α := (m.find? fun p => decide (p.1 = k)).map (·.2)
def putA (m : List (Int × α)) (k : Int) (v : α) : List (Int × α) :=
  if (m.any fun kv => decide (kv.1 = k)) = true then m.map (fun kv => if kv.1 = k then (kv.1, v) else kv) else m ++ [(k, v)]
def dropA (m : List (Int × α)) (k : Int) : List (Int × α) := m.filter fun kv => decide (kv.1 ≠ k)
theorem putA_len (m : List (Int × α)) (k : Int) (v : α) : (putA m k v).length ≤ m.length + 1 := by
  unfold putA
  split
  · rw [List.length_map]
    omega
  · rw [List.length_append, List.length_singleton]
    exact Nat.le_refl _
theorem dropA_len (m : List (Int × α)) (k : Int) : (dropA m k).length ≤ m.length := List.length_filter_le _ _
def RpD (enc : α → PyData) (K : PySem.W.Frag) (H : Hp) : List (Int × α) → List (Key × V) → Prop
  | [], kvs => kvs = []
  | p :: m, kvs => ∃ v r, kvs = (Sum.inl p.1, v) :: r ∧ Rp K H (enc p.2) v ∧ RpD enc K H m r
variable {enc : α → PyData} {K : PySem.W.Frag} {H H' : Hp}
theorem RpD.tk (e : TK H H') : ∀ {m : List (Int × α)} {kvs : List (Key × V)}, RpD enc K H m kvs → RpD enc K H' m kvs
  | [], _, h => h
  | p :: m, kvs, h => by
    obtain ⟨v, r, rfl, h1, h2⟩ := h
    exact ⟨v, r, rfl, Rp.tk e _ _ h1, RpD.tk e h2⟩
theorem RpD.len : ∀ {m : List (Int × α)} {kvs : List (Key × V)}, RpD enc K H m kvs → kvs.length = m.length
  | [], kvs, h => by rw [show kvs = [] from h]; rfl
  | p :: m, kvs, h => by
    obtain ⟨v, r, rfl, h1, h2⟩ := h
    rw [List.length_cons, List.length_cons, RpD.len h2]
theorem RpD.keys : ∀ {m : List (Int × α)} {kvs : List (Key × V)}, RpD enc K H m kvs → (kvs.map fun kv => kV kv.1) = (m.map (·.1)).map V.int
  | [], kvs, h => by rw [show kvs = [] from h]; rfl
  | p :: m, kvs, h => by
    obtain ⟨v, r, rfl, h1, h2⟩ := h
    rw [List.map_cons, List.map_cons, List.map_cons, RpD.keys h2]
    rfl
theorem inl_iff {a b : Int} : ((Sum.inl a : Key) = Sum.inl b) ↔ a = b := ⟨fun h => by cases h; rfl, fun h => by rw [h]⟩
theorem RpD.val {k : Int} : ∀ {m : List (Int × α)} {kvs : List (Key × V)}, RpD enc K H m kvs → (lookA m k = none ∧ valV kvs (Sum.inl k) = none) ∨ ∃ x v, lookA m k = some x ∧ valV kvs (Sum.inl k) = some v ∧ Rp K H (enc x) v
  | [], kvs, h => by
    rw [show kvs = [] from h]
    exact .inl ⟨rfl, rfl⟩
  | p :: m, kvs, h => by
    obtain ⟨v, r, rfl, h1, h2⟩ := h
    by_cases e : p.1 = k
    · refine .inr ⟨p.2, v, ?_, valV_pos (by rw [e]), h1⟩
      simp [lookA, List.find?_cons, e]
    · have e1 : lookA (p :: m) k = lookA m k := by simp [lookA, List.find?_cons, e]
      rw [e1, valV_neg (p := (Sum.inl p.1, v)) (fun z => e (inl_iff.mp z))]
      exact RpD.val h2
theorem RpD.any {k : Int} : ∀ {m : List (Int × α)} {kvs : List (Key × V)}, RpD enc K H m kvs → (kvs.any fun kv => decide (kv.1 = Sum.inl k)) = (m.any fun kv => decide (kv.1 = k))
  | [], kvs, h => by rw [show kvs = [] from h]; rfl
  | p :: m, kvs, h => by
    obtain ⟨v, r, rfl, h1, h2⟩ := h
    rw [List.any_cons, List.any_cons, RpD.any h2]
    congr 1
    exact decide_eq_decide.mpr inl_iff
theorem RpD.snoc {k : Int} {x : α} {v : V} (hv : Rp K H (enc x) v) : ∀ {m : List (Int × α)} {kvs : List (Key × V)}, RpD enc K H m kvs → RpD enc K H (m ++ [(k, x)]) (kvs ++ [(Sum.inl k, v)])
  | [], kvs, h => by
    rw [show kvs = [] from h]
    exact ⟨v, [], rfl, hv, rfl⟩
  | p :: m, kvs, h => by
    obtain ⟨u, r, rfl, h1, h2⟩ := h
    exact ⟨u, _, rfl, h1, RpD.snoc hv h2⟩
theorem RpD.map {k : Int} {x : α} {v : V} (hv : Rp K H (enc x) v) : ∀ {m : List (Int × α)} {kvs : List (Key × V)}, RpD enc K H m kvs → RpD enc K H (m.map fun kv => if kv.1 = k then (kv.1, x) else kv) (kvs.map fun kv => if kv.1 = Sum.inl k then (kv.1, v) else kv)
  | [], kvs, h => by rw [show kvs = [] from h]; rfl
  | p :: m, kvs, h => by
    obtain ⟨u, r, rfl, h1, h2⟩ := h
    have h3 := RpD.map (k := k) hv h2
    rw [List.map_cons, List.map_cons]
    by_cases e : p.1 = k
    · rw [if_pos e, if_pos (inl_iff.mpr e)]
      exact ⟨v, _, rfl, hv, h3⟩
    · rw [if_neg e, if_neg (fun z => e (inl_iff.mp z))]
      exact ⟨u, _, rfl, h1, h3⟩
theorem RpD.put {k : Int} {x : α} {v : V} {m : List (Int × α)} {kvs : List (Key × V)} (h : RpD enc K H m kvs) (hv : Rp K H (enc x) v) : RpD enc K H (putA m k x) (putK kvs (Sum.inl k) v) := by
  unfold putA putK
  rw [h.any]
  split
  · exact h.map hv
  · exact h.snoc hv
theorem RpD.drop {k : Int} : ∀ {m : List (Int × α)} {kvs : List (Key × V)}, RpD enc K H m kvs → RpD enc K H (dropA m k) (dropK kvs (Sum.inl k))
  | [], kvs, h => by rw [show kvs = [] from h]; rfl
  | p :: m, kvs, h => by
    obtain ⟨u, r, rfl, h1, h2⟩ := h
    have h3 := RpD.drop (k := k) h2
    unfold dropA dropK at *
    by_cases e : p.1 = k
    · rw [List.filter_cons_of_neg (by simp [e]), List.filter_cons_of_neg (by simp [e])]
      exact h3
    · rw [List.filter_cons_of_pos (by simp [e]), List.filter_cons_of_pos (by simp [inl_iff, e])]
      exact ⟨u, _, rfl, h1, h3⟩
/-- a dict at q that stands for m -/
def DictAt (enc : α → PyData) (K : PySem.W.Frag) (H : Hp) (q : Addr) (m : List (Int × α)) : Prop := ∃ kvs, H q = some (.dK kvs) ∧ RpD enc K H m kvs
theorem DictAt.kp {M : List Addr} {q : Addr} {m : List (Int × α)} (h : DictAt enc K H q m) (k : Kp M H H') (t : TK H H') (n : q ∉ M) : DictAt enc K H' q m := by
  obtain ⟨kvs, a, b⟩ := h
  exact ⟨kvs, k _ _ n a, b.tk t⟩
def sortI (ns : List Int) : List Int := ns.mergeSort (fun a b => decide (a ≤ b))
theorem sortI_perm (ns : List Int) : (sortI ns).Perm ns := List.mergeSort_perm _ _
theorem sortI_sorted (ns : List Int) : (sortI ns).Pairwise (· ≤ ·) := by
  have h := List.pairwise_mergeSort (le := fun a b : Int => decide (a ≤ b)) (fun a b c h1 h2 => by simp only [decide_eq_true_eq] at *; omega) (fun a b => by simp only [Bool.or_eq_true, decide_eq_true_eq]; omega) ns
  exact h.imp fun h => of_decide_eq_true h
theorem sortI_eq {ns ms : List Int} (p : ms.Perm ns) (s : ms.Pairwise (· ≤ ·)) : ms = sortI ns :=
  PySem.W.ksm_same (p.trans (sortI_perm ns).symm) s (sortI_sorted ns)
/-- rows by hands: (hand,) and what stands there -/
def rowsD (encL : α → List PyData) (m : List (Int × α)) : PyData := .tuple ((sortI (m.map (·.1))).map fun k => .tuple (.int k :: ((lookA m k).map encL).getD []))
theorem lookA_mem {m : List (Int × α)} {k : Int} (h : k ∈ m.map (·.1)) : ∃ x, lookA m k = some x ∧ (k, x) ∈ m := by
  obtain ⟨p, hp, rfl⟩ := List.mem_map.mp h
  unfold lookA
  cases e : m.find? fun q => decide (q.1 = p.1) with
  | none =>
    have := List.find?_eq_none.mp e p hp
    simp at this
  | some q =>
    have h1 := List.find?_some e
    have h2 := List.mem_of_find?_eq_some e
    simp only [decide_eq_true_eq] at h1
    exact ⟨q.2, rfl, by rw [← h1]; exact h2⟩
theorem szs_map_le {β : Type} {f : β → PyData} {c : Nat} : ∀ (l : List β), (∀ x ∈ l, sz (f x) ≤ c) → szs (l.map f) ≤ c * l.length
  | [], _ => Nat.zero_le _
  | x :: l, h => by
    have h1 := szs_map_le l fun y hy => h y (List.mem_cons_of_mem _ hy)
    have h2 := h x List.mem_cons_self
    rw [List.map_cons, List.length_cons]
    unfold szs
    rw [Nat.mul_succ]
    omega
theorem deps_map_le {β : Type} {f : β → PyData} {c : Nat} : ∀ (l : List β), (∀ x ∈ l, dep (f x) ≤ c) → deps (l.map f) ≤ c
  | [], _ => Nat.zero_le _
  | x :: l, h => by
    have h1 := deps_map_le l fun y hy => h y (List.mem_cons_of_mem _ hy)
    have h2 := h x List.mem_cons_self
    rw [List.map_cons]
    unfold deps
    omega
theorem Rp.tup {ds : List PyData} {a : Addr} {xs : List V} (h : H a = some (.tup xs)) (r : RpL K H ds xs) : Rp K H (.tuple ds) (.ref a) := by
  unfold Rp
  exact ⟨a, xs, rfl, SqT.of h, r⟩
theorem Rp.tupS {ds : List PyData} {a : Addr} {xs : List V} (h : SqT K H a xs) (r : RpL K H ds xs) : Rp K H (.tuple ds) (.ref a) := by
  unfold Rp
  exact ⟨a, xs, rfl, h, r⟩
theorem RpL.cons {d : PyData} {ds : List PyData} {v : V} {xs : List V} (h : Rp K H d v) (r : RpL K H ds xs) : RpL K H (d :: ds) (v :: xs) := by
  unfold RpL
  exact ⟨v, xs, rfl, h, r⟩
theorem RpL.nil : RpL K H [] [] := by
  unfold RpL
  rfl
theorem Rp.int {i : Int} : Rp K H (.int i) (.int i) := by
  unfold Rp
  rfl
theorem Rp.none : Rp K H .none .non := by
  unfold Rp
  rfl
theorem Rp.str {z : Str} : Rp K H (.str z) (.str z) := by
  unfold Rp
  rfl
end
end Wn

namespace Wn
open PySem L2
theorem tYes_t {σ : L2.St} {H : Hp} {F : Bool → Hp → Prop} (h : F true H) : tYes σ H F := h
theorem rows_lc {α : Type} {encL : α → List PyData} {K : PySem.W.Frag} {td : TE} {i : Nat} {σ : L2.St} {H2 : Hp} {S D q : Addr} {ns : List Int} {m : List (Int × α)} {kvs : List (Key × V)} {Qd : Hp → Prop}
    (hS : H2 S = some (.lst (ns.map V.int))) (hq : H2 q = some (.dK kvs)) (hm : RpD (fun x => .tuple (encL x)) K H2 m kvs) (hns : ∀ k ∈ ns, k ∈ m.map (·.1)) (hz : ∀ x, (encL x).length ≤ 100) (hln : ns.length ≤ 1000000)
    (htd : ∀ (σ' : L2.St) (H' : Hp) (Q : VK), wipe σ' [i] = wipe σ [i] → Same H2 H' → Q (.ref q) H' → td σ' H' Q) (hD : H2 D = none) (hσ : i < σ.length)
    (hd : ∀ (H' : Hp) (xs : List V), Same H2 H' → H' D = some (.lst xs) → RpL K H' (ns.map fun k => .tuple (.int k :: ((lookA m k).map encL).getD [])) xs → Qd H') :
    ∃ W : Nat → Nat → Hp → Prop, (∃ m, W 0 m (upd H2 D (.lst []))) ∧ ∀ j m H, W j m H →
      ((Itl K S).stop j H ∧ Qd H) ∨ ((Itl K S).go j H ∧ ∃ Nx : Hp → Prop, (∀ H', Nx H' → ∃ m', m' < m ∧ W (j + 1) m' H') ∧ ∀ x H', (Itl K S).yld j H x H' → gName i x (wipe σ [i]) H' fun σ2 H2 => wipe σ2 [i] = wipe σ [i] ∧ tYes σ2 H2 fun b H3 =>
        if b = true then tOp (rCatT K) (tTup (tCons (tVar i) tNil)) (tDGet td (tVar i)) σ2 H3 fun y H4 => ∃ acc, H4 D = some (.lst acc) ∧ acc.length < sizeLine ∧ Nx (upd H4 D (.lst (acc ++ [y]))) else Nx H3) := by
  have nSD : S ≠ D := ne_of_none hS hD
  refine lc_list (K := K) (a := S) (xs := ns.map V.int) (fun j H => ∃ xs, Same H2 H ∧ H D = some (.lst xs) ∧ RpL K H ((ns.take j).map fun k => .tuple (.int k :: ((lookA m k).map encL).getD [])) xs)
    ⟨[], (L2.Same.refl H2).new hD, upd_same, RpL.nil⟩ (fun j H _ ⟨xs, s, _, _⟩ => SqL.of (s _ _ hS)) ?_ ?_
  · rintro j x H3 hx ⟨xs, s3, hD3, hr⟩
    have hj : j < ns.length := by
      have q := (List.getElem?_eq_some_iff.mp hx).1
      rw [List.length_map] at q
      exact q
    obtain rfl : x = V.int ns[j] := by
      rw [List.getElem?_map, List.getElem?_eq_getElem hj] at hx
      exact (Option.some.inj hx).symm
    have hmem : ns[j] ∈ m.map (·.1) := hns _ (List.getElem_mem hj)
    have eσ : (((wipe σ [i]).set i (some (V.int ns[j]))))[i]? = some (some (V.int ns[j])) := by
      rw [List.getElem?_set_self]
      rw [wipe_length]
      exact hσ
    have ew : wipe ((wipe σ [i]).set i (some (V.int ns[j]))) [i] = wipe σ [i] := by
      show ((σ.set i none).set i (some (V.int ns[j]))).set i none = σ.set i none
      rw [List.set_set, List.set_set]
    refine ⟨ew, ?_⟩
    refine tYes_t (iteT ?_)
    have hlx : xs.length < sizeLine := by
      have := RpL.len _ _ hr
      rw [List.length_map, List.length_take] at this
      exact Nat.lt_of_le_of_lt (show xs.length ≤ 1000000 by omega) (by decide)
    refine ⟨_, eσ, (by show 1 ≤ sizeLine; decide), fun t ht => ?_⟩
    have s4 := s3.new (o := .tup [V.int ns[j]]) ht
    have t4 := TK.of s4
    refine htd _ _ _ ew s4 ⟨_, eσ, ?_⟩
    rcases hm.val (k := ns[j]) with ⟨e1, e2⟩ | ⟨y, v, e1, e2, r⟩
    · obtain ⟨z, e3, _⟩ := lookA_mem hmem
      rw [e1] at e3
      cases e3
    · have r4 := Rp.tk t4 _ _ r
      unfold Rp at r4
      obtain ⟨b, ys, rfl, hb, hl⟩ := r4
      have hly := RpL.len _ _ hl
      refine ⟨q, .ref b, rfl, by rw [← e2]; exact DGet.k (k := Sum.inl ns[j]) (s4 _ _ hq), ?_⟩
      have hD4 : (upd H3 t (.tup [V.int ns[j]])) D = some (.lst xs) := by
        rw [upd_ne (ne_of_none hD3 ht)]
        exact hD3
      have etk : (ns.take (j + 1)).map (fun k => PyData.tuple (.int k :: ((lookA m k).map encL).getD [])) = (ns.take j).map (fun k => PyData.tuple (.int k :: ((lookA m k).map encL).getD [])) ++ [PyData.tuple (.int ns[j] :: encL y)] := by
        rw [List.take_succ_eq_append_getElem hj, List.map_append, List.map_singleton, e1]
        rfl
      have s34 : TK H3 (upd H3 t (.tup [V.int ns[j]])) := (TK.refl _).new ht
      refine ⟨t, b, _, ys, rfl, rfl, SqT.of upd_same, hb, List.cons_ne_nil _ _, ?_, fun ey => ?_, fun _ p hp => ?_⟩
      · have := hz y
        rw [hly, List.length_singleton]
        exact Nat.le_trans (show 1 + (encL y).length ≤ 1000 by omega) (by decide)
      · refine ⟨xs, hD4, hlx, _, s4.wrn hD, upd_same, ?_⟩
        rw [etk]
        have tE : TK (upd H3 t (.tup [V.int ns[j]])) (upd (upd H3 t (.tup [V.int ns[j]])) D (.lst (xs ++ [V.ref t]))) := (TK.refl _).wr hD4 rfl
        refine RpL.snoc (Rp.tk tE _ _ (Rp.tup upd_same ?_)) _ _ (RpL.tk (s34.trans tE) _ _ hr)
        have e0 : encL y = [] := List.length_eq_zero_iff.mp (by rw [← hly, ey]; rfl)
        rw [e0]
        exact RpL.cons Rp.int RpL.nil
      · have s5 := s4.new (o := .tup ([V.int ns[j]] ++ ys)) hp
        have hD5 : upd (upd H3 t (.tup [V.int ns[j]])) p (.tup ([V.int ns[j]] ++ ys)) D = some (.lst xs) := by
          rw [upd_ne (ne_of_none hD4 hp)]
          exact hD4
        have tE : TK (upd (upd H3 t (.tup [V.int ns[j]])) p (.tup ([V.int ns[j]] ++ ys))) (upd (upd (upd H3 t (.tup [V.int ns[j]])) p (.tup ([V.int ns[j]] ++ ys))) D (.lst (xs ++ [V.ref p]))) := (TK.refl _).wr hD5 rfl
        have s45 : TK (upd H3 t (.tup [V.int ns[j]])) (upd (upd H3 t (.tup [V.int ns[j]])) p (.tup ([V.int ns[j]] ++ ys))) := (TK.refl _).new hp
        refine ⟨xs, hD5, hlx, _, s5.wrn hD, upd_same, ?_⟩
        rw [etk]
        refine RpL.snoc (Rp.tk tE _ _ (Rp.tup upd_same ?_)) _ _ (RpL.tk ((s34.trans s45).trans tE) _ _ hr)
        exact RpL.cons Rp.int (RpL.tk s45 _ _ hl)
  · rintro H3 ⟨xs, s3, hD3, hr⟩
    rw [List.length_map, List.take_length] at hr
    exact hd H3 xs s3 hD3 hr
end Wn

namespace Wn
open PySem L2
section
variable {X : Cx} {K : PySem.W.Frag}
theorem ixL (hK : X.K = K) : IxR X (rIxL K) := hK ▸ ix_list
theorem ixT (hK : X.K = K) : IxR X (rIxT K) := hK ▸ ix_tup
theorem opCatT (hK : X.K = K) : OpR X (binaryOp .Add) (rCatT K) := hK ▸ op_catT
theorem slL (hK : X.K = K) : SlR X (rSlL K) := hK ▸ sl_list
theorem slT (hK : X.K = K) : SlR X (rSlT K) := hK ▸ sl_tup
theorem fldK {e : Expr} {ta : TE} {f : Str} {pos : Pos} (hK : X.K = K) (he : PE X e ta) (hb : attributeBase e f X.env (eval e X.env) = eval e X.env) : PE X (.Attribute e f pos) (tFld K ta f) := hK ▸ pe_fld he hb
theorem lenK (hK : X.K = K) : CallR X (.builtin "len") (fun xs H Q => ∃ x n, xs = [x] ∧ LenV K x H n ∧ Q (.int n) H) := hK ▸ call_len
theorem crMaxK (hK : X.K = K) (hc : X.calm = true) : CallR X (.builtin "max") (rMax K) := hK ▸ cr_max hc
theorem crMinK (hK : X.K = K) (hc : X.calm = true) : CallR X (.builtin "min") (rMin K) := hK ▸ cr_min hc
theorem crAllK (hK : X.K = K) (hc : X.calm = true) : CallR X (.builtin "all") (rAll K) := hK ▸ cr_all hc
theorem crAnyK (hK : X.K = K) (hc : X.calm = true) : CallR X (.builtin "any") (rAny K) := hK ▸ cr_any hc
theorem isiK (hK : X.K = K) : CallR X (.builtin "isinstance") (rIsi K) := hK ▸ call_isi
theorem tupOfK (hK : X.K = K) : CallR X (.type "tuple") (fun xs H Q => ∃ p ys, xs = [.ref p] ∧ ((SqL K H p ys ∧ ∀ l, H l = none → Q (.ref l) (upd H l (.tup ys))) ∨ (SqT K H p ys ∧ Q (.ref p) H))) := hK ▸ call_tuple_of
theorem lstOfK (hK : X.K = K) : CallR X (.type "list") (fun xs H Q => ∃ p ys, xs = [.ref p] ∧ (SqL K H p ys ∨ SqT K H p ys) ∧ ∀ l, H l = none → Q (.ref l) (upd H l (.lst ys))) := hK ▸ call_list_of
theorem sortIK (hK : X.K = K) : CallR X (.builtin "sorted") (rSortedI K) := hK ▸ cr_sortedI
theorem inSeqK (hK : X.K = K) : OpR X (compareOp .In) (rIn K false) := hK ▸ op_in_seq
theorem notInSeqK (hK : X.K = K) : OpR X (compareOp .NotIn) (rIn K true) := hK ▸ op_notIn_seq
theorem eqDK (hK : X.K = K) (hu : X.A.units + 64 < cLine) : OpR X (compareOp .Eq) (rEqD K) := hK ▸ op_eqD hu
theorem neDK (hK : X.K = K) (hu : X.A.units + 64 < cLine) : OpR X (compareOp .NotEq) (rNeD K) := hK ▸ op_neD hu
end
end Wn

namespace Wn
open PySem L2
theorem Deck.kp {M : List Addr} {H H' : Hp} {d f : Addr} {n : Int} (h : Deck H d f n) (k : Kp M H H') (n1 : d ∉ M) (n2 : f ∉ M) : Deck H' d f n := by
  obtain ⟨a, wh, xs, h1, h2, h3⟩ := h
  exact ⟨a, wh, xs, k _ _ n1 h1, k _ _ n2 h2, h3⟩
theorem Deck.mono {H : Hp} {d f : Addr} {n m : Int} (h : Deck H d f n) (hm : n ≤ m) : Deck H d f m := by
  obtain ⟨a, wh, xs, h1, h2, h3, h4, h5⟩ := h
  exact ⟨a, wh, xs, h1, h2, h3, by omega, h5⟩
theorem Deck.lst {H : Hp} {d f : Addr} {n : Int} (h : Deck H d f n) : ∃ zs, H d = some (.lst zs) := by
  obtain ⟨a, wh, xs, h1, h2, h3⟩ := h
  exact ⟨_, h1⟩
theorem Deck.lst2 {H : Hp} {d f : Addr} {n : Int} (h : Deck H d f n) : ∃ zs, H f = some (.lst zs) := by
  obtain ⟨a, wh, xs, h1, h2, h3⟩ := h
  exact ⟨_, h2⟩
theorem seq_have {t u : TS} {D : Ends} {σ : L2.St} {H : Hp} (Mid : L2.St → Hp → Prop) (h2 : ∀ σ' H', Mid σ' H' → u D σ' H') (h1 : (∀ σ' H', Mid σ' H' → u D σ' H') → t { D with nx := u D } σ H) : tSeq t u D σ H := h1 h2
theorem seq_if {c : TT} {t1 t2 u : TS} {D : Ends} {σ : L2.St} {H : Hp} (Mid : L2.St → Hp → Prop) (h2 : ∀ σ' H', Mid σ' H' → u D σ' H') (h1 : (∀ σ' H', Mid σ' H' → u D σ' H') → tIfS c t1 t2 { D with nx := u D } σ H) : tSeq (tIfS c t1 t2) u D σ H := h1 h2
theorem nin1 {a b : Addr} (h : a ≠ b) : a ∉ [b] := fun z => h (List.mem_singleton.mp z)
theorem nin2 {a b c : Addr} (h : a ≠ b) (h' : a ≠ c) : a ∉ [b, c] := fun z => by
  rcases List.mem_cons.mp z with z | z
  · exact h z
  · exact h' (List.mem_singleton.mp z)
section
variable {α : Type}
/-- an object at p whose dict by_hand stands at q -/
def HoldAt (enc : α → PyData) (K : PySem.W.Frag) (C : Addr) (H : Hp) (p q : Addr) (m : List (Int × α)) : Prop :=
  (∃ dx, H p = some (.ins C dx [("by_hand", .ref q)])) ∧ DictAt enc K H q m
variable {enc : α → PyData} {K : PySem.W.Frag} {C : Addr} {H H' : Hp}
theorem HoldAt.kp {M : List Addr} {p q : Addr} {m : List (Int × α)} (h : HoldAt enc K C H p q m) (k : Kp M H H') (t : TK H H') (n1 : p ∉ M) (n2 : q ∉ M) : HoldAt enc K C H' p q m := by
  obtain ⟨⟨dx, a⟩, b⟩ := h
  exact ⟨⟨dx, k _ _ n1 a⟩, b.kp k t n2⟩
/-- n objects and n dicts, in two lists -/
structure Rack (enc : α → PyData) (K : PySem.W.Frag) (C : Addr) (H : Hp) (L1 L2 : Addr) (n : Nat) (p q md : Nat → Addr) (m m' : Nat → List (Int × α)) : Prop where
  l1 : H L1 = some (.lst ((List.range n).map fun j => V.ref (p j)))
  l2 : H L2 = some (.lst ((List.range n).map fun j => V.ref (md j)))
  ok : ∀ j, j < n → HoldAt enc K C H (p j) (q j) (m j)
  mo : ∀ j, j < n → DictAt enc K H (md j) (m' j)
  dq : ∀ i j, i < n → j < n → i ≠ j → q i ≠ q j
  dm : ∀ i j, i < n → j < n → i ≠ j → md i ≠ md j
  dx : ∀ i j, i < n → j < n → q i ≠ md j
variable {L1 L2 : Addr} {n : Nat} {p q md : Nat → Addr} {m m' : Nat → List (Int × α)}
theorem Rack.kp {M : List Addr} (R : Rack enc K C H L1 L2 n p q md m m') (k : Kp M H H') (t : TK H H') (h : ∀ x ∈ M, x ≠ L1 ∧ x ≠ L2 ∧ ∀ j, j < n → x ≠ p j ∧ x ≠ q j ∧ x ≠ md j) : Rack enc K C H' L1 L2 n p q md m m' where
  l1 := k _ _ (fun z => (h _ z).1 rfl) R.l1
  l2 := k _ _ (fun z => (h _ z).2.1 rfl) R.l2
  ok := fun j hj => (R.ok j hj).kp k t (fun z => ((h _ z).2.2 j hj).1 rfl) (fun z => ((h _ z).2.2 j hj).2.1 rfl)
  mo := fun j hj => (R.mo j hj).kp k t (fun z => ((h _ z).2.2 j hj).2.2 rfl)
  dq := R.dq
  dm := R.dm
  dx := R.dx
/-- a list beside was written -/
theorem Rack.lst {d : Addr} {zs : List V} (R : Rack enc K C H L1 L2 n p q md m m') (k : Kp [d] H H') (t : TK H H') (hd : H d = some (.lst zs)) (n1 : d ≠ L1) (n2 : d ≠ L2) : Rack enc K C H' L1 L2 n p q md m m' :=
  R.kp k t fun x hx => by
    rw [List.mem_singleton] at hx
    subst hx
    refine ⟨n1, n2, fun j hj => ?_⟩
    obtain ⟨⟨dx, a⟩, kvs, b, _⟩ := R.ok j hj
    obtain ⟨kvs', c, _⟩ := R.mo j hj
    exact ⟨ne_of hd a (by intro z; cases z), ne_of hd b (by intro z; cases z), ne_of hd c (by intro z; cases z)⟩
theorem Rack.same (R : Rack enc K C H L1 L2 n p q md m m') (s : Same H H') : Rack enc K C H' L1 L2 n p q md m m' :=
  R.kp (M := []) (Kp.of s) (TK.of s) fun x hx => by cases hx
/-- the k-th object's dict is another one -/
theorem Rack.setq {i : Nat} {mn : List (Int × α)} (R : Rack enc K C H L1 L2 n p q md m m') (hi : i < n) (k : Kp [q i] H H') (t : TK H H') (h : HoldAt enc K C H' (p i) (q i) mn) :
    Rack enc K C H' L1 L2 n p q md (fun j => if j = i then mn else m j) m' := by
  obtain ⟨_, kvq, hq, _⟩ := R.ok i hi
  refine ⟨k _ _ (nin1 (ne_of R.l1 hq (by intro z; cases z))) R.l1, k _ _ (nin1 (ne_of R.l2 hq (by intro z; cases z))) R.l2, fun j hj => ?_, fun j hj => ?_, R.dq, R.dm, R.dx⟩
  · by_cases e : j = i
    · subst e
      simp only [if_true]
      exact h
    · simp only [if_neg e]
      obtain ⟨⟨dx, a⟩, _⟩ := R.ok j hj
      exact (R.ok j hj).kp k t (nin1 (ne_of a hq (by intro z; cases z))) (nin1 (R.dq j i hj hi e))
  · exact (R.mo j hj).kp k t (nin1 (fun z => R.dx i j hi hj z.symm))
theorem Rack.setm {i : Nat} {mn : List (Int × α)} (R : Rack enc K C H L1 L2 n p q md m m') (hi : i < n) (k : Kp [md i] H H') (t : TK H H') (h : DictAt enc K H' (md i) mn) :
    Rack enc K C H' L1 L2 n p q md m (fun j => if j = i then mn else m' j) := by
  obtain ⟨kvq, hq, _⟩ := R.mo i hi
  refine ⟨k _ _ (nin1 (ne_of R.l1 hq (by intro z; cases z))) R.l1, k _ _ (nin1 (ne_of R.l2 hq (by intro z; cases z))) R.l2, fun j hj => ?_, fun j hj => ?_, R.dq, R.dm, R.dx⟩
  · obtain ⟨⟨dx, a⟩, _⟩ := R.ok j hj
    exact (R.ok j hj).kp k t (nin1 (ne_of a hq (by intro z; cases z))) (nin1 (R.dx j i hj hi))
  · by_cases e : j = i
    · subst e
      simp only [if_true]
      exact h
    · simp only [if_neg e]
      exact (R.mo j hj).kp k t (nin1 (R.dm j i hj hi e))
/-- one more -/
theorem Rack.push {pn qn mdn : Addr} {mn : List (Int × α)} (R : Rack enc K C H L1 L2 n p q md m m') (k : Kp [L1, L2] H H') (t : TK H H') (h1 : H' L1 = some (.lst (((List.range n).map fun j => V.ref (p j)) ++ [V.ref pn]))) (h2 : H' L2 = some (.lst (((List.range n).map fun j => V.ref (md j)) ++ [V.ref mdn])))
    (hp : HoldAt enc K C H' pn qn mn) (hm : DictAt enc K H' mdn mn) (nq : H qn = none) (nm : H mdn = none) (nqm : qn ≠ mdn) :
    Rack enc K C H' L1 L2 (n + 1) (fun j => if j = n then pn else p j) (fun j => if j = n then qn else q j) (fun j => if j = n then mdn else md j) (fun j => if j = n then mn else m j) (fun j => if j = n then mn else m' j) := by
  have e1 : ∀ (f : Nat → Addr) (x : Addr), (List.range (n + 1)).map (fun j => V.ref (if j = n then x else f j)) = ((List.range n).map fun j => V.ref (f j)) ++ [V.ref x] := fun f x => by
    rw [List.range_succ, List.map_append, List.map_singleton, if_pos rfl]
    congr 1
    refine List.map_congr_left fun j hj => ?_
    rw [List.mem_range] at hj
    rw [if_neg (by omega)]
  have hq : ∀ j, j < n → q j ≠ qn ∧ q j ≠ mdn := fun j hj => by
    obtain ⟨_, kv, a, _⟩ := R.ok j hj
    exact ⟨ne_of_none a nq, ne_of_none a nm⟩
  have hmd : ∀ j, j < n → md j ≠ qn ∧ md j ≠ mdn := fun j hj => by
    obtain ⟨kv, a, _⟩ := R.mo j hj
    exact ⟨ne_of_none a nq, ne_of_none a nm⟩
  refine ⟨by rw [e1]; exact h1, by rw [e1]; exact h2, fun j hj => ?_, fun j hj => ?_, fun i j hi hj e => ?_, fun i j hi hj e => ?_, fun i j hi hj => ?_⟩
  · by_cases e : j = n
    · simp only [if_pos e]
      exact hp
    · simp only [if_neg e]
      obtain ⟨⟨dx, a⟩, kv, b, _⟩ := R.ok j (by omega)
      exact (R.ok j (by omega)).kp k t (nin2 (ne_of a R.l1 (by intro z; cases z)) (ne_of a R.l2 (by intro z; cases z))) (nin2 (ne_of b R.l1 (by intro z; cases z)) (ne_of b R.l2 (by intro z; cases z)))
  · by_cases e : j = n
    · simp only [if_pos e]
      exact hm
    · simp only [if_neg e]
      obtain ⟨kv, b, _⟩ := R.mo j (by omega)
      exact (R.mo j (by omega)).kp k t (nin2 (ne_of b R.l1 (by intro z; cases z)) (ne_of b R.l2 (by intro z; cases z)))
  · by_cases ei : i = n
    · have ej : ¬ j = n := by omega
      simp only [if_pos ei, if_neg ej]
      exact (hq j (by omega)).1.symm
    · by_cases ej : j = n
      · simp only [if_neg ei, if_pos ej]
        exact (hq i (by omega)).1
      · simp only [if_neg ei, if_neg ej]
        exact R.dq i j (by omega) (by omega) e
  · by_cases ei : i = n
    · have ej : ¬ j = n := by omega
      simp only [if_pos ei, if_neg ej]
      exact (hmd j (by omega)).2.symm
    · by_cases ej : j = n
      · simp only [if_neg ei, if_pos ej]
        exact (hmd i (by omega)).2
      · simp only [if_neg ei, if_neg ej]
        exact R.dm i j (by omega) (by omega) e
  · by_cases ei : i = n
    · by_cases ej : j = n
      · simp only [if_pos ei, if_pos ej]
        exact nqm
      · simp only [if_pos ei, if_neg ej]
        exact (hmd j (by omega)).1.symm
    · by_cases ej : j = n
      · simp only [if_neg ei, if_pos ej]
        exact (hq i (by omega)).2
      · simp only [if_neg ei, if_neg ej]
        exact R.dx i j (by omega) (by omega)
end
section
variable {α : Type} {enc : α → PyData} {K : PySem.W.Frag} {C : Addr} {H H' : Hp}
theorem HoldAt.lst {d p q : Addr} {zs : List V} {m : List (Int × α)} (h : HoldAt enc K C H p q m) (k : Kp [d] H H') (t : TK H H') (hd : H d = some (.lst zs)) : HoldAt enc K C H' p q m := by
  obtain ⟨⟨dx, a⟩, kv, b, _⟩ := id h
  exact h.kp k t (nin1 (ne_of a hd (by intro z; cases z))) (nin1 (ne_of b hd (by intro z; cases z)))
theorem HoldAt.same {p q : Addr} {m : List (Int × α)} (h : HoldAt enc K C H p q m) (s : Same H H') : HoldAt enc K C H' p q m :=
  h.kp (M := []) (Kp.of s) (TK.of s) (by simp) (by simp)
theorem DictAt.lst {d q : Addr} {zs : List V} {m : List (Int × α)} (h : DictAt enc K H q m) (k : Kp [d] H H') (t : TK H H') (hd : H d = some (.lst zs)) : DictAt enc K H' q m := by
  obtain ⟨kv, b, _⟩ := id h
  exact h.kp k t (nin1 (ne_of b hd (by intro z; cases z)))
theorem DictAt.same {q : Addr} {m : List (Int × α)} (h : DictAt enc K H q m) (s : Same H H') : DictAt enc K H' q m :=
  h.kp (M := []) (Kp.of s) (TK.of s) (by simp)
theorem Deck.same {d f : Addr} {n : Int} (h : Deck H d f n) (s : Same H H') : Deck H' d f n := h.kp (M := []) (Kp.of s) (by simp) (by simp)
/-- a dict beside was written -/
theorem Deck.dict {d f q : Addr} {n : Int} {m : List (Int × α)} (h : Deck H d f n) (k : Kp [q] H H') (hq : DictAt enc K H q m) : Deck H' d f n := by
  obtain ⟨kv, b, _⟩ := hq
  obtain ⟨zs, h1⟩ := h.lst
  obtain ⟨zf, h2⟩ := h.lst2
  exact h.kp k (nin1 (ne_of h1 b (by intro z; cases z))) (nin1 (ne_of h2 b (by intro z; cases z)))
variable {La Lb : Addr} {n : Nat} {p q md : Nat → Addr} {m m' : Nat → List (Int × α)}
/-- the k-th object's dict, the k-th dict and a list beside are others -/
theorem Rack.set2 {d : Addr} {zs : List V} {i : Nat} {mn mn' : List (Int × α)} (R : Rack enc K C H La Lb n p q md m m') (hi : i < n) (k : Kp [d, q i, md i] H H') (t : TK H H') (hd : H d = some (.lst zs)) (n1 : d ≠ La) (n2 : d ≠ Lb)
    (h : HoldAt enc K C H' (p i) (q i) mn) (h' : DictAt enc K H' (md i) mn') :
    Rack enc K C H' La Lb n p q md (fun j => if j = i then mn else m j) (fun j => if j = i then mn' else m' j) := by
  obtain ⟨_, kvq, hq, _⟩ := R.ok i hi
  obtain ⟨kvm, hm, _⟩ := R.mo i hi
  have nin : ∀ {x : Addr}, x ≠ d → x ≠ q i → x ≠ md i → x ∉ [d, q i, md i] := fun a b c z => by
    rcases List.mem_cons.mp z with z | z
    · exact a z
    · exact nin2 b c z
  refine ⟨k _ _ (nin n1.symm (ne_of R.l1 hq (by intro z; cases z)) (ne_of R.l1 hm (by intro z; cases z))) R.l1, k _ _ (nin n2.symm (ne_of R.l2 hq (by intro z; cases z)) (ne_of R.l2 hm (by intro z; cases z))) R.l2, fun j hj => ?_, fun j hj => ?_, R.dq, R.dm, R.dx⟩
  · by_cases e : j = i
    · subst e
      simp only [if_true]
      exact h
    · simp only [if_neg e]
      obtain ⟨⟨dx, a⟩, kv, b, _⟩ := R.ok j hj
      exact (R.ok j hj).kp k t (nin (ne_of a hd (by intro z; cases z)) (ne_of a hq (by intro z; cases z)) (ne_of a hm (by intro z; cases z))) (nin (ne_of b hd (by intro z; cases z)) (R.dq j i hj hi e) (R.dx j i hj hi))
  · by_cases e : j = i
    · subst e
      simp only [if_true]
      exact h'
    · simp only [if_neg e]
      obtain ⟨kv, b, _⟩ := R.mo j hj
      exact (R.mo j hj).kp k t (nin (ne_of b hd (by intro z; cases z)) (fun z => R.dx i j hi hj z.symm) (R.dm j i hj hi e))
end
theorem at3 {x y z : V} {r : Int} (h0 : 0 ≤ r) (h1 : r < 3) : ∃ v, atI [x, y, z] r = some v ∧ (v = x ∨ v = y ∨ v = z) := by
  have h : r = 0 ∨ r = 1 ∨ r = 2 := by omega
  rcases h with rfl | rfl | rfl
  · exact ⟨x, rfl, .inl rfl⟩
  · exact ⟨y, rfl, .inr (.inl rfl)⟩
  · exact ⟨z, rfl, .inr (.inr rfl)⟩
theorem at5 {a b c d e : Int} {r : Int} (h0 : 0 ≤ r) (h1 : r < 5) : ∃ v : Int, atI [V.int a, .int b, .int c, .int d, .int e] r = some (.int v) := by
  have h : r = 0 ∨ r = 1 ∨ r = 2 ∨ r = 3 ∨ r = 4 := by omega
  rcases h with rfl | rfl | rfl | rfl | rfl <;> exact ⟨_, rfl⟩
theorem atR {n : Nat} {f : Nat → Addr} {r : Int} (h0 : 0 ≤ r) (h1 : r < n) : atI ((List.range n).map fun j => V.ref (f j)) r = some (.ref (f r.toNat)) := by
  have e : ((r.toNat : Nat) : Int) = r := by omega
  have := atI_nat (xs := (List.range n).map fun j => V.ref (f j)) (j := r.toNat) (v := .ref (f r.toNat)) (by
    rw [List.getElem?_map, List.getElem?_range (by omega)]
    rfl)
  rw [e] at this
  exact this
def spLaw (K : PySem.W.Frag) : Sp := fun vs H Q _ => ∃ (a : Addr) (ns : List Int), vs = [.ref a] ∧ SqL K H a (ns.map V.int) ∧ ns.length ≤ 63 ∧ ∀ H', Q (.bl true) H'
/-! ### lists of data -/
def LstAt (K : PySem.W.Frag) (H : Hp) (a : Addr) (ds : List PyData) : Prop := ∃ xs, H a = some (.lst xs) ∧ RpL K H ds xs
section
variable {K : PySem.W.Frag} {H H' : Hp}
theorem LstAt.kp {M : List Addr} {a : Addr} {ds : List PyData} (h : LstAt K H a ds) (k : Kp M H H') (t : TK H H') (n : a ∉ M) : LstAt K H' a ds := by
  obtain ⟨xs, h1, h2⟩ := h
  exact ⟨xs, k _ _ n h1, RpL.tk t _ _ h2⟩
theorem LstAt.same {a : Addr} {ds : List PyData} (h : LstAt K H a ds) (s : Same H H') : LstAt K H' a ds := h.kp (M := []) (Kp.of s) (TK.of s) (by simp)
theorem LstAt.lst {a : Addr} {ds : List PyData} (h : LstAt K H a ds) : ∃ zs, H a = some (.lst zs) := ⟨_, h.choose_spec.1⟩
theorem RpL.app : ∀ {ds es : List PyData} {xs ys : List V}, RpL K H ds xs → RpL K H es ys → RpL K H (ds ++ es) (xs ++ ys)
  | [], es, xs, ys, h1, h2 => by
    unfold RpL at h1
    subst h1
    exact h2
  | d :: ds, es, xs, ys, h1, h2 => by
    unfold RpL at h1
    obtain ⟨v, r, rfl, a, b⟩ := h1
    show RpL K H (d :: (ds ++ es)) (v :: (r ++ ys))
    exact RpL.cons a (RpL.app b h2)
theorem RpL.take : ∀ (k : Nat) {ds : List PyData} {xs : List V}, RpL K H ds xs → RpL K H (ds.take k) (xs.take k)
  | 0, ds, xs, _ => by
    rw [List.take_zero, List.take_zero]
    exact RpL.nil
  | k + 1, [], xs, h => by
    unfold RpL at h
    subst h
    exact RpL.nil
  | k + 1, d :: ds, xs, h => by
    unfold RpL at h
    obtain ⟨v, r, rfl, a, b⟩ := h
    exact RpL.cons a (RpL.take k b)
theorem RpL.drop : ∀ (k : Nat) {ds : List PyData} {xs : List V}, RpL K H ds xs → RpL K H (ds.drop k) (xs.drop k)
  | 0, ds, xs, h => h
  | k + 1, [], xs, h => by
    unfold RpL at h
    subst h
    exact RpL.nil
  | k + 1, d :: ds, xs, h => by
    unfold RpL at h
    obtain ⟨v, r, rfl, a, b⟩ := h
    exact RpL.drop k b
theorem inV_int {k : Int} : ∀ ns : List Int, inV (.int k) (ns.map V.int) = decide (k ∈ ns)
  | [] => by simp [inV]
  | n :: ns => by
    have h := inV_int (k := k) ns
    unfold inV at h ⊢
    rw [List.map_cons, List.any_cons, h]
    show ((n == k) || _) = _
    by_cases e : n = k
    · simp [e]
    · have e2 : ¬ k = n := fun z => e z.symm
      simp [e, e2]
theorem flat_ints (ns : List Int) : (ns.map V.int).all flatV = true := by
  rw [List.all_eq_true]
  intro x hx
  obtain ⟨n, _, rfl⟩ := List.mem_map.mp hx
  rfl
theorem set_wipe {σ : L2.St} {i : Nat} {x : Option V} : (wipe σ [i]).set i x = σ.set i x := by
  show (σ.set i none).set i x = _
  rw [List.set_set]
theorem wipe_set {σ : L2.St} {i : Nat} {x : Option V} : wipe (σ.set i x) [i] = wipe σ [i] := by
  show (σ.set i x).set i none = σ.set i none
  rw [List.set_set]
/-- [x for x in xs if test] -/
theorem filt_lc {β : Type} {enc : β → PyData} {tt : TT} {i : Nat} {σ : L2.St} {H2 : Hp} {S D : Addr} {xs : List V} {L : List β} {Qd : Hp → Prop} (p : β → Bool) (hS : H2 S = some (.lst xs)) (hr : RpL K H2 (L.map enc) xs) (hD : H2 D = none) (hσ : i < σ.length) (hl : L.length ≤ 1000000)
    (htt : ∀ (b : β) (x : V) (H' : Hp) (Q : Bool → Hp → Prop), b ∈ L → Rp K H' (enc b) x → Same H2 H' → Q (p b) H' → tt (σ.set i (some x)) H' Q)
    (hd : ∀ (H' : Hp) (ys : List V), Same H2 H' → H' D = some (.lst ys) → RpL K H' ((L.filter p).map enc) ys → Qd H') :
    ∃ W : Nat → Nat → Hp → Prop, (∃ m, W 0 m (upd H2 D (.lst []))) ∧ ∀ j m H, W j m H →
      ((Itl K S).stop j H ∧ Qd H) ∨ ((Itl K S).go j H ∧ ∃ Nx : Hp → Prop, (∀ H', Nx H' → ∃ m', m' < m ∧ W (j + 1) m' H') ∧ ∀ x H', (Itl K S).yld j H x H' → gName i x (wipe σ [i]) H' fun σ2 H2 => wipe σ2 [i] = wipe σ [i] ∧ tt σ2 H2 fun b H3 =>
        if b = true then tVar i σ2 H3 fun y H4 => ∃ acc, H4 D = some (.lst acc) ∧ acc.length < sizeLine ∧ Nx (upd H4 D (.lst (acc ++ [y]))) else Nx H3) := by
  refine lc_list (K := K) (a := S) (xs := xs) (fun j H => ∃ ys, Same H2 H ∧ H D = some (.lst ys) ∧ RpL K H (((L.take j).filter p).map enc) ys)
    ⟨[], (L2.Same.refl H2).new hD, upd_same, RpL.nil⟩ (fun j H _ ⟨ys, s, _, _⟩ => SqL.of (s _ _ hS)) ?_ ?_
  · rintro j x H3 hx ⟨ys, s3, hD3, hr3⟩
    have hlen := RpL.len _ _ hr
    have hj : j < L.length := by
      have q := (List.getElem?_eq_some_iff.mp hx).1
      rw [hlen, List.length_map] at q
      exact q
    obtain ⟨v, ev, rv⟩ := RpL.get _ _ hr j (enc L[j]) (by rw [List.getElem?_map, List.getElem?_eq_getElem hj]; rfl)
    have ex : v = x := Option.some.inj (ev.symm.trans hx)
    rw [ex] at rv
    have rx := Rp.tk (TK.of s3) _ _ rv
    show wipe ((wipe σ [i]).set i (some x)) [i] = wipe σ [i] ∧ _
    rw [set_wipe]
    refine ⟨wipe_set, ?_⟩
    have hly : ys.length < sizeLine := by
      have := RpL.len _ _ hr3
      rw [List.length_map] at this
      have h2 := List.length_filter_le p (L.take j)
      rw [List.length_take] at h2
      exact Nat.lt_of_le_of_lt (show ys.length ≤ 1000000 by omega) (by decide)
    refine htt L[j] x H3 _ (List.getElem_mem hj) rx s3 ?_
    have et : L.take (j + 1) = L.take j ++ [L[j]] := List.take_succ_eq_append_getElem hj
    cases e : p L[j] with
    | false =>
      refine iteF ⟨ys, s3, hD3, ?_⟩
      rw [et, List.filter_append, List.filter_cons, e]
      simpa using hr3
    | true =>
      refine iteT ⟨x, ?_, ys, hD3, hly, ys ++ [x], s3.wrn hD, upd_same, ?_⟩
      · rw [List.getElem?_set_self hσ]
      · have tE : TK H3 (upd H3 D (.lst (ys ++ [x]))) := (TK.refl _).wr hD3 rfl
        rw [et, List.filter_append, List.filter_cons, e, List.map_append]
        exact RpL.app (RpL.tk tE _ _ hr3) (RpL.cons (Rp.tk tE _ _ rx) RpL.nil)
  · rintro H3 ⟨ys, s3, hD3, hr3⟩
    have hlen := RpL.len _ _ hr
    rw [hlen, List.length_map, List.take_length] at hr3
    exact hd H3 ys s3 hD3 hr3
/-- [number of x for x in xs] -/
theorem mapI_lc {β : Type} {enc : β → PyData} {te : TE} {i : Nat} {σ : L2.St} {H2 : Hp} {S D : Addr} {xs : List V} {L : List β} {Qd : Hp → Prop} (f : β → Int) (hS : H2 S = some (.lst xs)) (hr : RpL K H2 (L.map enc) xs) (hD : H2 D = none) (hl : L.length ≤ 1000000)
    (hte : ∀ (b : β) (x : V) (H' : Hp) (Q : VK), b ∈ L → Rp K H' (enc b) x → Same H2 H' → Q (.int (f b)) H' → te (σ.set i (some x)) H' Q)
    (hd : ∀ (H' : Hp), Same H2 H' → H' D = some (.lst ((L.map f).map V.int)) → Qd H') :
    ∃ W : Nat → Nat → Hp → Prop, (∃ m, W 0 m (upd H2 D (.lst []))) ∧ ∀ j m H, W j m H →
      ((Itl K S).stop j H ∧ Qd H) ∨ ((Itl K S).go j H ∧ ∃ Nx : Hp → Prop, (∀ H', Nx H' → ∃ m', m' < m ∧ W (j + 1) m' H') ∧ ∀ x H', (Itl K S).yld j H x H' → gName i x (wipe σ [i]) H' fun σ2 H2 => wipe σ2 [i] = wipe σ [i] ∧ tYes σ2 H2 fun b H3 =>
        if b = true then te σ2 H3 fun y H4 => ∃ acc, H4 D = some (.lst acc) ∧ acc.length < sizeLine ∧ Nx (upd H4 D (.lst (acc ++ [y]))) else Nx H3) := by
  refine lc_list (K := K) (a := S) (xs := xs) (fun j H => Same H2 H ∧ H D = some (.lst (((L.take j).map f).map V.int)))
    ⟨(L2.Same.refl H2).new hD, upd_same⟩ (fun j H _ ⟨s, _⟩ => SqL.of (s _ _ hS)) ?_ ?_
  · rintro j x H3 hx ⟨s3, hD3⟩
    have hlen := RpL.len _ _ hr
    have hj : j < L.length := by
      have q := (List.getElem?_eq_some_iff.mp hx).1
      rw [hlen, List.length_map] at q
      exact q
    obtain ⟨v, ev, rv⟩ := RpL.get _ _ hr j (enc L[j]) (by rw [List.getElem?_map, List.getElem?_eq_getElem hj]; rfl)
    have ex : v = x := Option.some.inj (ev.symm.trans hx)
    rw [ex] at rv
    have rx := Rp.tk (TK.of s3) _ _ rv
    show wipe ((wipe σ [i]).set i (some x)) [i] = wipe σ [i] ∧ _
    rw [set_wipe]
    refine ⟨wipe_set, tYes_t (iteT ?_)⟩
    refine hte L[j] x H3 _ (List.getElem_mem hj) rx s3 ⟨_, hD3, ?_, s3.wrn hD, ?_⟩
    · rw [List.length_map, List.length_map, List.length_take]
      exact Nat.lt_of_le_of_lt (show min j L.length ≤ 1000000 by omega) (by decide)
    · rw [upd_same, List.take_succ_eq_append_getElem hj, List.map_append, List.map_append]
      rfl
  · rintro H3 ⟨s3, hD3⟩
    have hlen := RpL.len _ _ hr
    rw [hlen, List.length_map, List.take_length] at hD3
    exact hd H3 s3 hD3
end
section
variable {K : PySem.W.Frag} {H H' : Hp}
/-- [e for x in xs], each e data -/
theorem mapD_it {J : It} {G : Hp → Prop} {β : Type} {enc : β → PyData} {te : TE} {i : Nat} {σ : L2.St} {H2 : Hp} {D : Addr} {xs : List V} {L : List β} {Qd : Hp → Prop} (w : Walk J xs.length G (YAt xs)) (hG : ∀ H', Same H2 H' → G H') (g : β → PyData) (hr : RpL K H2 (L.map enc) xs) (hD : H2 D = none) (hl : L.length ≤ 1000000)
    (hte : ∀ (b : β) (x : V) (H' : Hp) (Q : VK), b ∈ L → Rp K H' (enc b) x → Same H2 H' → (∀ (H'' : Hp) (y : V), Same H' H'' → Rp K H'' (g b) y → Q y H'') → te (σ.set i (some x)) H' Q)
    (hd : ∀ (H' : Hp) (ys : List V), Same H2 H' → H' D = some (.lst ys) → RpL K H' (L.map g) ys → Qd H') :
    ∃ W : Nat → Nat → Hp → Prop, (∃ m, W 0 m (upd H2 D (.lst []))) ∧ ∀ j m H, W j m H →
      (J.stop j H ∧ Qd H) ∨ (J.go j H ∧ ∃ Nx : Hp → Prop, (∀ H', Nx H' → ∃ m', m' < m ∧ W (j + 1) m' H') ∧ ∀ x H', J.yld j H x H' → gName i x (wipe σ [i]) H' fun σ2 H2 => wipe σ2 [i] = wipe σ [i] ∧ tYes σ2 H2 fun b H3 =>
        if b = true then te σ2 H3 fun y H4 => ∃ acc, H4 D = some (.lst acc) ∧ acc.length < sizeLine ∧ Nx (upd H4 D (.lst (acc ++ [y]))) else Nx H3) := by
  refine lc_it w (fun j H => ∃ ys, Same H2 H ∧ H D = some (.lst ys) ∧ RpL K H ((L.take j).map g) ys)
    ⟨[], (L2.Same.refl H2).new hD, upd_same, RpL.nil⟩ (fun j H _ ⟨ys, s, _⟩ => hG H s) ?_ ?_
  · rintro j x H3 H3' hj ⟨ys, s3, hD3, hr3⟩ ⟨rfl, hx⟩
    have hlen := RpL.len _ _ hr
    rw [List.length_map] at hlen
    have hj : j < L.length := by omega
    obtain ⟨v, ev, rv⟩ := RpL.get _ _ hr j (enc L[j]) (by rw [List.getElem?_map, List.getElem?_eq_getElem hj]; rfl)
    have ex : v = x := Option.some.inj (ev.symm.trans hx)
    rw [ex] at rv
    have rx := Rp.tk (TK.of s3) _ _ rv
    show wipe ((wipe σ [i]).set i (some x)) [i] = wipe σ [i] ∧ _
    rw [set_wipe]
    refine ⟨wipe_set, tYes_t (iteT ?_)⟩
    refine hte L[j] x H3' _ (List.getElem_mem hj) rx s3 fun H4 y s4 ry => ⟨ys, s4 _ _ hD3, ?_, ys ++ [y], (s3.trans s4).wrn hD, upd_same, ?_⟩
    · have := RpL.len _ _ hr3
      rw [List.length_map, List.length_take] at this
      exact Nat.lt_of_le_of_lt (show ys.length ≤ 1000000 by omega) (by decide)
    · have tE : TK H4 (upd H4 D (.lst (ys ++ [y]))) := (TK.refl _).wr (s4 _ _ hD3) rfl
      rw [List.take_succ_eq_append_getElem hj, List.map_append]
      exact RpL.app (RpL.tk ((TK.of s4).trans tE) _ _ hr3) (RpL.cons (Rp.tk tE _ _ ry) RpL.nil)
  · rintro H3 ⟨ys, s3, hD3, hr3⟩
    have hlen := RpL.len _ _ hr
    rw [hlen, List.length_map, List.take_length] at hr3
    exact hd H3 ys s3 hD3 hr3
theorem RpL.ints : ∀ {ns : List Int} {ys : List V}, RpL K H (ns.map PyData.int) ys → ys = ns.map V.int
  | [], ys, h => by
    unfold List.map RpL at h
    exact h
  | n :: ns, ys, h => by
    rw [List.map_cons] at h
    unfold RpL at h
    obtain ⟨v, r, rfl, h1, h2⟩ := h
    unfold Rp at h1
    rw [RpL.ints h2, h1]
    rfl
theorem dp_ints : ∀ (ns : List Int), DpAll K H (ns.map V.int) (ns.map PyData.int)
  | [] => .nil
  | n :: ns => .cons (.int n) (dp_ints ns)
theorem LstAt.dict {α : Type} {enc : α → PyData} {a q : Addr} {ds : List PyData} {m : List (Int × α)} (h : LstAt K H a ds) (k : Kp [q] H H') (t : TK H H') (hq : DictAt enc K H q m) : LstAt K H' a ds := by
  obtain ⟨xs, h1, _⟩ := id h
  obtain ⟨kv, h2, _⟩ := hq
  exact h.kp k t (nin1 (ne_of h1 h2 (by intro z; cases z)))
theorem dep_ints (ns : List Int) : dep (.tuple (ns.map PyData.int)) ≤ 1 := by
  unfold dep
  have := deps_map_le (c := 0) (f := PyData.int) ns fun x _ => Nat.le_refl _
  omega
end
section
variable {K : PySem.W.Frag} {H H' : Hp}
/-- [e for i in range(..)], each e data -/
theorem mapR_it {J : It} {n : Nat} {fv : Nat → V} {te : TE} {i : Nat} {σ : L2.St} {H2 : Hp} {D : Addr} {Qd : Hp → Prop} (w : Walk J n (fun _ => True) (YFn fv)) (g : Nat → PyData) (hD : H2 D = none) (hl : n ≤ 1000000)
    (hte : ∀ (j : Nat) (H' : Hp) (Q : VK), j < n → Same H2 H' → (∀ (H'' : Hp) (y : V), Same H' H'' → Rp K H'' (g j) y → Q y H'') → te (σ.set i (some (fv j))) H' Q)
    (hd : ∀ (H' : Hp) (ys : List V), Same H2 H' → H' D = some (.lst ys) → RpL K H' ((List.range n).map g) ys → Qd H') :
    ∃ W : Nat → Nat → Hp → Prop, (∃ m, W 0 m (upd H2 D (.lst []))) ∧ ∀ j m H, W j m H →
      (J.stop j H ∧ Qd H) ∨ (J.go j H ∧ ∃ Nx : Hp → Prop, (∀ H', Nx H' → ∃ m', m' < m ∧ W (j + 1) m' H') ∧ ∀ x H', J.yld j H x H' → gName i x (wipe σ [i]) H' fun σ2 H2 => wipe σ2 [i] = wipe σ [i] ∧ tYes σ2 H2 fun b H3 =>
        if b = true then te σ2 H3 fun y H4 => ∃ acc, H4 D = some (.lst acc) ∧ acc.length < sizeLine ∧ Nx (upd H4 D (.lst (acc ++ [y]))) else Nx H3) := by
  refine lc_it w (fun j H => ∃ ys, Same H2 H ∧ H D = some (.lst ys) ∧ RpL K H ((List.range j).map g) ys)
    ⟨[], (L2.Same.refl H2).new hD, upd_same, RpL.nil⟩ (fun j H _ _ => trivial) ?_ ?_
  · rintro j x H3 H3' hj ⟨ys, s3, hD3, hr3⟩ ⟨rfl, rfl⟩
    show wipe ((wipe σ [i]).set i (some (fv j))) [i] = wipe σ [i] ∧ _
    rw [set_wipe]
    refine ⟨wipe_set, tYes_t (iteT ?_)⟩
    refine hte j H3' _ hj s3 fun H4 y s4 ry => ⟨ys, s4 _ _ hD3, ?_, ys ++ [y], (s3.trans s4).wrn hD, upd_same, ?_⟩
    · have := RpL.len _ _ hr3
      rw [List.length_map, List.length_range] at this
      exact Nat.lt_of_le_of_lt (show ys.length ≤ 1000000 by omega) (by decide)
    · have tE : TK H4 (upd H4 D (.lst (ys ++ [y]))) := (TK.refl _).wr (s4 _ _ hD3) rfl
      rw [List.range_succ, List.map_append]
      exact RpL.app (RpL.tk ((TK.of s4).trans tE) _ _ hr3) (RpL.cons (Rp.tk tE _ _ ry) RpL.nil)
  · rintro H3 ⟨ys, s3, hD3, hr3⟩
    exact hd H3 ys s3 hD3 hr3
end
end Wn

namespace Wn
open PySem L2
/-- a new tuple is appended to a list of data -/
theorem push_tup {K : PySem.W.Frag} {G : Hp} {t fa : Addr} {zs vs : List V} {U ds : List PyData} (hG : G fa = some (.lst zs)) (rG : RpL K G U zs) (nt : G t = none) (rv : RpL K G ds vs) :
    upd G t (.tup vs) fa = some (.lst zs) ∧ LstAt K (upd (upd G t (.tup vs)) fa (.lst (zs ++ [.ref t]))) fa (U ++ [.tuple ds]) ∧ TK G (upd (upd G t (.tup vs)) fa (.lst (zs ++ [.ref t]))) ∧ Kp [fa] G (upd (upd G t (.tup vs)) fa (.lst (zs ++ [.ref t]))) := by
  have s6 : Same G (upd G t (.tup vs)) := (L2.Same.refl _).new nt
  have rt : Rp K (upd G t (.tup vs)) (.tuple ds) (.ref t) := Rp.tup upd_same (RpL.tk (TK.of s6) _ _ rv)
  have tE : TK (upd G t (.tup vs)) (upd (upd G t (.tup vs)) fa (.lst (zs ++ [.ref t]))) := (TK.refl _).wr (s6 _ _ hG) rfl
  exact ⟨s6 _ _ hG, ⟨_, upd_same, RpL.tk tE _ _ (RpL.app (RpL.tk (TK.of s6) _ _ rG) (RpL.cons rt RpL.nil))⟩, (TK.of s6).trans tE, (Kp.of s6).wr (List.mem_singleton.mpr rfl)⟩
/-- a thing that stands is appended -/
theorem push_old {K : PySem.W.Frag} {G : Hp} {fa : Addr} {zs : List V} {v : V} {U : List PyData} {d : PyData} (hG : G fa = some (.lst zs)) (rG : RpL K G U zs) (rv : Rp K G d v) :
    LstAt K (upd G fa (.lst (zs ++ [v]))) fa (U ++ [d]) ∧ TK G (upd G fa (.lst (zs ++ [v]))) ∧ Kp [fa] G (upd G fa (.lst (zs ++ [v]))) := by
  have tE : TK G (upd G fa (.lst (zs ++ [v]))) := (TK.refl _).wr hG rfl
  exact ⟨⟨_, upd_same, RpL.tk tE _ _ (RpL.app rG (RpL.cons rv RpL.nil))⟩, tE, (Kp.refl _ _).wr (List.mem_singleton.mpr rfl)⟩
/-- flat data: the very values -/
theorem RpL.flat {β : Type} {K : PySem.W.Frag} {H : Hp} {f : β → PyData} {g : β → V} (h : ∀ b v, Rp K H (f b) v → v = g b) : ∀ {L : List β} {ys : List V}, RpL K H (L.map f) ys → ys = L.map g
  | [], ys, r => by
    rw [List.map_nil] at r
    unfold RpL at r
    exact r
  | b :: L, ys, r => by
    rw [List.map_cons] at r
    unfold RpL at r
    obtain ⟨v, t, rfl, h1, h2⟩ := r
    rw [h b v h1, RpL.flat h h2]
    rfl
theorem Rp.bool_eq {K : PySem.W.Frag} {H : Hp} {b : Bool} {v : V} (r : Rp K H (.bool b) v) : v = .bl b := by
  unfold Rp at r
  exact r
theorem Rp.str_eq {K : PySem.W.Frag} {H : Hp} {z : Str} {v : V} (r : Rp K H (.str z) v) : v = .str z := by
  unfold Rp at r
  exact r
theorem Rp.int_eq {K : PySem.W.Frag} {H : Hp} {i : Int} {v : V} (r : Rp K H (.int i) v) : v = .int i := by
  unfold Rp at r
  exact r
theorem Rp.bool {K : PySem.W.Frag} {H : Hp} {b : Bool} : Rp K H (.bool b) (.bl b) := by
  unfold Rp
  rfl
mutual
theorem Rp.dp {K : PySem.W.Frag} {H : Hp} : ∀ (d : PyData) (v : V), Rp K H d v → Dp K H v d
  | .none, _, h => by
    unfold Rp at h
    subst h
    exact .non
  | .bool b, _, h => by
    unfold Rp at h
    subst h
    exact .bl b
  | .int i, _, h => by
    unfold Rp at h
    subst h
    exact .int i
  | .str s, _, h => by
    unfold Rp at h
    subst h
    exact .str s
  | .tuple ds, v, h => by
    unfold Rp at h
    obtain ⟨a, xs, rfl, hs, hl⟩ := h
    exact .tup hs (RpL.dp ds xs hl)
  | .list _, _, h => by
    unfold Rp at h
    exact h.elim
  | .dict _, _, h => by
    unfold Rp at h
    exact h.elim
theorem RpL.dp {K : PySem.W.Frag} {H : Hp} : ∀ (ds : List PyData) (xs : List V), RpL K H ds xs → DpAll K H xs ds
  | [], xs, h => by
    unfold RpL at h
    subst h
    exact .nil
  | d :: ds, xs, h => by
    unfold RpL at h
    obtain ⟨v, r, rfl, h1, h2⟩ := h
    exact .cons (Rp.dp d v h1) (RpL.dp ds r h2)
end
end Wn

namespace Wn
open PySem L2 PySem.Spec PyProof.Rows
/-! ### repr of data asks that no repr is under way: a promise of the law's own def, called as the claim calls it -/
section
variable {X : Cx} {K : PySem.W.Frag}
def rReprD (K : PySem.W.Frag) : List V → Hp → VK → Prop := fun xs H Q => ∃ (x : V) (d : PyData), xs = [x] ∧ Dp K H x d ∧ d.showable = true ∧ d.hasDict = false ∧ d.depth ≤ 60 ∧ d.shown.length ≤ sizeLine ∧ Q (.str d.shown) H
theorem call_reprD (hg : X.A.guards = some []) (hu : X.A.units + 64 < cLine) : CallR X (.builtin "repr") (rReprD X.K) := by
  intro pins s σ H xs us Q I r h
  obtain ⟨x, d, rfl, hd, hs, hno, hdep, hsz, q⟩ := h
  obtain ⟨u, rfl, rx⟩ := vals1 r
  have fin : ∀ (h' : Heap) (t tk : Tok), (∀ b o, s.heap.get? b = some o → h'.get? b = some o) → EP X pins σ Q (.str d.shown t) { s with heap := h', toks := tk } := fun h' t tk hk => ⟨.str d.shown, H, I.kept hk, ⟨t, rfl⟩, q⟩
  obtain ⟨as, rd⟩ := Dp.reads I d x u hd rx
  have same : ∀ b o, s.heap.get? b = some o → s.heap.get? b = some o := fun _ _ e => e
  cases rd with
  | none => exact PySem.P.repr_of_none (fin s.heap _ _ same)
  | bool b => exact PySem.P.repr_of_bool (fin s.heap _ _ same)
  | int i t =>
    have hi : i.natAbs.log2 < 1920 := by simpa [PyData.showable] using hs
    exact PySem.P.repr_of_int hi (fin s.heap _ _ same)
  | str x t => exact PySem.P.repr_of_str (fin s.heap _ _ same) (hsz := hsz)
  | list h1 h2 h3 h4 => exact repr_of_reads' (.list h1 h2 h3 h4) hs (fun z => by rw [hno] at z; cases z) hg (by omega) same (fun h' t tk hk => fin h' t tk hk) (hsz := hsz)
  | tuple h1 h2 h3 h4 => exact repr_of_reads' (.tuple h1 h2 h3 h4) hs (fun z => by rw [hno] at z; cases z) hg (by omega) same (fun h' t tk hk => fin h' t tk hk) (hsz := hsz)
  | dict h1 h2 h3 h4 h5 => cases hno
theorem reprDK (hK : X.K = K) (hg : X.A.guards = some []) (hu : X.A.units + 64 < cLine) : CallR X (.builtin "repr") (rReprD K) := hK ▸ call_reprD hg hu
end
/-- the promise of the law's def where the claim's caller calls it -/
def LawOk (P : Program) (w : World) (K : PySem.W.Frag) (mg : Str → Option Value) (base : Heap) (f : Addr) (fd : FuncData) (ps : List Str) (sp : Sp) : Prop :=
  ∀ (s : Shared) (H : Hp) (args : Args) (us : List Value) (vs : List V) (Q : VK), Env0 P w K mg base callerA [] s H → BindsTo s fd args (ps.zip us) → Vals vs us → sp vs H Q E0 →
    codeAny (model P w) callerA (.call (.ref f) args) (CR CX0 [] P w H s Q E0) s
section
variable {P : Program} {w : World} {K : PySem.W.Frag} {mg : Str → Option Value} {base : Heap}
theorem law_ok {x qual : Str} {st : Stmt} {f : Addr} {fd : FuncData} {N ps : List Str} {k : Nat} {sp : Sp} (F : Fun K x qual st f fd) (S : FnScope N ps (defScope st)) (len : ∀ vs H Q E, sp vs H Q E → vs.length = ps.length) (hr : Room (k + 1) callerA)
    (hbody : ∀ (cdv : Value) (A : Around) (s : Shared) (H : Hp) (vs : List V) (Q : VK), A = callerA → Room k (A.deeper (envOfC qual (defScope st) s.heap.objs.size f cdv)) → sp vs H Q E0 →
      ∃ t, PSs (cxOf CX0 P w K mg base N qual (defScope st) f cdv A [] s H E0).nox (defBody st) t ∧ t { nx := fun _ H' => Q .non H', rt := Q } (start N vs) H) : LawOk P w K mg base f fd ps sp := by
  obtain ⟨oc, od, kV, doc, pm, an, cdv, ct, osl, rfl, lk, hcd⟩ := F.ex
  intro s H args us vs Q e0 hb r hsp
  have hl := len _ _ _ _ hsp
  obtain ⟨t, ht, hq⟩ := hbody cdv callerA s H vs Q rfl (hr.deeper _) hsp
  have kin : K.In s.heap := e0.mod.kin.keeps fun b o e => (e0.bs b o e).1
  have nolim : s.heap.NoLimit := e0.mod.nolimit.keeps fun b o e => (e0.bs b o e).1
  have knd : ∀ y ∈ ps.zip us, (defScope st).names.lookup y.1 = some .local ∨ ((defScope st).names.lookup y.1 = some .cell ∧ ((cellsFrom (s.heap.objs.size + 1) (defScope st).names []).lookup y.1).isSome = true) := by
    rintro ⟨n, v⟩ hy
    refine (S.par n (List.of_mem_zip hy).1).imp id fun q => ⟨q, PySem.W.cellsFrom_some _ _ _ (.inl q)⟩
  refine codeAny_call_function hr.depth (kin _ _ lk) rfl S.co S.gen rfl (PySem.W.codeRec_of kin hcd) (hb _ _ _ _ (wpAny_newFunctionEnv_cells S.kind knd fun env he s1 x => ?_))
  subst he
  refine ⟨nolim.keeps x.toInCall.keep, codeAny_func ?_⟩
  have I := inv_start (CX := CX0) (E := E0) S hr.hd e0 hl r x
  refine wpAny_mono (ht.nox.run [] s1 (start N vs) H _ I hq) (fun fl s' hs => ?_) fun e s' hs => hs
  cases fl with
  | ret u =>
    obtain ⟨v, σ', H', J, rv, q⟩ := hs
    exact ⟨v, H', J.os, J.bare, J.base, J.hok, rv, q⟩
  | next =>
    obtain ⟨σ', H', J, q⟩ := hs
    exact ⟨.non, H', J.os, J.bare, J.base, J.hok, rfl, q⟩
  | brk => exact False.elim hs.choose_spec.choose_spec.2
  | cont => exact False.elim hs.choose_spec.choose_spec.2
/-- the law's call, by such a promise: only the script is tracked, as it is -/
theorem law_callG {mb : Str → Option Value} {fa a : Addr} {fd : FuncData} {x : Str} {sp : Sp} {s₁ : Shared} {vs : List Value} {ns : List Int}
    (KX : K.In s₁.heap) (hns : s₁.heap.Ns mainGlobals mg) (hb : s₁.heap.Ns builtinsNs mb) (hbb : ∀ x : Str, x ≠ "__name__" → mb x = bootBuiltins x) (hlim : s₁.heap.NoLimit) (hg : s₁.gens = #[])
    (ha : s₁.heap.get? a = some { cls := .type "list", data := .seq vs.toArray }) (hi : IntsAre vs ns) (hl : ns.length ≤ sizeLine)
    (F : ∀ base : Heap, K.In base → base.Ns mainGlobals mg → LawOk P w K mg base fa fd [x] sp) (hbind : ∀ (s : Shared) (u : Value), BindsTo s fd ⟨[u], []⟩ [(x, u)])
    (hsp : ∀ H : Hp, SqL K H a (ns.map V.int) → sp [.ref a] H (fun v _ => v = .bl true) E0) :
    codeAny (model P w) callerA (.call (.ref fa) ⟨[.ref a], []⟩) (fun r s' => r = .ok (.ret (.bool true)) ∧ OldK s₁.heap s'.heap ∧ s'.os = s₁.os ∧ AllBare s'.gens) s₁ := by
  have rv : Vals (ns.map V.int) vs := vals_ints hi
  have hlen := hi.length
  obtain ⟨H, hS, hok, hT⟩ : ∃ H : Hp, SqL K H a (ns.map V.int) ∧ HOk P w H s₁.heap ∧ ∀ b u, H b = some u → b = a ∧ K.lookup a = none ∧ u = .frz { cls := .type "list", data := .seq vs.toArray } (.lst (ns.map V.int)) := by
    cases hk : K.lookup a with
    | some o =>
      have e := KX a o hk
      rw [ha] at e
      cases e
      exact ⟨fun _ => none, .inr ⟨_, vs.toArray, _, hk, rfl, rfl, rfl, by rw [List.size_toArray, hlen]; exact hl, by simpa using rv⟩, (fun b u z => by have z' : (none : Option HO) = some u := z; cases z'), (fun b u z => by have z' : (none : Option HO) = some u := z; cases z')⟩
    | none =>
      refine ⟨upd (fun _ => none) a (.frz { cls := .type "list", data := .seq vs.toArray } (.lst (ns.map V.int))), .inl (.inr ⟨_, upd_same⟩), fun b u z => ?_, fun b u z => ?_⟩
      · by_cases e : b = a
        · subst e
          rw [upd_same] at z
          cases z
          exact ⟨ha, by rw [List.length_map]; exact hl, vs, _, rv, ha⟩
        · rw [upd_ne e] at z
          cases z
      · by_cases e : b = a
        · subst e
          rw [upd_same] at z
          exact ⟨rfl, rfl, (Option.some.inj z).symm⟩
        · rw [upd_ne e] at z
          cases z
  have free : ∀ {b : Addr} {o : Obj} {es : Array DictEntry} {ep : Nat}, s₁.heap.get? b = some o → o.data = .dict es ep → H b = none := fun {b o es ep} e d => by
    cases q : H b with
    | none => rfl
    | some u =>
      obtain ⟨rfl, _, _⟩ := hT b u q
      rw [ha] at e
      cases e
      exact nomatch (show Data.seq vs.toArray _ = Data.dict es ep from d)
  have ns' : ∀ {b : Addr} {m : Str → Option Value}, s₁.heap.Ns b m → (hidT s₁.heap H).Ns b m := fun {b m} ⟨o, es, ep, e, d, r⟩ => ⟨o, es, ep, hidT_get e (free e d), d, r⟩
  have kin : K.In (hidT s₁.heap H) := fun b o e => hidT_get (KX b o e) (by
    cases q : H b with
    | none => rfl
    | some u =>
      obtain ⟨rfl, z, _⟩ := hT b u q
      rw [z] at e
      cases e)
  obtain ⟨mc, c1, c2⟩ := hlim
  have e0 : Env0 P w K mg (hidT s₁.heap H) callerA [] s₁ H := ⟨rfl, ⟨kin, ns' hns, ⟨mb, ns' hb, hbb⟩, ⟨mc, ns' c1, c2⟩⟩, fun b o e => of_hidT e, Nat.le_of_eq (hidT_size _ _), trivial, fun b hb => absurd hb (List.not_mem_nil), hok, .of_eq hg⟩
  refine codeAny_mono (F _ kin (ns' hns) s₁ H ⟨[.ref a], []⟩ [.ref a] [.ref a] _ e0 (hbind s₁ (.ref a)) (.cons rfl .nil) (hsp H hS)) fun r s' h => ?_
  rcases r with e | fl
  · exact h.elim
  · cases fl with
    | next => exact h.elim
    | brk => exact h.elim
    | cont => exact h.elim
    | ret u =>
      obtain ⟨v, H', os, bare, un, hok', r', rfl⟩ := h
      obtain rfl : u = Value.bool true := r'
      refine ⟨rfl, OldK.of_keep fun b o e => ?_, os, bare⟩
      cases q : H b with
      | none => exact un.keep b o e q (fun z => absurd z (List.not_mem_nil)) (List.not_mem_nil)
      | some u =>
        obtain ⟨rfl, _, rfl⟩ := hT b u q
        have z := (hok' _ _ (un.frzs _ _ _ q)).1
        rw [ha] at e
        cases e
        exact z
end
theorem walkG {l : PySem.W.OpenLaw} {n : Nat} {q : Program} {loose : List Str} {XP : (Str → Option Value) → Heap → Prop} {YP : World → Heap → Prop} {d : DefRec} {K : Params → PySem.W.Frag} {sp : World → Sp} {x : Str}
    (hn : l.most = some n) (hn2 : n ≤ sizeLine) (hdf : d.params.defaults = []) (hY : ∀ (w : World) (h : Heap), YP w h → (K w.params).In h)
    (F : ∀ (w : World) (mg : Str → Option Value) (fa : Addr) (h : Heap), (K w.params).In h → h.Ns mainGlobals mg → mg d.name = some (.ref fa) →
      ∃ fd : FuncData, (∀ (s : Shared) (u : Value), BindsTo s fd ⟨[u], []⟩ [(x, u)]) ∧ ∀ base : Heap, (K w.params).In base → base.Ns mainGlobals mg → LawOk l.prog w (K w.params) mg base fa fd [x] (sp w))
    (hsp : ∀ (w : World) (H : Hp) (a : Addr) (ns : List Int), ns.length ≤ n → SqL (K w.params) H a (ns.map V.int) → sp w [.ref a] H (fun v _ => v = .bl true) E0) :
    PySem.W.WalkO q loose XP YP l.row.toRowW d [] (fun f vs => PySem.call f vs) := by
  refine Att.attach_call hn hdf fun w s₀ s₁ mg mb fa o pm cd doc a vs ns G Y ho hd hcd hmg hobj hints hlen hg => ?_
  obtain ⟨fd, hb, hF⟩ := F w mg fa _ (hY w _ Y) G.T.g hmg
  exact law_callG (hY w _ Y) G.T.g G.T.b G.T.builtins G.T.nolimit hg hobj hints (Nat.le_trans hlen hn2) hF hb fun H hS => hsp w H a ns hlen hS
end Wn

namespace Wn
open PySem L2 PySem.Spec PyProof.Rows
/-! ### things of any kind: data with lists, and the empty dict -/
theorem SqL.sm' {K : PySem.W.Frag} {H H' : Hp} {a : Addr} {xs : List V} (h : SqL K H a xs) (e : Same H H') : SqL K H' a xs := by
  rcases h with (h | ⟨o, h⟩) | h
  · exact .inl (.inl (e _ _ h))
  · exact .inl (.inr ⟨o, e _ _ h⟩)
  · exact .inr h
mutual
theorem Dp.sm {K : PySem.W.Frag} {H H' : Hp} (e : Same H H') : ∀ {v : V} {d : PyData}, Dp K H v d → Dp K H' v d
  | _, _, .non => .non
  | _, _, .bl b => .bl b
  | _, _, .int i => .int i
  | _, _, .str x => .str x
  | _, _, .lst h1 h2 => .lst (SqL.sm' h1 e) (DpAll.sm e h2)
  | _, _, .tup h1 h2 => .tup (SqT.tk h1 (TK.of e)) (DpAll.sm e h2)
theorem DpAll.sm {K : PySem.W.Frag} {H H' : Hp} (e : Same H H') : ∀ {vs : List V} {ds : List PyData}, DpAll K H vs ds → DpAll K H' vs ds
  | _, _, .nil => .nil
  | _, _, .cons h1 h2 => .cons (Dp.sm e h1) (DpAll.sm e h2)
end
theorem DpAll.len {K : PySem.W.Frag} {H : Hp} : ∀ {vs : List V} {ds : List PyData}, DpAll K H vs ds → vs.length = ds.length
  | _, _, .nil => rfl
  | _, _, .cons _ h => by rw [List.length_cons, List.length_cons, DpAll.len h]
theorem DpAll.get {K : PySem.W.Frag} {H : Hp} : ∀ {vs : List V} {ds : List PyData}, DpAll K H vs ds → ∀ {i : Nat} {v : V}, vs[i]? = some v → ∃ d, ds[i]? = some d ∧ Dp K H v d
  | _, _, .cons h1 h2, 0, v, e => by
    have : _ = v := Option.some.inj e
    subst this
    exact ⟨_, rfl, h1⟩
  | _, _, .cons h1 h2, i + 1, v, e => DpAll.get h2 (i := i) (by simpa using e)
/-- the name of a thing's type -/
def tyN : PyData → String
  | .none => "NoneType"
  | .bool _ => "bool"
  | .int _ => "int"
  | .str _ => "str"
  | .list _ => "list"
  | .tuple _ => "tuple"
  | .dict _ => "dict"
theorem Dp.ty {K : PySem.W.Frag} {H : Hp} {v : V} {d : PyData} (h : Dp K H v d) : TyX K H v (.type (tyN d)) := by
  cases h with
  | non => exact .base .non
  | bl b => exact .base (.bl b)
  | int i => exact .base (.int i)
  | str x => exact .base (.str x)
  | lst h1 h2 =>
    rcases h1 with (h | ⟨o, h⟩) | ⟨o, its, n, h, c, _⟩
    · exact .base (.lst h)
    · exact .base (.frz h)
    · exact .kList h c
  | tup h1 h2 => exact ty_tup h1
def AnyAt (K : PySem.W.Frag) (H : Hp) (v : V) (d : PyData) : Prop := Dp K H v d ∨ (d = .dict [] ∧ ∃ a, v = .ref a ∧ H a = some (.dK []))
theorem AnyAt.sm {K : PySem.W.Frag} {H H' : Hp} {v : V} {d : PyData} (h : AnyAt K H v d) (e : Same H H') : AnyAt K H' v d := by
  rcases h with h | ⟨rfl, a, rfl, h⟩
  · exact .inl (Dp.sm e h)
  · exact .inr ⟨rfl, a, rfl, e _ _ h⟩
theorem AnyAt.ty {K : PySem.W.Frag} {H : Hp} {v : V} {d : PyData} (h : AnyAt K H v d) : TyX K H v (.type (tyN d)) := by
  rcases h with h | ⟨rfl, a, rfl, h⟩
  · exact Wn.Dp.ty h
  · exact .base (.dK h)
abbrev tyNames : List String := ["NoneType", "bool", "int", "str", "list", "tuple", "dict"]
theorem tyN_mem (d : PyData) : tyN d ∈ tyNames := by
  cases d <;> simp [tyN, tyNames]
theorem kitB_tuple : ∀ t ∈ tyNames, kitB t "tuple" = some (decide (t = "tuple")) := by decide +kernel
theorem kitB_str : ∀ t ∈ tyNames, kitB t "str" = some (decide (t = "str")) := by decide +kernel
theorem kitB_list : ∀ t ∈ tyNames, kitB t "list" = some (decide (t = "list")) := by decide +kernel
theorem kitB_int : ∀ t ∈ tyNames, kitB t "int" = some (decide (t = "int" ∨ t = "bool")) := by decide +kernel
theorem kitB_bool : ∀ t ∈ tyNames, kitB t "bool" = some (decide (t = "bool")) := by decide +kernel
theorem kit_tuple {K : PySem.W.Frag} (d : PyData) : PySem.W.kitOne K (.type (tyN d)) (.type "tuple") = some (decide (tyN d = "tuple")) := kit_ty (kitB_tuple _ (tyN_mem d))
theorem kit_str {K : PySem.W.Frag} (d : PyData) : PySem.W.kitOne K (.type (tyN d)) (.type "str") = some (decide (tyN d = "str")) := kit_ty (kitB_str _ (tyN_mem d))
theorem kit_list {K : PySem.W.Frag} (d : PyData) : PySem.W.kitOne K (.type (tyN d)) (.type "list") = some (decide (tyN d = "list")) := kit_ty (kitB_list _ (tyN_mem d))
theorem kit_int {K : PySem.W.Frag} (d : PyData) : PySem.W.kitOne K (.type (tyN d)) (.type "int") = some (decide (tyN d = "int" ∨ tyN d = "bool")) := kit_ty (kitB_int _ (tyN_mem d))
theorem kit_bool {K : PySem.W.Frag} (d : PyData) : PySem.W.kitOne K (.type (tyN d)) (.type "bool") = some (decide (tyN d = "bool")) := kit_ty (kitB_bool _ (tyN_mem d))
section
variable {X : Cx} {K : PySem.W.Frag}
def rReprA (K : PySem.W.Frag) : List V → Hp → VK → Prop := fun xs H Q => ∃ (x : V) (d : PyData), xs = [x] ∧ AnyAt K H x d ∧ d.showable = true ∧ (d = .dict [] ∨ d.hasDict = false) ∧ d.depth ≤ 60 ∧ d.shown.length ≤ sizeLine ∧ Q (.str d.shown) H
theorem call_reprA (hg : X.A.guards = some []) (hu : X.A.units + 64 < cLine) : CallR X (.builtin "repr") (rReprA X.K) := by
  intro pins s σ H xs us Q I r h
  obtain ⟨x, d, rfl, hd, hs, hno, hdep, hsz, q⟩ := h
  rcases hd with hd | ⟨rfl, a, rfl, hd⟩
  · have hno : d.hasDict = false := by
      rcases hno with rfl | h
      · cases hd
      · exact h
    exact call_reprD hg hu pins s σ H _ us Q I r ⟨x, d, rfl, hd, hs, hno, hdep, hsz, q⟩
  · obtain ⟨u, rfl, rx⟩ := vals1 r
    cases rx
    obtain ⟨z, lo, vs, rel, o, es, ep, h1, h2, h3, _, h4, _⟩ := (show ObjOk X.prog X.w H s.heap a (.dK []) from I.hok a _ hd)
    cases rel
    have e0 : es.toList = [] := by
      generalize es.toList = l at h4
      cases h4
      rfl
    refine repr_of_reads' (.dict (kvs := []) (as := []) (bs := []) h1 h2.1 h3 (by rw [e0]; exact .nil) (by rw [e0]; exact .nil)) hs (fun _ => ?_) hg (by show X.A.units + 2 < cLine; omega) (fun _ _ e => e) (fun h' t tk hk => ⟨.str _, H, I.kept hk, ⟨t, rfl⟩, q⟩) (hsz := hsz)
    simp only [List.append_nil, List.mem_singleton]
    exact fun z => (beq_eq_false_iff_ne.mp lo) z.symm
theorem reprAK (hK : X.K = K) (hg : X.A.guards = some []) (hu : X.A.units + 64 < cLine) : CallR X (.builtin "repr") (rReprA K) := hK ▸ call_reprA hg hu
end
end Wn

namespace Wn
open PySem L2
/-! ### a thing of a known type; whether it is a whole number -/
def isI : V → Option Int
  | .int i => some i
  | _ => none
/-- data, or a dict -/
def Th (K : PySem.W.Frag) (H : Hp) (v : V) : Prop := (∃ d, Dp K H v d) ∨ ∃ a kvs, v = .ref a ∧ H a = some (.dK kvs)
theorem Th.ty {K : PySem.W.Frag} {H : Hp} {v : V} (h : Th K H v) : ∃ t ∈ tyNames, TyX K H v (.type t) ∧ (t = "int" ↔ (isI v).isSome = true) := by
  rcases h with ⟨d, h⟩ | ⟨a, kvs, rfl, h⟩
  · refine ⟨tyN d, tyN_mem d, Wn.Dp.ty h, ?_⟩
    cases h <;> simp [tyN, isI]
  · exact ⟨"dict", by decide, .base (.dK h), by simp [isI]⟩
theorem Th.sm {K : PySem.W.Frag} {H H' : Hp} {v : V} (h : Th K H v) (s : Same H H') : Th K H' v := by
  rcases h with ⟨d, h⟩ | ⟨a, kvs, rfl, h⟩
  · exact .inl ⟨d, Wn.Dp.sm s h⟩
  · exact .inr ⟨a, kvs, rfl, s _ _ h⟩
theorem Th.dp {K : PySem.W.Frag} {H : Hp} {v : V} {d : PyData} (h : Dp K H v d) : Th K H v := .inl ⟨d, h⟩
theorem Th.any {K : PySem.W.Frag} {H : Hp} {v : V} {d : PyData} (h : AnyAt K H v d) : Th K H v := by
  rcases h with h | ⟨rfl, a, rfl, h⟩
  · exact .inl ⟨d, h⟩
  · exact .inr ⟨a, [], rfl, h⟩
theorem Th.rp {K : PySem.W.Frag} {H : Hp} {v : V} {d : PyData} (h : Rp K H d v) : Th K H v := Th.dp (Rp.dp d v h)
theorem Th.int {K : PySem.W.Frag} {H : Hp} {i : Int} : Th K H (.int i) := .inl ⟨_, .int i⟩
theorem kit_intT {K : PySem.W.Frag} {t : String} (h : t ∈ tyNames) : PySem.W.kitOne K (.type t) (.type "int") = some (decide (t = "int" ∨ t = "bool")) := kit_ty (kitB_int _ h)
theorem kit_boolT {K : PySem.W.Frag} {t : String} (h : t ∈ tyNames) : PySem.W.kitOne K (.type t) (.type "bool") = some (decide (t = "bool")) := kit_ty (kitB_bool _ h)
def fromV (v : V) (lo hi : Int) : Bool := match isI v with
  | some i => decide (lo ≤ i) && decide (i ≤ hi)
  | none => false
theorem isI_some {v : V} (h : (isI v).isSome = true) : ∃ i, v = .int i := by
  cases v <;> simp [isI] at h
  exact ⟨_, rfl⟩
def spWholeT (K : PySem.W.Frag) : Sp := fun vs H Q _ => ∃ v, vs = [v] ∧ Th K H v ∧ Q (.bl (isI v).isSome) H
def spFromT (K : PySem.W.Frag) : Sp := fun vs H Q _ => ∃ (v : V) (lo hi : Int), vs = [v, .int lo, .int hi] ∧ Th K H v ∧ Q (.bl (fromV v lo hi)) H
end Wn

namespace Wn
open PySem L2
/-! ### backward steps over heaps: used by the macros of tools/auto.txt -/
section
variable {K : PySem.W.Frag} {H H' G : Hp} {a b : Addr} {o u : HO} {M : List Addr}
theorem g_same (s : Same H H') (h : H a = some o) : H' a = some o := s _ _ h
theorem g_kp (k : Kp M H H') (n : a ∉ M) (h : H a = some o) : H' a = some o := k _ _ n h
theorem g_tk {xs : List V} (t : TK H H') (h : H a = some (.tup xs)) : H' a = some (.tup xs) := t.1 _ _ h
theorem g_upd (n : b ≠ a) (h : H b = some u) : upd H a o b = some u := (upd_ne n).trans h
theorem n_same (s : Same H H') (h : H' a = none) : H a = none := by
  cases e : H a with
  | none => rfl
  | some o =>
    rw [s _ _ e] at h
    cases h
theorem n_kp (k : Kp M H H') (n : a ∉ M) (h : H' a = none) : H a = none := by
  cases e : H a with
  | none => rfl
  | some o =>
    rw [k _ _ n e] at h
    cases h
theorem n_upd (h : upd H a o b = none) : H b = none := by
  unfold upd at h
  split at h
  · cases h
  · exact h
theorem ne_fr (h : H b = none) (h' : H a = some o) : a ≠ b := ne_of_none h' h
theorem ne_fr' (h : H a = none) (h' : H b = some o) : a ≠ b := (ne_of_none h' h).symm
theorem ne_kd (h : H a = some o) (h' : H b = some u) (d : o ≠ u) : a ≠ b := ne_of h h' d
theorem ne_upd (h : upd H a o b = none) : b ≠ a := by
  intro e
  subst e
  rw [upd_same] at h
  cases h
theorem t_tk (b : TK G H') (a : TK H G) : TK H H' := a.trans b
theorem t_same (b : Same G H') (a : TK H G) : TK H H' := a.trans (TK.of b)
theorem t_new (hp : G a = none) (t : TK H G) : TK H (upd G a o) := t.new hp
theorem t_wr (hp : G a = some u) (hu : Wrt u = true) (t : TK H G) : TK H (upd G a o) := t.wr hp hu
theorem s_same (b : Same G H') (a : Same H G) : Same H H' := a.trans b
theorem s_new (hp : G a = none) (s : Same H G) : Same H (upd G a o) := s.new hp
theorem s_wrn (hp : H a = none) (s : Same H G) : Same H (upd G a o) := s.wrn hp
theorem k_kp (b : Kp M G H') (a : Kp M H G) : Kp M H H' := a.trans b
theorem k_kpm {M' : List Addr} (b : Kp M' G H') (h : ∀ x ∈ M', x ∈ M ∨ H x = none) (a : Kp M H G) : Kp M H H' := fun c o hc e => b c o (fun z => (h c z).elim hc fun n => by rw [n] at e; cases e) (a c o hc e)
theorem k_same (b : Same G H') (a : Kp M H G) : Kp M H H' := a.trans (Kp.of b)
theorem k_new (hp : G a = none) (s : Kp M H G) : Kp M H (upd G a o) := s.new hp
theorem k_wr (hp : a ∈ M) (s : Kp M H G) : Kp M H (upd G a o) := s.wr hp
theorem k_wrn (hp : H a = none) (s : Kp M H G) : Kp M H (upd G a o) := s.wrn hp
theorem am0 : ∀ x ∈ ([] : List Addr), x ∈ M ∨ H x = none := fun x h => by cases h
theorem am1 {N : List Addr} (h : a ∈ M ∨ H a = none) (r : ∀ x ∈ N, x ∈ M ∨ H x = none) : ∀ x ∈ a :: N, x ∈ M ∨ H x = none := fun x z => by
  rcases List.mem_cons.mp z with rfl | z
  · exact h
  · exact r x z
theorem Rp.tk' {d : PyData} {v : V} (h : Rp K H d v) (e : TK H H') : Rp K H' d v := Rp.tk e d v h
theorem RpL.tk' {ds : List PyData} {xs : List V} (h : RpL K H ds xs) (e : TK H H') : RpL K H' ds xs := RpL.tk e ds xs h
theorem nin0 : a ∉ ([] : List Addr) := fun z => by cases z
theorem ninc {N : List Addr} (h : a ≠ b) (r : a ∉ N) : a ∉ b :: N := fun z => by
  rcases List.mem_cons.mp z with z | z
  · exact h z
  · exact r z
/-! ### tests -/
theorem iteP {p : Prop} [Decidable p] {A B : Prop} (h1 : p → A) (h2 : ¬ p → B) : if decide p = true then A else B := by
  by_cases h : p
  · rw [if_pos (decide_eq_true h)]
    exact h1 h
  · rw [if_neg (by rw [decide_eq_false h]; exact Bool.false_ne_true)]
    exact h2 h
theorem iteNP {p : Prop} [Decidable p] {A B : Prop} (h1 : ¬ p → A) (h2 : p → B) : if (!decide p) = true then A else B := by
  by_cases h : p
  · rw [decide_eq_true h]
    exact h2 h
  · rw [decide_eq_false h]
    exact h1 h
theorem iteI {i j : Int} {A B : Prop} (h1 : i = j → A) (h2 : i ≠ j → B) : if decide (V.int i = V.int j) = true then A else B :=
  iteP (fun h => h1 (by injection h)) fun h => h2 fun z => h (by rw [z])
theorem iteNI {i j : Int} {A B : Prop} (h1 : i ≠ j → A) (h2 : i = j → B) : if (!decide (V.int i = V.int j)) = true then A else B :=
  iteNP (fun h => h1 fun z => h (by rw [z])) fun h => h2 (by injection h)
theorem iteS {i j : Str} {A B : Prop} (h1 : i = j → A) (h2 : i ≠ j → B) : if decide (V.str i = V.str j) = true then A else B :=
  iteP (fun h => h1 (by injection h)) fun h => h2 fun z => h (by rw [z])
theorem iteNS' {i j : Str} {A B : Prop} (h1 : i ≠ j → A) (h2 : i = j → B) : if (!decide (V.str i = V.str j)) = true then A else B :=
  iteNP (fun h => h1 fun z => h (by rw [z])) fun h => h2 (by injection h)
theorem iteB {b : Bool} {A B : Prop} (h1 : b = true → A) (h2 : b = false → B) : if b = true then A else B := by
  cases b with
  | true => exact h1 rfl
  | false => exact h2 rfl
theorem dV_int {i j : Int} : decide (V.int i = V.int j) = decide (i = j) := decide_eq_decide.mpr ⟨fun h => by injection h, fun h => by rw [h]⟩
theorem dV_str {i j : Str} : decide (V.str i = V.str j) = decide (i = j) := decide_eq_decide.mpr ⟨fun h => by injection h, fun h => by rw [h]⟩
/-- the item of a list at a number that was drawn -/
theorem at_of {xs : List V} {r : Int} (h0 : 0 ≤ r) (h1 : r < xs.length) : ∃ v, atI xs r = some v ∧ xs[r.toNat]? = some v := by
  have hj : r.toNat < xs.length := by omega
  have e : ((r.toNat : Nat) : Int) = r := by omega
  refine ⟨xs[r.toNat], ?_, List.getElem?_eq_getElem hj⟩
  have := atI_nat (xs := xs) (j := r.toNat) (v := xs[r.toNat]) (List.getElem?_eq_getElem hj)
  rw [e] at this
  exact this
end
end Wn
namespace Wn
open PySem L2
/-- a new thing: the heap behind it by a letter -/
theorem new_any {H : Hp} {p : Addr} {o : HO} (np : H p = none) : ∃ H', H' = upd H p o ∧ Same H H' ∧ H' p = some o := ⟨_, rfl, (L2.Same.refl _).new np, upd_same⟩
/-- a thing is written -/
theorem wr_any {H : Hp} {a : Addr} {o u : HO} (h : H a = some u) (hu : Wrt u = true) : ∃ H', H' = upd H a o ∧ Kp [a] H H' ∧ TK H H' ∧ H' a = some o := ⟨_, rfl, (Kp.refl _ _).wr (List.mem_singleton.mpr rfl), (TK.refl _).wr h hu, upd_same⟩
end Wn
namespace Wn
open PySem L2
/-- if a or b: the body once -/
theorem seq_or {c : TT} {t1 t2 u : TS} {D : Ends} {σ : L2.St} {H : Hp} (R : Hp → Prop) (body : ∀ H', R H' → t1 { D with nx := u D } σ H')
    (h1 : (∀ H', R H' → t1 { D with nx := u D } σ H') → c σ H fun b H1 => if b = true then t1 { D with nx := u D } σ H1 else t2 { D with nx := u D } σ H1) : tSeq (tIfS c t1 t2) u D σ H := h1 body
theorem new_tup {K : PySem.W.Frag} {H H' : Hp} {p : Addr} {vs : List V} {ds : List PyData} (np : H p = none) (e : upd H p (.tup vs) = H') (r : RpL K H ds vs) : Same H H' ∧ Rp K H' (.tuple ds) (.ref p) :=
  have s : Same H (upd H p (.tup vs)) := (L2.Same.refl _).new np
  e ▸ ⟨s, Rp.tup upd_same (RpL.tk (TK.of s) _ _ r)⟩
end Wn
namespace Wn
open PySem L2
/-! the same words under names that the macros' searches don't take -/
def SmB (H H' : Hp) : Prop := Same H H'
def TKB (H H' : Hp) : Prop := TK H H'
def KpB (M : List Addr) (H H' : Hp) : Prop := Kp M H H'
end Wn
namespace Wn
open PySem L2
theorem seq_set {te : TE} {g : TG} {u : TS} {D : Ends} {σ : L2.St} {H : Hp} (h : te σ H fun x H1 => g x σ H1 (u D)) : tSeq (tAsg te g) u D σ H := h
end Wn
namespace Wn
theorem iteYes {p : Prop} [Decidable p] {A B : Prop} (h : p) (a : A) : if decide p = true then A else B := by
  rw [if_pos (decide_eq_true h)]
  exact a
theorem iteNo {p : Prop} [Decidable p] {A B : Prop} (h : ¬ p) (b : B) : if decide p = true then A else B := by
  rw [if_neg (by rw [decide_eq_false h]; exact Bool.false_ne_true)]
  exact b
end Wn
namespace Wn
open PySem L2
theorem while_w {c : TT} {tb : TS} {D : Ends} {σ : L2.St} {H : Hp} (W : Nat → L2.St → Hp → Prop) (h0 : ∃ m, W m σ H)
    (hs : ∀ m σ H, W m σ H → c σ H fun b H1 => if b = true then ∃ N : L2.St → Hp → Prop, (∀ σ' H', N σ' H' → ∃ m', m' < m ∧ W m' σ' H') ∧ tb { D with nx := N, ct := N, bk := D.nx } σ H1 else D.nx σ H1) : tWhile c tb D σ H := ⟨W, h0, hs⟩
end Wn

namespace Wn
open PySem L2
/-! ### comprehensions over data: any target, a test or none, each element data -/
section
variable {K : PySem.W.Frag}
theorem comp_it {J : It} {G : Hp → Prop} {β : Type} {enc : β → PyData} {g : TG} {tt : TT} {te : TE} {is : List Nat} {σ : L2.St} {H2 : Hp} {D : Addr} {xs : List V} {L : List β} {Qd : Hp → Prop} (w : Walk J xs.length G (YAt xs)) (hG : ∀ H', Same H2 H' → G H') (p : β → Bool) (f : β → PyData) (hr : RpL K H2 (L.map enc) xs) (hD : H2 D = none) (hl : L.length ≤ 1000000)
    (hte : ∀ (j : Nat) (b : β) (x : V) (H' : Hp) (Q : VK) (N : Hp → Prop), L[j]? = some b → Rp K H' (enc b) x → Same H2 H' → (p b = true → ∀ (H'' : Hp) (y : V), Same H' H'' → Rp K H'' (f b) y → Q y H'') → (p b = false → ∀ (H'' : Hp), Same H' H'' → N H'') →
      g x (wipe σ is) H' fun σ2 H3 => wipe σ2 is = wipe σ is ∧ tt σ2 H3 fun b' H4 => if b' = true then te σ2 H4 Q else N H4)
    (hd : ∀ (H' : Hp) (ys : List V), Same H2 H' → H' D = some (.lst ys) → RpL K H' ((L.filter p).map f) ys → Qd H') :
    ∃ W : Nat → Nat → Hp → Prop, (∃ m, W 0 m (upd H2 D (.lst []))) ∧ ∀ j m H, W j m H →
      (J.stop j H ∧ Qd H) ∨ (J.go j H ∧ ∃ Nx : Hp → Prop, (∀ H', Nx H' → ∃ m', m' < m ∧ W (j + 1) m' H') ∧ ∀ x H', J.yld j H x H' → g x (wipe σ is) H' fun σ2 H2 => wipe σ2 is = wipe σ is ∧ tt σ2 H2 fun b H3 =>
        if b = true then te σ2 H3 fun y H4 => ∃ acc, H4 D = some (.lst acc) ∧ acc.length < sizeLine ∧ Nx (upd H4 D (.lst (acc ++ [y]))) else Nx H3) := by
  refine lc_it w (fun j H => ∃ ys, Same H2 H ∧ H D = some (.lst ys) ∧ RpL K H (((L.take j).filter p).map f) ys)
    ⟨[], (L2.Same.refl H2).new hD, upd_same, RpL.nil⟩ (fun j H _ ⟨ys, s, _⟩ => hG H s) ?_ ?_
  · rintro j x H3 H3' hj ⟨ys, s3, hD3, hr3⟩ ⟨rfl, hx⟩
    have hlen := RpL.len _ _ hr
    rw [List.length_map] at hlen
    have hj : j < L.length := by omega
    have ej : L[j]? = some L[j] := List.getElem?_eq_getElem hj
    obtain ⟨v, ev, rv⟩ := RpL.get _ _ hr j (enc L[j]) (by rw [List.getElem?_map, ej]; rfl)
    have ex : v = x := Option.some.inj (ev.symm.trans hx)
    rw [ex] at rv
    have rx := Rp.tk (TK.of s3) _ _ rv
    have et : L.take (j + 1) = L.take j ++ [L[j]] := List.take_succ_eq_append_getElem hj
    have ly : ys.length < sizeLine := by
      have h1 := RpL.len _ _ hr3
      rw [List.length_map] at h1
      have h2 := List.length_filter_le p (L.take j)
      rw [List.length_take] at h2
      exact Nat.lt_of_le_of_lt (show ys.length ≤ 1000000 by omega) (by decide)
    refine hte j L[j] x H3' _ _ ej rx s3 (fun hp H4 y s4 ry => ⟨ys, s4 _ _ hD3, ly, ys ++ [y], (s3.trans s4).wrn hD, upd_same, ?_⟩) (fun hp H4 s4 => ⟨ys, s3.trans s4, s4 _ _ hD3, ?_⟩)
    · have tE : TK H4 (upd H4 D (.lst (ys ++ [y]))) := (TK.refl _).wr (s4 _ _ hD3) rfl
      rw [et, List.filter_append, List.filter_cons, hp, List.map_append]
      exact RpL.app (RpL.tk ((TK.of s4).trans tE) _ _ hr3) (RpL.cons (Rp.tk tE _ _ ry) RpL.nil)
    · rw [et, List.filter_append, List.filter_cons, hp]
      simp only [Bool.false_eq_true, if_false, List.filter_nil, List.append_nil]
      exact RpL.tk (TK.of s4) _ _ hr3
  · rintro H3 ⟨ys, s3, hD3, hr3⟩
    have hlen := RpL.len _ _ hr
    rw [hlen, List.length_map, List.take_length] at hr3
    exact hd H3 ys s3 hD3 hr3
/-- over range(..) -/
theorem comp_rg {J : It} {n : Nat} {fv : Nat → V} {g : TG} {tt : TT} {te : TE} {is : List Nat} {σ : L2.St} {H2 : Hp} {D : Addr} {Qd : Hp → Prop} (w : Walk J n (fun _ => True) (YFn fv)) (p : Nat → Bool) (f : Nat → PyData) (hD : H2 D = none) (hl : n ≤ 1000000)
    (hte : ∀ (j : Nat) (H' : Hp) (Q : VK) (N : Hp → Prop), j < n → Same H2 H' → (p j = true → ∀ (H'' : Hp) (y : V), Same H' H'' → Rp K H'' (f j) y → Q y H'') → (p j = false → ∀ (H'' : Hp), Same H' H'' → N H'') →
      g (fv j) (wipe σ is) H' fun σ2 H3 => wipe σ2 is = wipe σ is ∧ tt σ2 H3 fun b' H4 => if b' = true then te σ2 H4 Q else N H4)
    (hd : ∀ (H' : Hp) (ys : List V), Same H2 H' → H' D = some (.lst ys) → RpL K H' (((List.range n).filter p).map f) ys → Qd H') :
    ∃ W : Nat → Nat → Hp → Prop, (∃ m, W 0 m (upd H2 D (.lst []))) ∧ ∀ j m H, W j m H →
      (J.stop j H ∧ Qd H) ∨ (J.go j H ∧ ∃ Nx : Hp → Prop, (∀ H', Nx H' → ∃ m', m' < m ∧ W (j + 1) m' H') ∧ ∀ x H', J.yld j H x H' → g x (wipe σ is) H' fun σ2 H2 => wipe σ2 is = wipe σ is ∧ tt σ2 H2 fun b H3 =>
        if b = true then te σ2 H3 fun y H4 => ∃ acc, H4 D = some (.lst acc) ∧ acc.length < sizeLine ∧ Nx (upd H4 D (.lst (acc ++ [y]))) else Nx H3) := by
  refine lc_it w (fun j H => ∃ ys, Same H2 H ∧ H D = some (.lst ys) ∧ RpL K H (((List.range j).filter p).map f) ys)
    ⟨[], (L2.Same.refl H2).new hD, upd_same, RpL.nil⟩ (fun j H _ _ => trivial) ?_ ?_
  · rintro j x H3 H3' hj ⟨ys, s3, hD3, hr3⟩ ⟨rfl, rfl⟩
    have ly : ys.length < sizeLine := by
      have h1 := RpL.len _ _ hr3
      rw [List.length_map] at h1
      have h2 := List.length_filter_le p (List.range j)
      rw [List.length_range] at h2
      exact Nat.lt_of_le_of_lt (show ys.length ≤ 1000000 by omega) (by decide)
    refine hte j H3' _ _ hj s3 (fun hp H4 y s4 ry => ⟨ys, s4 _ _ hD3, ly, ys ++ [y], (s3.trans s4).wrn hD, upd_same, ?_⟩) (fun hp H4 s4 => ⟨ys, s3.trans s4, s4 _ _ hD3, ?_⟩)
    · have tE : TK H4 (upd H4 D (.lst (ys ++ [y]))) := (TK.refl _).wr (s4 _ _ hD3) rfl
      rw [List.range_succ, List.filter_append, List.filter_cons, hp, List.map_append]
      exact RpL.app (RpL.tk ((TK.of s4).trans tE) _ _ hr3) (RpL.cons (Rp.tk tE _ _ ry) RpL.nil)
    · rw [List.range_succ, List.filter_append, List.filter_cons, hp]
      simp only [Bool.false_eq_true, if_false, List.filter_nil, List.append_nil]
      exact RpL.tk (TK.of s4) _ _ hr3
  · rintro H3 ⟨ys, s3, hD3, hr3⟩
    exact hd H3 ys s3 hD3 hr3
theorem RpL.bools {H : Hp} : ∀ {bs : List Bool} {ys : List V}, RpL K H (bs.map PyData.bool) ys → ys = bs.map V.bl
  | [], ys, h => by
    unfold List.map RpL at h
    exact h
  | n :: ns, ys, h => by
    rw [List.map_cons] at h
    unfold RpL at h
    obtain ⟨v, r, rfl, h1, h2⟩ := h
    unfold Rp at h1
    rw [RpL.bools h2, h1]
    rfl
theorem filter_yes {α : Type} (l : List α) : l.filter (fun _ => true) = l := List.filter_eq_self.mpr fun _ _ => rfl
end
end Wn

namespace Wn
/-! ### fars over roads, in plain numbers -/
structure Rd where
  a : Nat
  b : Nat
  delay : Nat
  size : Nat
  deriving DecidableEq
abbrev Mx := Nat → Nat → Nat
/-- what a road that is up gives a house -/
def near1 (h : Nat) (p : Rd × Bool) : List (Nat × Nat) := if p.2 then (if p.1.a = h then [(p.1.b, p.1.delay)] else []) ++ (if p.1.b = h then [(p.1.a, p.1.delay)] else []) else []
def nearOf (rs : List (Rd × Bool)) (h : Nat) : List (Nat × Nat) := rs.flatMap (near1 h)
def minL (l : List Nat) : Nat := l.foldr min 24
theorem minL_le24 : ∀ l : List Nat, minL l ≤ 24
  | [] => Nat.le_refl _
  | x :: l => by
    show min x (minL l) ≤ 24
    have := minL_le24 l
    omega
theorem minL_le : ∀ {l : List Nat} {x : Nat}, x ∈ l → minL l ≤ x
  | y :: l, x, h => by
    show min y (minL l) ≤ x
    rcases List.mem_cons.mp h with rfl | h
    · omega
    · have := minL_le h
      omega
theorem minL_mem : ∀ l : List Nat, minL l = 24 ∨ minL l ∈ l
  | [] => .inl rfl
  | x :: l => by
    show min x (minL l) = 24 ∨ min x (minL l) ∈ x :: l
    by_cases h : x ≤ minL l
    · rw [Nat.min_eq_left h]
      exact .inr List.mem_cons_self
    · rw [Nat.min_eq_right (by omega)]
      exact (minL_mem l).imp id (List.mem_cons_of_mem _)
theorem minL_ge {l : List Nat} {k : Nat} (h24 : k ≤ 24) (h : ∀ x ∈ l, k ≤ x) : k ≤ minL l := by
  rcases minL_mem l with e | e
  · omega
  · exact h _ e
def turn (rs : List (Rd × Bool)) (X : Mx) : Mx := fun h o => if o = h then 0 else minL ((nearOf rs h).map fun p => p.2 + X p.1 o)
/-- roads among m houses, with delays -/
def RoadsIn (m : Nat) (rs : List (Rd × Bool)) : Prop := ∀ p ∈ rs, p.1.a < p.1.b ∧ p.1.b < m ∧ 1 ≤ p.1.delay ∧ p.1.delay ≤ 2
theorem near_in {m : Nat} {rs : List (Rd × Bool)} (R : RoadsIn m rs) {h : Nat} {p : Nat × Nat} (hp : p ∈ nearOf rs h) : p.1 < m ∧ 1 ≤ p.2 ∧ p.2 ≤ 2 ∧ p.1 ≠ h := by
  unfold nearOf at hp
  obtain ⟨q, hq, h2⟩ := List.mem_flatMap.mp hp
  have r := R q hq
  unfold near1 at h2
  split at h2
  · rcases List.mem_append.mp h2 with h2 | h2
    · split at h2
      · rw [List.mem_singleton] at h2
        subst h2
        exact ⟨r.2.1, r.2.2.1, r.2.2.2, by simp only; omega⟩
      · cases h2
    · split at h2
      · rw [List.mem_singleton] at h2
        subst h2
        exact ⟨by simp only; omega, r.2.2.1, r.2.2.2, by simp only; omega⟩
      · cases h2
  · cases h2
def MLe (m : Nat) (X Y : Mx) : Prop := ∀ h, h < m → ∀ o, o < m → X h o ≤ Y h o
def MEq (m : Nat) (X Y : Mx) : Prop := ∀ h, h < m → ∀ o, o < m → X h o = Y h o
section
variable {m : Nat} {rs : List (Rd × Bool)} {X Y : Mx}
theorem turn_le24 (h o : Nat) : turn rs X h o ≤ 24 := by
  unfold turn
  split
  · exact Nat.zero_le _
  · exact minL_le24 _
theorem turn_near {h o t d : Nat} (hp : (t, d) ∈ nearOf rs h) (ne : o ≠ h) : turn rs X h o ≤ d + X t o := by
  unfold turn
  rw [if_neg ne]
  exact minL_le (List.mem_map.mpr ⟨(t, d), hp, rfl⟩)
theorem turn_mono (R : RoadsIn m rs) (h : MLe m X Y) : MLe m (turn rs X) (turn rs Y) := by
  intro a ha o ho
  unfold turn
  split
  · exact Nat.le_refl _
  · refine minL_ge (minL_le24 _) fun x hx => ?_
    obtain ⟨p, hp, rfl⟩ := List.mem_map.mp hx
    have h1 := h p.1 (near_in R hp).1 o ho
    have h2 : minL ((nearOf rs a).map fun p => p.2 + X p.1 o) ≤ p.2 + X p.1 o := minL_le (List.mem_map.mpr ⟨p, hp, rfl⟩)
    omega
theorem turn_congr (R : RoadsIn m rs) (h : MEq m X Y) : MEq m (turn rs X) (turn rs Y) := fun a ha o ho =>
  Nat.le_antisymm (turn_mono R (fun a ha o ho => Nat.le_of_eq (h a ha o ho)) a ha o ho) (turn_mono R (fun a ha o ho => Nat.le_of_eq (h a ha o ho).symm) a ha o ho)
def Fixed (m : Nat) (rs : List (Rd × Bool)) (X : Mx) : Prop := MEq m X (turn rs X)
theorem Fixed.le24 (F : Fixed m rs X) {h o : Nat} (hh : h < m) (ho : o < m) : X h o ≤ 24 := by
  rw [F h hh o ho]
  exact turn_le24 h o
theorem Fixed.self (F : Fixed m rs X) {h : Nat} (hh : h < m) : X h h = 0 := by
  rw [F h hh h hh]
  unfold turn
  rw [if_pos rfl]
/-- a far below 24 goes over a neighbour -/
theorem Fixed.step (R : RoadsIn m rs) (F : Fixed m rs X) {h o : Nat} (hh : h < m) (ho : o < m) (ne : o ≠ h) (hl : X h o < 24) : ∃ t d, (t, d) ∈ nearOf rs h ∧ t < m ∧ 1 ≤ d ∧ X h o = d + X t o := by
  have e := F h hh o ho
  unfold turn at e
  rw [if_neg ne] at e
  rcases minL_mem ((nearOf rs h).map fun p => p.2 + X p.1 o) with q | q
  · omega
  · obtain ⟨p, hp, q2⟩ := List.mem_map.mp q
    have := near_in R hp
    exact ⟨p.1, p.2, hp, this.1, this.2.1, by omega⟩
/-- where W is at most the turn of itself, it is at most any fixed one -/
theorem post_le (R : RoadsIn m rs) (F : Fixed m rs X) {W : Mx} (h24 : ∀ h, h < m → ∀ o, o < m → W h o ≤ 24) (h0 : ∀ h, h < m → W h h = 0) (hW : ∀ h, h < m → ∀ o, o < m → ∀ t d, (t, d) ∈ nearOf rs h → W h o ≤ d + W t o) : MLe m W X := by
  have key : ∀ v h o, h < m → o < m → X h o = v → W h o ≤ v := by
    intro v
    induction v using Nat.strongRecOn with
    | ind v ih =>
      intro h o hh ho e
      by_cases ne : o = h
      · subst ne
        rw [h0 o ho]
        exact Nat.zero_le _
      · by_cases hl : v < 24
        · obtain ⟨t, d, hp, ht, hd, e2⟩ := F.step R hh ho ne (by omega)
          have := ih (X t o) (by omega) t o ht ho rfl
          have := hW h hh o ho t d hp
          omega
        · have := h24 h hh o ho
          omega
  exact fun h hh o ho => key _ h o hh ho rfl
theorem fixed_le (R : RoadsIn m rs) (F : Fixed m rs X) (G : Fixed m rs Y) : MLe m Y X := by
  refine post_le R F (fun h hh o ho => G.le24 hh ho) (fun h hh => G.self hh) fun h hh o ho t d hp => ?_
  by_cases ne : o = h
  · subst ne
    rw [G.self ho]
    exact Nat.zero_le _
  · rw [G h hh o ho]
    exact turn_near hp ne
theorem fixed_one (R : RoadsIn m rs) (F : Fixed m rs X) (G : Fixed m rs Y) : MEq m X Y := fun h hh o ho => Nat.le_antisymm (fixed_le R G F h hh o ho) (fixed_le R F G h hh o ho)
/-- a fixed one keeps the triangle -/
theorem Fixed.tri (R : RoadsIn m rs) (F : Fixed m rs X) {k b : Nat} (hk : k < m) (hb : b < m) : ∀ a, a < m → X a b ≤ X a k + X k b := by
  have key : ∀ v a, a < m → X a k = v → X a b ≤ v + X k b := by
    intro v
    induction v using Nat.strongRecOn with
    | ind v ih =>
      intro a ha e
      by_cases ne : k = a
      · subst ne
        omega
      · by_cases hl : v < 24
        · obtain ⟨t, d, hp, ht, hd, e2⟩ := F.step R ha hk ne (by omega)
          have h1 := ih (X t k) (by omega) t ht rfl
          by_cases nb : b = a
          · subst nb
            rw [F.self hb]
            exact Nat.zero_le _
          · have h2 := F a ha b hb
            have h3 := turn_near (X := X) hp nb
            omega
        · have := F.le24 ha hb
          omega
  exact fun a ha => key _ a ha rfl
/-- the way from the top -/
def topM : Mx := fun h o => if h = o then 0 else 24
def sumM (m : Nat) (X : Mx) : Nat := ((List.range m).map fun h => ((List.range m).map fun o => X h o).sum).sum
theorem turn_top : MLe m (turn rs topM) topM := by
  intro h hh o ho
  unfold topM
  by_cases e : h = o
  · subst e
    unfold turn
    rw [if_pos rfl]
    exact Nat.zero_le _
  · rw [if_neg e]
    exact turn_le24 h o
theorem sum_le {l : List Nat} {f g : Nat → Nat} (h : ∀ x ∈ l, f x ≤ g x) : (l.map f).sum ≤ (l.map g).sum := by
  induction l with
  | nil => exact Nat.le_refl _
  | cons x l ih =>
    rw [List.map_cons, List.map_cons, List.sum_cons, List.sum_cons]
    have h1 := h x List.mem_cons_self
    have h2 := ih fun y hy => h y (List.mem_cons_of_mem _ hy)
    omega
theorem sum_lt {l : List Nat} {f g : Nat → Nat} (h : ∀ x ∈ l, f x ≤ g x) {y : Nat} (hy : y ∈ l) (hl : f y < g y) : (l.map f).sum < (l.map g).sum := by
  induction l with
  | nil => cases hy
  | cons x l ih =>
    rw [List.map_cons, List.map_cons, List.sum_cons, List.sum_cons]
    have h1 := h x List.mem_cons_self
    rcases List.mem_cons.mp hy with rfl | hy
    · have h2 := sum_le (l := l) fun z hz => h z (List.mem_cons_of_mem _ hz)
      omega
    · have h2 := ih (fun z hz => h z (List.mem_cons_of_mem _ hz)) hy
      omega
theorem sumM_lt (h : MLe m X Y) (ne : ¬ MEq m X Y) : sumM m X < sumM m Y := by
  have ⟨a, ha, o, ho, hl⟩ : ∃ a, a < m ∧ ∃ o, o < m ∧ X a o < Y a o := by
    apply Classical.byContradiction
    intro hn
    refine ne fun a ha o ho => Nat.le_antisymm (h a ha o ho) ?_
    apply Classical.byContradiction
    intro hx
    exact hn ⟨a, ha, o, ho, by omega⟩
  unfold sumM
  refine sum_lt (fun x hx => sum_le fun y hy => h x (List.mem_range.mp hx) y (List.mem_range.mp hy)) (List.mem_range.mpr ha) ?_
  exact sum_lt (fun y hy => h a ha y (List.mem_range.mp hy)) (List.mem_range.mpr ho) hl
/-! ### by middle houses -/
def initM (rs : List (Rd × Bool)) : Mx := fun a b => if a = b then 0 else minL ((nearOf rs a).filterMap fun p => if p.1 = b then some p.2 else none)
def viaM (k : Nat) (W : Mx) : Mx := fun a b => min (W a b) (W a k + W k b)
def fwM (rs : List (Rd × Bool)) : Nat → Mx
  | 0 => initM rs
  | k + 1 => viaM k (fwM rs k)
theorem fw_self : ∀ k a, fwM rs k a a = 0
  | 0, a => by
    show initM rs a a = 0
    unfold initM
    rw [if_pos rfl]
  | k + 1, a => by
    show min (fwM rs k a a) _ = 0
    rw [fw_self k a]
    omega
theorem fw_anti : ∀ k a b, fwM rs (k + 1) a b ≤ fwM rs k a b := fun k a b => by
  show min (fwM rs k a b) _ ≤ _
  exact Nat.min_le_left _ _
theorem fw_le_init : ∀ k a b, fwM rs k a b ≤ initM rs a b
  | 0, a, b => Nat.le_refl _
  | k + 1, a, b => Nat.le_trans (fw_anti k a b) (fw_le_init k a b)
theorem fw_closed : ∀ k j, j < k → ∀ a b, fwM rs k a b ≤ fwM rs k a j + fwM rs k j b
  | k + 1, j, hj, a, b => by
    have e : ∀ a b, fwM rs (k + 1) a b = min (fwM rs k a b) (fwM rs k a k + fwM rs k k b) := fun a b => rfl
    have hk := fw_self (rs := rs) k k
    rw [e a b, e a j, e j b]
    by_cases ej : j = k
    · subst ej
      rw [hk]
      omega
    · have ih := fw_closed k j (by omega)
      have h1 := ih a b
      have h2 := ih k b
      have h3 := ih a k
      omega
theorem fw_ge (R : RoadsIn m rs) (F : Fixed m rs X) : ∀ k, k ≤ m → MLe m X (fwM rs k)
  | 0, _ => by
    intro a ha b hb
    show X a b ≤ initM rs a b
    unfold initM
    by_cases e : a = b
    · subst e
      rw [F.self ha]
      exact Nat.zero_le _
    · rw [if_neg e]
      refine minL_ge (F.le24 ha hb) fun x hx => ?_
      obtain ⟨p, hp, h2⟩ := List.mem_filterMap.mp hx
      split at h2
      · rename_i e2
        have : p.2 = x := Option.some.inj h2
        subst this
        have h3 := F a ha b hb
        have h4 := turn_near (X := X) (o := b) hp (fun z => e z.symm)
        have h5 := F.self (h := p.1) (by rw [e2]; exact hb)
        rw [e2] at h4 h5
        omega
      · cases h2
  | k + 1, hk => by
    intro a ha b hb
    have ih := fw_ge R F k (by omega)
    show X a b ≤ min (fwM rs k a b) (fwM rs k a k + fwM rs k k b)
    have h1 := ih a ha b hb
    have h2 := ih a ha k (by omega)
    have h3 := ih k (by omega) b hb
    have h4 := F.tri R (show k < m by omega) hb a ha
    omega
theorem fw_fixed (R : RoadsIn m rs) (F : Fixed m rs X) : MEq m X (fwM rs m) := by
  refine fun a ha b hb => Nat.le_antisymm (fw_ge R F m (Nat.le_refl _) a ha b hb) (post_le R F (fun h hh o ho => ?_) (fun h _ => fw_self m h) (fun h hh o ho t d hp => ?_) a ha b hb)
  · refine Nat.le_trans (fw_le_init m h o) ?_
    unfold initM
    split
    · exact Nat.zero_le _
    · exact minL_le24 _
  · have n := near_in R hp
    have h1 := fw_closed (rs := rs) m t n.1 h o
    have h2 := fw_le_init (rs := rs) m h t
    have h3 : initM rs h t ≤ d := by
      unfold initM
      rw [if_neg (fun z => n.2.2.2 z.symm)]
      exact minL_le (List.mem_filterMap.mpr ⟨(t, d), hp, if_pos rfl⟩)
    omega
end
end Wn

namespace Wn
open PySem L2
/-! ### roads, in plain numbers -/
def rdD (r : Rd) : PyData := .tuple [.int r.a, .int r.b, .int r.delay, .int r.size]
def RdOk (m : Nat) (r : Rd) : Prop := r.a < r.b ∧ r.b < m ∧ 1 ≤ r.delay ∧ r.delay ≤ 2 ∧ 16 ≤ r.size ∧ r.size ≤ 80
def rdLt (r s : Rd) : Prop := r.a < s.a ∨ (r.a = s.a ∧ r.b < s.b)
structure RdsOk (m : Nat) (rs : List Rd) : Prop where
  m1 : 1 ≤ m
  m8 : m ≤ 8
  few : rs.length ≤ 14
  ok : ∀ r ∈ rs, RdOk m r
  up : rs.Pairwise rdLt
structure Lan where
  m : Nat
  rs : List Rd
  fallen : List (Nat × Nat)
def pk (p : Nat × Nat) : List Key := [Sum.inl (p.1 : Int), Sum.inl (p.2 : Int)]
def fkv (fs : List (Nat × Nat)) : List (List Key × V) := fs.map fun p => (pk p, V.bl true)
theorem pk_inj {p q : Nat × Nat} (h : pk p = pk q) : p = q := by
  unfold pk at h
  injection h with h1 h2
  injection h2 with h2 _
  injection h1 with h1
  injection h2 with h2
  exact Prod.ext (by omega) (by omega)
theorem fkv_val (p : Nat × Nat) : ∀ fs : List (Nat × Nat), valV (fkv fs) (pk p) = if p ∈ fs then some (V.bl true) else none
  | [] => rfl
  | q :: fs => by
    show valV ((pk q, V.bl true) :: fkv fs) (pk p) = _
    by_cases e : q = p
    · subst e
      rw [valV_pos rfl, if_pos List.mem_cons_self]
    · rw [valV_neg (p := (pk q, V.bl true)) (fun z => e (pk_inj z)), fkv_val p fs]
      by_cases h : p ∈ fs
      · rw [if_pos h, if_pos (List.mem_cons_of_mem _ h)]
      · rw [if_neg h, if_neg (fun z => by
          rcases List.mem_cons.mp z with z | z
          · exact e z.symm
          · exact h z)]
theorem fkv_some (p : Nat × Nat) (fs : List (Nat × Nat)) : (valV (fkv fs) (pk p)).isSome = decide (p ∈ fs) := by
  rw [fkv_val]
  by_cases h : p ∈ fs
  · rw [if_pos h, decide_eq_true h]
    rfl
  · rw [if_neg h, decide_eq_false h]
    rfl
theorem fkv_put {p : Nat × Nat} {fs : List (Nat × Nat)} (h : p ∉ fs) : putK (fkv fs) (pk p) (V.bl true) = fkv (fs ++ [p]) := by
  unfold putK
  have e : ((fkv fs).any fun kv => decide (kv.1 = pk p)) = false := by
    rw [Bool.eq_false_iff]
    intro z
    obtain ⟨kv, hk, hd⟩ := List.any_eq_true.mp z
    obtain ⟨q, hq, rfl⟩ := List.mem_map.mp hk
    exact h (pk_inj (of_decide_eq_true hd) ▸ hq)
  rw [e]
  unfold fkv
  rw [List.map_append]
  rfl
theorem fkv_drop (p : Nat × Nat) (fs : List (Nat × Nat)) : dropK (fkv fs) (pk p) = fkv (fs.filter fun q => decide (q ≠ p)) := by
  unfold dropK fkv
  rw [List.filter_map]
  congr 1
  refine List.filter_congr fun q hq => ?_
  show decide (pk q ≠ pk p) = decide (q ≠ p)
  exact decide_eq_decide.mpr ⟨fun h z => h (by rw [z]), fun h z => h (pk_inj z)⟩
def upOf (L : Lan) : List Bool := L.rs.map fun r => !decide ((r.a, r.b) ∈ L.fallen)
/-- the road of two numbers -/
def pairOf (rs : List Rd) (x y : Int) : Option (Nat × Nat) := (rs.find? fun r => decide ((((r.a : Int) = x ∧ (r.b : Int) = y) ∨ ((r.a : Int) = y ∧ (r.b : Int) = x)))).map fun r => (r.a, r.b)
/-- where roads that are up lead from a house -/
def nbr1 (L : Lan) (h : Nat) (r : Rd) : Option (Nat × Nat × Nat) := if (h = r.a ∨ h = r.b) ∧ (r.a, r.b) ∉ L.fallen then some (r.a + r.b - h, r.delay, r.size) else none
def nbrs (L : Lan) (h : Nat) : List (Nat × Nat × Nat) := L.rs.filterMap (nbr1 L h)
def nbD (t : Nat × Nat × Nat) : PyData := .tuple [.int t.1, .int t.2.1, .int t.2.2]
theorem nbrs_up {m : Nat} {L : Lan} (R : RdsOk m L.rs) (h : Nat) : ((nbrs L h).map (·.1)).Pairwise (· < ·) := by
  unfold nbrs
  have ok := R.ok
  have up := R.up
  generalize L.rs = rs at ok up
  induction rs with
  | nil => exact List.Pairwise.nil
  | cons r rs ih =>
    rw [List.pairwise_cons] at up
    have ih := ih (fun x hx => ok x (List.mem_cons_of_mem _ hx)) up.2
    rw [List.filterMap_cons]
    unfold nbr1 at ih ⊢
    split
    · exact ih
    · rename_i t e
      split at e
      · rename_i hc
        cases e
        rw [List.map_cons, List.pairwise_cons]
        refine ⟨fun y hy => ?_, ih⟩
        obtain ⟨q, hq, rfl⟩ := List.mem_map.mp hy
        obtain ⟨r2, hr2, e2⟩ := List.mem_filterMap.mp hq
        split at e2
        · rename_i hc2
          cases e2
          have o1 := ok r List.mem_cons_self
          have o2 := ok r2 (List.mem_cons_of_mem _ hr2)
          have lt := up.1 r2 hr2
          unfold RdOk at o1 o2
          unfold rdLt at lt
          show r.a + r.b - h < r2.a + r2.b - h
          omega
        · cases e2
      · cases e
theorem nbr_bd {m : Nat} {L : Lan} (R : RdsOk m L.rs) {h : Nat} {t : Nat × Nat × Nat} (ht : t ∈ nbrs L h) : t.1 < 8 ∧ 1 ≤ t.2.1 ∧ t.2.1 ≤ 2 ∧ 16 ≤ t.2.2 ∧ t.2.2 ≤ 80 ∧ t.1 < m ∧ t.1 ≠ h := by
  obtain ⟨r, hr, e⟩ := List.mem_filterMap.mp ht
  have o := R.ok r hr
  have m8 := R.m8
  unfold nbr1 at e
  unfold RdOk at o
  split at e
  · rename_i hc
    cases e
    show r.a + r.b - h < 8 ∧ 1 ≤ r.delay ∧ r.delay ≤ 2 ∧ 16 ≤ r.size ∧ r.size ≤ 80 ∧ r.a + r.b - h < m ∧ r.a + r.b - h ≠ h
    omega
  · cases e
theorem Rp.rd {K : PySem.W.Frag} {H : Hp} {r : Rd} {v : V} (h : Rp K H (rdD r) v) : ∃ t, v = .ref t ∧ SqT K H t [.int r.a, .int r.b, .int r.delay, .int r.size] := by
  unfold rdD Rp at h
  obtain ⟨t, ys, rfl, ht, ry⟩ := h
  unfold RpL at ry
  obtain ⟨v0, r0, rfl, h0, ry⟩ := ry
  unfold RpL at ry
  obtain ⟨v1, r1, rfl, h1, ry⟩ := ry
  unfold RpL at ry
  obtain ⟨v2, r2, rfl, h2, ry⟩ := ry
  unfold RpL at ry
  obtain ⟨v3, r3, rfl, h3, ry⟩ := ry
  unfold RpL at ry
  subst ry
  rw [Rp.int_eq h0, Rp.int_eq h1, Rp.int_eq h2, Rp.int_eq h3] at ht
  exact ⟨t, rfl, ht⟩
end Wn

namespace Wn
open PySem L2 PySem.Spec PyProof.Rows
section
variable {X : Cx} {K : PySem.W.Frag}
theorem slA (hK : X.K = K) : SlR X (rSlA K) := hK ▸ sl_tupA
theorem opCatA (hK : X.K = K) : OpR X (binaryOp .Add) (rCatA K) := hK ▸ op_catA
/-- x in a tuple of data -/
def rInDT (K : PySem.W.Frag) : R2 := fun x y H Q => ∃ d ds, Dp K H x d ∧ Dp K H y (.tuple ds) ∧ SeqAt.shaped d = true ∧ SeqAt.shaped (.tuple ds) = true ∧ Q (.bl (ds.any fun z => PyData.eqv z d)) H
def rNotInDT (K : PySem.W.Frag) : R2 := fun x y H Q => ∃ d ds, Dp K H x d ∧ Dp K H y (.tuple ds) ∧ SeqAt.shaped d = true ∧ SeqAt.shaped (.tuple ds) = true ∧ Q (.bl (!ds.any fun z => PyData.eqv z d)) H
theorem room_inT {A : Around} {d : PyData} {xs : List PyData} (h : SeqAt.shaped d = true) (hu : A.units + 65 < cLine) : A.units + 1 + min (PyData.depthAll xs) d.depth < cLine := by
  have h1 := SeqAt.depth_of_shaped h
  have h2 : min (PyData.depthAll xs) d.depth ≤ d.depth := Nat.min_le_right _ _
  omega
theorem op_inDT (hu : X.A.units + 65 < cLine) : OpR X (compareOp .In) (rInDT X.K) := by
  intro pins s σ H x y v u Q I rx ry h
  obtain ⟨d, ds, hd, he, sd, se, q⟩ := h
  obtain ⟨as, r1⟩ := Dp.reads I d x v hd rx
  obtain ⟨bs, r2⟩ := Dp.reads I (.tuple ds) y u he ry
  exact SeqAt.in_tuple_reads r2 r1 (SeqAt.canLay_of_shaped se) (SeqAt.canLay_of_shaped sd) (room_inT sd hu) ⟨.bl _, H, I, rfl, q⟩
theorem op_notInDT (hu : X.A.units + 65 < cLine) : OpR X (compareOp .NotIn) (rNotInDT X.K) := by
  intro pins s σ H x y v u Q I rx ry h
  obtain ⟨d, ds, hd, he, sd, se, q⟩ := h
  obtain ⟨as, r1⟩ := Dp.reads I d x v hd rx
  obtain ⟨bs, r2⟩ := Dp.reads I (.tuple ds) y u he ry
  exact SeqAt.notIn_tuple_reads r2 r1 (SeqAt.canLay_of_shaped se) (SeqAt.canLay_of_shaped sd) (room_inT sd hu) ⟨.bl _, H, I, rfl, q⟩
theorem inDTK (hK : X.K = K) (hu : X.A.units + 65 < cLine) : OpR X (compareOp .In) (rInDT K) := hK ▸ op_inDT hu
theorem notInDTK (hK : X.K = K) (hu : X.A.units + 65 < cLine) : OpR X (compareOp .NotIn) (rNotInDT K) := hK ▸ op_notInDT hu
theorem room65 {k : Nat} {A : Around} (r : Room k A) : A.units + 65 < cLine := by have := r.un; omega
end
end Wn

namespace Wn
open PySem L2 PySem.Spec PyProof.Rows
/-! ### t >= u of tuples of ints -/
def lexGe (ns ms : List Int) : Bool := Ob.lexAt (fun j => decide (ns.getD j 0 = ms.getD j 0)) (fun j => decide (ms.getD j 0 ≤ ns.getD j 0)) (decide (ns.length ≥ ms.length)) 0 (min ns.length ms.length)
def rGeT (K : PySem.W.Frag) : R2 := fun x y H Q => ∃ (a b : Addr) (ns ms : List Int), x = .ref a ∧ y = .ref b ∧ SqT K H a (ns.map V.int) ∧ SqT K H b (ms.map V.int) ∧ Q (.bl (lexGe ns ms)) H
theorem op_geT {X : Cx} (hu : X.A.units < cLine) : OpR X (compareOp .GtE) (rGeT X.K) := by
  intro pins s σ H x y v u Q I rx ry h
  obtain ⟨a, b, ns, ms, rfl, rfl, ha, hb, q⟩ := h
  cases rx
  cases ry
  obtain ⟨its, r1, p1, _⟩ := I.tuple ha
  obtain ⟨its2, r2, p2, _⟩ := I.tuple hb
  have i1 : IntsAre its ns := Vals.ints r1
  have i2 : IntsAre its2 ms := Vals.ints r2
  have e1 : its.toArray.size = ns.length := by rw [List.size_toArray]; exact i1.length
  have e2 : its2.toArray.size = ms.length := by rw [List.size_toArray]; exact i2.length
  have at1 : ∀ j (h1 : j < its.toArray.size), ∃ t, its.toArray[j] = .int (ns.getD j 0) t := fun j h1 => PyProof.Rows.IntsAre.int_at i1 _ _ (by simp at h1; simp [h1])
  have at2 : ∀ j (h1 : j < its2.toArray.size), ∃ t, its2.toArray[j] = .int (ms.getD j 0) t := fun j h1 => PyProof.Rows.IntsAre.int_at i2 _ _ (by simp at h1; simp [h1])
  have R := Ob.RcOp.tuples_ge (A := X.A) (s := s) (e := fun j => decide (ns.getD j 0 = ms.getD j 0)) (r := fun j => decide (ms.getD j 0 ≤ ns.getD j 0)) p1 p2 hu (fun j h1 h2 => by
    obtain ⟨t, et⟩ := at1 j h1
    obtain ⟨t', et'⟩ := at2 j h2
    rw [et, et']
    have z : (ns.getD j 0 == ms.getD j 0) = decide (ns.getD j 0 = ms.getD j 0) := by
      by_cases q : ns.getD j 0 = ms.getD j 0
      · rw [decide_eq_true q]; exact beq_iff_eq.mpr q
      · rw [decide_eq_false q]; exact beq_eq_false_iff_ne.mpr q
    rw [← z]
    exact SeqAt.EqAt.int_int _ _ _ _) (fun j h1 h2 _ => by
    obtain ⟨t, et⟩ := at1 j h1
    obtain ⟨t', et'⟩ := at2 j h2
    rw [et, et']
    exact Ob.RcOp.ge_int _ _ _ _)
  rw [e1, e2] at R
  have z : wpAny (model X.prog X.w) X.A (compareOp .GtE (.ref a) (.ref b)) (EP X pins σ Q) X.xe s := R X.prog X.w X.xe (EP X pins σ Q) ⟨.bl _, H, I, rfl, q⟩
  exact z
theorem geTK {X : Cx} {K : PySem.W.Frag} (hK : X.K = K) (hu : X.A.units < cLine) : OpR X (compareOp .GtE) (rGeT K) := hK ▸ op_geT hu
/-- of two pairs -/
theorem lexGe2 (a b c d : Int) : lexGe [a, b] [c, d] = decide (c < a ∨ (a = c ∧ d ≤ b)) := by
  unfold lexGe
  show (if decide (a = c) = true then (if decide (b = d) = true then decide ((2 : Nat) ≥ 2) else decide (d ≤ b)) else decide (c ≤ a)) = _
  by_cases h : a = c
  · by_cases h2 : b = d
    · simp [h, h2]
    · simp [h, h2]
  · have e : (c < a ∨ (a = c ∧ d ≤ b)) ↔ c ≤ a := by omega
    simp only [decide_eq_false h, Bool.false_eq_true, if_false]
    exact decide_eq_decide.mpr e.symm
/-! ### min(xs), xs a list of tuples of ints -/
section
variable {prog : Program} {w : World} {A : Around} {R : Result → Shared → Prop} {I : Addr} {fp wr : List Addr} {n : Nat} {P : Nat → Value → Prop} {St : Nat → Heap → Prop}
/-- as CmpOf, where the walk stands -/
def CmpIn (prog : Program) (w : World) (A : Around) (op : CmpOp) (P : Nat → Value → Prop) (St : Nat → Heap → Prop) (bt : Nat → Nat → Bool) : Prop :=
  ∀ k i j vi vj (s : Shared) (Q : Value → Shared → Prop) (E : Value → Shared → Prop), St k s.heap → P i vi → P j vj → Q (.bool (bt i j)) s → wpAny (model prog w) A (richCompare op vi vj) Q E s
theorem minT_loop (W : Walks prog w A.in1 I fp wr n P St) (bt : Nat → Nat → Bool) (hcmp : CmpIn prog w A.in1 .Lt P St bt) (S : Addr) (hSf : S ∉ fp) :
    ∀ (k j : Nat) (s : Shared) (vb : Value) (c : Nat), n - (j + 1) = k → j + 1 ≤ n → St (j + 1) s.heap → P (argBest bt j) vb →
    s.heap.get? S = some { cls := .type "list", dict := none, data := .seq #[vb, vb] c, slots := #[] } →
    (∀ v h' tk, P (argBest bt (n - 1)) v → (∀ b o, b ∉ wr → b ≠ S → s.heap.get? b = some o → h'.get? b = some o) → R (.ok (.ret v)) { s with heap := h', toks := tk }) →
    codeAny (model prog w) A (.builtin "min.loop" ⟨[.ref I, .none, .ref S], []⟩) R s := by
  have hSw : S ∉ wr := fun h => hSf (W.sub _ h)
  have hname : (toString "min" ++ toString ".loop" : String) = "min.loop" := by decide
  intro k
  induction k with
  | zero =>
    intro j s vb c hk hj hst hPb hS hR
    have hin : j + 1 = n := by omega
    refine codeAny_builtin F.entry_min_loop ?_
    rw [Around.under_plainId F.plain_min_loop _]
    show wpAny _ A.in1 (seqItems? (.ref S) >>= _) _ _ s
    refine wpAny_bind (wpAny_seqItems hS rfl ?_)
    show wpAny _ A.in1 (tryCatch (pyNext (.ref I)) _ >>= _) _ _ s
    refine wpAny_bind (wpAny_tryCatch (W.done s _ _ (hin ▸ hst) fun h' tk hk' => ?_))
    have hS' := hk' S _ hSw hS
    show wpAny _ A.in1 (updateSeq S (fun _ => #[]) >>= _) _ _ _
    refine wpAny_bind ?_
    refine wpAny_updateSeq hS' rfl (wpAny_bind (wpAny_letGo (wpAny_pure ?_)))
    exact hR vb _ tk (by rw [← hin]; exact hPb) fun b o hbw hbS e => (Heap.get?_update_other _ _ (Ne.symm hbS)).trans (hk' b o hbw e)
  | succ k ih =>
    intro j s vb c hk hj hst hPb hS hR
    have hlt : j + 1 < n := by omega
    refine codeAny_builtin F.entry_min_loop ?_
    rw [Around.under_plainId F.plain_min_loop _]
    show wpAny _ A.in1 (seqItems? (.ref S) >>= _) _ _ s
    refine wpAny_bind (wpAny_seqItems hS rfl ?_)
    show wpAny _ A.in1 (tryCatch (pyNext (.ref I)) _ >>= _) _ _ s
    refine wpAny_bind (wpAny_tryCatch (W.item (j + 1) s _ _ hlt hst fun v h' tk hP hst' hk' => ?_))
    have hS' := hk' S _ hSw hS
    show wpAny _ A.in1 (tryCatch (holding [v, v] (richCompare .Lt v vb >>= _)) _ >>= _) _ _ _
    refine wpAny_bind (wpAny_tryCatch (wpAny_holding (wpAny_bind (hcmp (j + 2) (j + 1) (argBest bt j) v vb _ _ _ hst' hP hPb ?_))))
    refine wpAny_bind (wpAny_holding (wpAny_truthy_bool ?_))
    refine wpAny_bind (wpAny_letGo (wpAny_pure ?_))
    cases hb : bt (j + 1) (argBest bt j) with
    | true =>
      simp only [if_true]
      refine wpAny_bind ?_
      refine wpAny_updateSeq hS' rfl (wpAny_bind (wpAny_letGo ?_))
      rw [hname]
      refine wpAny_pure ⟨plainId_quiet F.plain_min_loop _, ih (j + 1) _ v _ (by omega) hlt (W.frame _ _ _ hst' fun b hbf o e => ?_) (by simp only [argBest, hb, if_true]; exact hP) (Heap.get?_update_self _ hS' rfl)
        fun v' h'' tk'' hP' hk'' => ?_⟩
      · exact (Heap.get?_update_other _ _ (fun h : S = b => hSf (by rw [h]; exact hbf))).trans e
      · exact hR v' h'' tk'' hP' fun b o hbw hbS e => hk'' b o hbw hbS ((Heap.get?_update_other _ _ (Ne.symm hbS)).trans (hk' b o hbw e))
    | false =>
      simp only [Bool.false_eq_true, if_false]
      refine wpAny_bind (wpAny_letGo ?_)
      rw [hname]
      refine wpAny_pure ⟨plainId_quiet F.plain_min_loop _, ih (j + 1) _ vb c (by omega) hlt hst' (by simp only [argBest, hb, Bool.false_eq_true, if_false]; exact hPb) hS' fun v' h'' tk'' hP' hk'' => ?_⟩
      exact hR v' h'' tk'' hP' fun b o hbw hbS e => hk'' b o hbw hbS (hk' b o hbw e)
theorem minT_first (W : Walks prog w A.in1 I fp wr n P St) (bt : Nat → Nat → Bool) (hcmp : CmpIn prog w A.in1 .Lt P St bt) (S : Addr) (hSf : S ∉ fp) (hn : 0 < n) {s : Shared} {c : Nat} (hst : St 0 s.heap)
    (hS : s.heap.get? S = some { cls := .type "list", dict := none, data := .seq #[] c, slots := #[] })
    (hR : ∀ v h' tk, P (argBest bt (n - 1)) v → (∀ b o, b ∉ wr → b ≠ S → s.heap.get? b = some o → h'.get? b = some o) → R (.ok (.ret v)) { s with heap := h', toks := tk }) :
    codeAny (model prog w) A (.builtin "min.loop" ⟨[.ref I, .none, .ref S], []⟩) R s := by
  have hSw : S ∉ wr := fun h => hSf (W.sub _ h)
  have hname : (toString "min" ++ toString ".loop" : String) = "min.loop" := by decide
  refine codeAny_builtin F.entry_min_loop ?_
  rw [Around.under_plainId F.plain_min_loop _]
  show wpAny _ A.in1 (seqItems? (.ref S) >>= _) _ _ s
  refine wpAny_bind (wpAny_seqItems hS rfl ?_)
  show wpAny _ A.in1 (tryCatch (pyNext (.ref I)) _ >>= _) _ _ s
  refine wpAny_bind (wpAny_tryCatch (W.item 0 s _ _ hn hst fun v h' tk hP hst' hk' => ?_))
  have hS' := hk' S _ hSw hS
  show wpAny _ A.in1 (updateSeq S (fun _ => #[v, v]) >>= _) _ _ _
  refine wpAny_bind ?_
  refine wpAny_updateSeq hS' rfl ?_
  rw [hname]
  refine wpAny_pure ⟨plainId_quiet F.plain_min_loop _, minT_loop W bt hcmp S hSf _ 0 _ v _ rfl hn (W.frame _ _ _ hst' fun b hbf o e => ?_) hP (Heap.get?_update_self _ hS' rfl) fun v' h'' tk'' hP' hk'' => ?_⟩
  · exact (Heap.get?_update_other _ _ (fun h : S = b => hSf (by rw [h]; exact hbf))).trans e
  · exact hR v' h'' tk'' hP' fun b o hbw hbS e => hk'' b o hbw hbS ((Heap.get?_update_other _ _ (Ne.symm hbS)).trans (hk' b o hbw e))
end
section
variable {prog : Program} {w : World} {A : Around} {E : Value → Shared → Prop} {s : Shared}
theorem call_minT {x : Value} {Q : Value → Shared → Prop}
    (h : wpAny (model prog w) A.in1 (pyIter x) (fun it s₂ => ∃ I fp wr n P St bt, it = .ref I ∧ Walks prog w A.in1 I fp wr n P St ∧ St 0 s₂.heap ∧ (∀ b ∈ fp, b < s₂.heap.objs.size) ∧ 0 < n ∧ CmpIn prog w A.in1 .Lt P St bt ∧
      ∀ v h' tk, P (argBest bt (n - 1)) v → (∀ b o, b ∉ wr → s₂.heap.get? b = some o → h'.get? b = some o) → Q v { s₂ with heap := h', toks := tk }) E s) :
    wpAny (model prog w) A (call (.builtin "min") [x]) Q E s := by
  have hname : (toString "min" ++ toString ".loop" : String) = "min.loop" := by decide
  refine call_function_tree F.kind_min F.plain_min F.entry_min (F.args_min1 _) ?_
  show wpAny _ A.in1 (Builtin.Builtins.bindParams "min" ["key", "default"] 0 ⟨[], []⟩ >>= _) _ _ s
  refine wpAny_bind (wpAny_of_eq (show Builtin.Builtins.bindParams "min" ["key", "default"] 0 ⟨[], []⟩ = pure [none, none] from rfl) ?_)
  refine wpAny_bind (wpAny_pure ?_)
  refine wpAny_bind (wpAny_mono h (fun it s₂ h₂ => ?_) fun _ _ e => e)
  obtain ⟨I, fp, wr, n, P, St, bt, rfl, W, hst, hfp, hn, hcmp, hQ⟩ := h₂
  refine wpAny_bind (wpAny_newObj_type ?_)
  have hSf : s₂.heap.objs.size ∉ fp := fun hm => Nat.lt_irrefl _ (hfp _ hm)
  rw [hname]
  refine wpAny_pure ⟨plainId_quiet F.plain_min_loop _, minT_first W bt hcmp s₂.heap.objs.size hSf hn (W.frame _ _ _ hst fun b _ o e => Heap.get?_push_of_some _ e) (Heap.get?_push_size _ rfl) fun v h' tk hP hk => ?_⟩
  exact hQ v h' tk hP fun b o hbw e => hk b o hbw (Nat.ne_of_lt (Heap.lt_size e)) (Heap.get?_push_of_some _ e)
/-- the walk of a list whose items are known to stand -/
theorem walksT (hh : A.handled = none) (I ax : Addr) (hne : ax ≠ I) (items : Array Value) (ts : List (Addr × Obj)) (hI : ∀ t ∈ ts, t.1 ≠ I) :
    Walks prog w A I ([I, ax] ++ ts.map (·.1)) [I] items.size (fun i v => items[i]? = some v) (fun i h => (h.IsListIter I ax i ∧ h.IsList ax items) ∧ ∀ t ∈ ts, h.get? t.1 = some t.2) := by
  have W := Walks.list (prog := prog) (w := w) hh I ax hne items
  refine ⟨fun b hb => List.mem_append_left _ (W.sub b hb), fun i h h' st hk => ⟨W.frame i h h' st.1 fun b hb o e => hk b (List.mem_append_left _ hb) o e, fun t ht => hk t.1 (List.mem_append_right _ (List.mem_map.mpr ⟨t, ht, rfl⟩)) _ (st.2 t ht)⟩,
    fun i s Q E hi st hQ => W.item i s Q E hi st.1 fun v h' tk hP hst' hk => hQ v h' tk hP ⟨hst', fun t ht => hk t.1 _ (fun z => hI t ht (List.mem_singleton.mp z)) (st.2 t ht)⟩ hk,
    fun s Q E st hQ => W.done s Q E st.1 hQ, fun i s Q E st hQ => W.self i s Q E st.1 hQ⟩
end
/-- the first least of rows by lexLt -/
def leastT : List (List Int) → Nat → Nat
  | _, 0 => 0
  | nss, k + 1 => if HT.lexLt (nss.getD (k + 1) []) (nss.getD (leastT nss k) []) then k + 1 else leastT nss k
def rMinT (K : PySem.W.Frag) : List V → Hp → VK → Prop := fun vs H Q => ∃ (a : Addr) (ts : List Addr) (nss : List (List Int)), vs = [V.ref a] ∧ SqL K H a (ts.map V.ref) ∧ ts.length = nss.length ∧ 0 < ts.length ∧ (∀ (i : Nat) (t : Addr) (ns : List Int), ts[i]? = some t → nss[i]? = some ns → SqT K H t (ns.map V.int)) ∧
  ∀ t, ts[leastT nss (nss.length - 1)]? = some t → Q (.ref t) H
theorem argBest_least (nss : List (List Int)) : ∀ k, argBest (fun i j => HT.lexLt (nss.getD i []) (nss.getD j [])) k = leastT nss k
  | 0 => rfl
  | k + 1 => by
    show (if HT.lexLt (nss.getD (k + 1) []) (nss.getD (argBest (fun i j => HT.lexLt (nss.getD i []) (nss.getD j [])) k) []) = true then k + 1 else argBest (fun i j => HT.lexLt (nss.getD i []) (nss.getD j [])) k) = _
    rw [argBest_least nss k]
    rfl
theorem cr_minT {X : Cx} (hc : X.calm = true) (hu : X.A.units + 1 < cLine) : CallR X (.builtin "min") (rMinT X.K) := by
  intro pins s σ H vs us Q I r h
  obtain ⟨a, ts, nss, rfl, hs, hl, h0, ht, q⟩ := h
  rw [Vals.ref1 r]
  obtain ⟨its, rv, hL, hz⟩ := I.list hs
  have lits : its.length = ts.length := by rw [← rv.length, List.length_map]
  have hat : ∀ (i : Nat) (v : Value), its[i]? = some v → ∃ t ns, ts[i]? = some t ∧ nss[i]? = some ns ∧ v = .ref t := fun i v e => by
    have hi : i < its.length := (List.getElem?_eq_some_iff.mp e).1
    have e1 : ts[i]? = some ts[i] := List.getElem?_eq_getElem (by omega)
    have e2 : nss[i]? = some nss[i] := List.getElem?_eq_getElem (by omega)
    obtain ⟨u, eu, ru⟩ := rv.get (i := i) (x := V.ref ts[i]) (by rw [List.getElem?_map, e1]; rfl)
    rw [e] at eu
    cases eu
    exact ⟨_, _, e1, e2, ru⟩
  have tups : ∀ (i : Nat) (t : Addr), ts[i]? = some t → ∃ ob, s.heap.get? t = some ob ∧ ∀ h' : Heap, h'.get? t = some ob → ∃ its2 : List Value, IsTup h' t its2.toArray ∧ IntsAre its2 (nss.getD i []) := fun i t e => by
    have hi : i < ts.length := (List.getElem?_eq_some_iff.mp e).1
    have e2 : nss[i]? = some nss[i] := List.getElem?_eq_getElem (by omega)
    obtain ⟨its2, r2, p2, _⟩ := I.tuple (ht i t _ e e2)
    obtain ⟨ob, ho, hc2, hd2⟩ := id p2
    refine ⟨ob, ho, fun h' e' => ⟨its2, ⟨ob, e', hc2, hd2⟩, ?_⟩⟩
    rw [List.getD_eq_getElem?_getD, e2]
    exact Vals.ints r2
  obtain ⟨tos, htos, hins⟩ : ∃ tos : List (Addr × Obj), (∀ p ∈ tos, s.heap.get? p.1 = some p.2) ∧ ∀ (i : Nat) (t : Addr), ts[i]? = some t → ∃ ob, (t, ob) ∈ tos := by
    refine ⟨ts.filterMap fun t => (s.heap.get? t).map fun o => (t, o), fun p hp => ?_, fun i t e => ?_⟩
    · obtain ⟨t, _, e⟩ := List.mem_filterMap.mp hp
      cases e2 : s.heap.get? t with
      | none => rw [e2] at e; cases e
      | some o =>
        rw [e2] at e
        cases e
        exact e2
    · obtain ⟨ob, ho, _⟩ := tups i t e
      exact ⟨ob, List.mem_filterMap.mpr ⟨t, List.mem_of_getElem? e, by rw [ho]; rfl⟩⟩
  have hlt : a < s.heap.objs.size := by obtain ⟨_, e, _⟩ := hL.isList; exact Heap.lt_size e
  refine call_minT (wpAny_pyIter_list hL.isList ?_)
  have W := walksT (prog := X.prog) (w := X.w) (A := X.A.in1) (show X.A.in1.handled = none from I.ok.hd hc) s.heap.objs.size a (Nat.ne_of_lt hlt) its.toArray tos fun t htt => Nat.ne_of_lt (Heap.lt_size (htos t htt))
  refine ⟨_, _, _, _, _, _, fun i j => HT.lexLt (nss.getD i []) (nss.getD j []), rfl, W, ⟨⟨⟨_, Heap.get?_push_size _ rfl, rfl, rfl⟩, hL.isList.push _⟩, fun t htt => Heap.get?_push_of_some _ (htos t htt)⟩, fun b hb => ?_, by rw [List.size_toArray, lits]; exact h0, ?_, ?_⟩
  · show b < (s.heap.push _).objs.size
    rw [Heap.size_push]
    rcases List.mem_append.mp hb with hb | hb
    · rcases List.mem_cons.mp hb with rfl | hb
      · exact Nat.lt_succ_self _
      · rw [List.mem_singleton.mp hb]
        exact Nat.lt_succ_of_lt hlt
    · obtain ⟨p, hp, rfl⟩ := List.mem_map.mp hb
      exact Nat.lt_succ_of_lt (Heap.lt_size (htos p hp))
  · intro k i j vi vj s2 Q2 E2 st hi hj hq
    obtain ⟨t1, n1, e1, _, rfl⟩ := hat i vi (by simpa using hi)
    obtain ⟨t2, n2, e2, _, rfl⟩ := hat j vj (by simpa using hj)
    obtain ⟨ob1, m1⟩ := hins i t1 e1
    obtain ⟨ob2, m2⟩ := hins j t2 e2
    obtain ⟨o1, ho1, f1⟩ := tups i t1 e1
    obtain ⟨o2, ho2, f2⟩ := tups j t2 e2
    have g1 := st.2 _ m1
    have g2 := st.2 _ m2
    have x1 := htos _ m1
    have x2 := htos _ m2
    have x1 : s.heap.get? t1 = some ob1 := x1
    have x2 : s.heap.get? t2 = some ob2 := x2
    rw [ho1] at x1
    rw [ho2] at x2
    cases x1
    cases x2
    obtain ⟨l1, p1, i1⟩ := f1 s2.heap g1
    obtain ⟨l2, p2, i2⟩ := f2 s2.heap g2
    exact (HT.lt_tupInts p1 p2 (by simpa using i1) (by simpa using i2) (by show X.A.in1.units < cLine; exact Nat.lt_of_le_of_lt (Nat.le_refl _) (show X.A.units + 1 < cLine from hu)) hq : wpAny (model X.prog X.w) X.A.in1 (compareOp .Lt (.ref t1) (.ref t2)) Q2 E2 s2)
  · intro v h' tk hP hk
    rw [argBest_least, List.size_toArray, lits, hl] at hP
    obtain ⟨t, ns, e1, _, rfl⟩ := hat (leastT nss (nss.length - 1)) v (by simpa using hP)
    refine ⟨.ref t, H, I.kept fun b o e => hk b o (fun hm => ?_) (Heap.get?_push_of_some _ e), rfl, q t e1⟩
    exact absurd ((List.mem_singleton.mp hm) ▸ Heap.lt_size e) (Nat.lt_irrefl _)
theorem minTK {X : Cx} {K : PySem.W.Frag} (hK : X.K = K) (hc : X.calm = true) (hu : X.A.units + 1 < cLine) : CallR X (.builtin "min") (rMinT K) := hK ▸ cr_minT hc hu
end Wn

namespace DT
open PySem PySem.W PySem.Calls PyProof.Rows PyProof.V PySem.Spec
section
variable {K : Type} [DecidableEq K] {prog : Program} {w : World} {knd : HeapKind prog w K}
/-- d.pop(k), k a tuple that is there -/
theorem meetsPop1 {d b : Addr} {k : K} (hd : (d == sysModules) = false) :
    MeetsIn prog w (Builtin.«dict.pop» ⟨[.ref d, .ref b], []⟩) (fun A R s => ∃ xs p, knd.room A.in1 ∧ knd.is s.heap k b ∧ s.heap.DictOfH knd d xs ∧ xs.length ≤ sizeLine ∧ atKey xs k = some p ∧
      ∀ h' tk, h'.DictOfH knd d (dropH xs k) → Heap.SameBut d s.heap h' → R (.ok (.ret p.2)) { s with heap := h', toks := tk }) :=
  .of_wp fun A R s ⟨xs, p, hu, hkey, hm, hsz, hp, hsome⟩ => by
    obtain ⟨o, es, ep, ho, hc, hdat, he, his, hn⟩ := id hm
    have hes : es.size = xs.length := size_of_entries he
    have hpart : (keyPart (Value.ref b)).isSome = false := rfl
    unfold Builtin.«dict.pop»
    refine wpAny_bind ?_
    unfold Builtin.Dict.keyAndDefault
    refine wpAny_bind (wpAny_notOrdered_dict hm.typeIs ?_)
    show wpAny _ _ (pure (d, Value.ref b, none)) _ _ s
    refine wpAny_pure ?_
    simp only [hpart, Bool.false_eq_true, if_false]
    refine wpAny_bind (wpAny_dictEntries ho hdat (wpAny_bind (wpAny_pure ?_)))
    cases hem : es.isEmpty with
    | true =>
      have h0 : xs = [] := by
        have z : es.size = 0 := by simpa using hem
        exact List.length_eq_zero_iff.mp (by omega)
      rw [h0] at hp
      cases hp
    | false =>
      simp only [Bool.false_eq_true, if_false]
      refine wpAny_bind (takeH hu hkey hm hsz (fun hno => ?_) fun p' e hp' hev h' hm' hs' => ?_)
      · rw [hp] at hno
        cases hno
      · rw [hp] at hp'
        cases hp'
        simp only [Option.isNone_some, Bool.false_eq_true, if_false]
        exact wpAny_bind (wpAny_letGo (wpAny_pure ⟨e.val, rfl, by rw [hev]; exact hsome h' _ hm' hs'⟩))
end
end DT
namespace L2.DX
open PySem PySem.Spec PyProof.Rows
section
variable {X : Cx}
def rPopT1 : V → List V → Hp → VK → Prop := fun x xs H Q => ∃ (a : Addr) (kvs : List (List L2.Key × V)) (k : List L2.Key) (b : Addr) (v : V), x = .ref a ∧ xs = [.ref b] ∧ H a = some (.dT kvs) ∧ H b = some (.tup (k.map kV)) ∧
  valV kvs k = some v ∧ Q v (upd H a (.dT (dropK kvs k)))
theorem mt_popT1 (hu : X.A.units + 1 < cLine) : MtR X "dict.pop" rPopT1 := by
  intro pins s σ H x xs v us Q I rx rxs h
  obtain ⟨a, kvs, k, b, v0, rfl, rfl, ha, hb, ev, q1⟩ := h
  cases rx
  obtain ⟨u1, rfl, r1⟩ := vals1 rxs
  cases r1
  obtain ⟨z, hd, xs', rel, dd⟩ := dt_of I.hok ha
  have hz : xs'.length ≤ sizeLine := by rw [← Paired.length rel]; exact z
  have r := rel.val k
  obtain ⟨p, hp, rv⟩ : ∃ p, atKey xs' k = some p ∧ RelV v0 p.2 := by
    rw [ev] at r
    cases hp : atKey xs' k with
    | none =>
      rw [hp] at r
      exact (show False from r).elim
    | some p =>
      rw [hp] at r
      exact ⟨p, rfl, r⟩
  refine call_meetsIn PySem.F.slot_dict_pop dd.typeIs PySem.F.entry_dict_pop (PySem.F.args_dict_pop_2 _ _) (DT.meetsPop1 (knd := tupleKind (mixKind X.prog X.w)) (k := k) hd)
    ⟨xs', p, tupleKind_room_in1 hu, key_of I.hok hb, dd, hz, hp, fun h' tk dd' hs => ?_⟩
  obtain ⟨o, es, ep, hq, h2, h3, h4, _, h5⟩ := dd'
  have I2 : Inv X pins σ (upd H a (.dT (dropK kvs k))) { s with heap := h', toks := tk } :=
    d_write I (by rw [ha]; exact True.intro) hs ⟨o, hq⟩ ⟨Nat.le_trans (dropK_le kvs k) z, hd, _, (KT_drop k rel).keeps (fun c ys ec => (by rw [upd_ne (ne_of ec ha (fun z => nomatch z))]; exact ec)), o, es, ep, hq, h2, h3, h4, h5⟩
  show EP X pins σ Q p.2 _
  exact ⟨v0, _, I2, rv, q1⟩
end
end L2.DX

namespace Wn
open PySem L2 PySem.Spec PyProof.Rows HT
/-! ### t[::-1], t[i::-1] of a tuple -/
def revLen (n : Nat) : Option Int → Nat
  | none => n
  | some v => ((if v < 0 then max (v + (n : Int)) (-1) else min v ((n : Int) - 1)) + 1).toNat
theorem revLen_le (n : Nat) (lo : Option Int) : revLen n lo ≤ n := by
  cases lo with
  | none => exact Nat.le_refl _
  | some v =>
    show ((if v < 0 then max (v + (n : Int)) (-1) else min v ((n : Int) - 1)) + 1).toNat ≤ n
    split <;> omega
theorem fm_congr {α β : Type} {f g : α → Option β} : ∀ {l : List α}, (∀ x ∈ l, f x = g x) → l.filterMap f = l.filterMap g
  | [], _ => rfl
  | x :: l, h => by
    rw [List.filterMap_cons, List.filterMap_cons, h x List.mem_cons_self, fm_congr fun y hy => h y (List.mem_cons_of_mem _ hy)]
section
variable {prog : Program} {w : World} {A : Around} {E : Value → Shared → Prop} {s : Shared}
theorem rev_adjust (lo : Option Int) (n : Nat) : Builtin.Slice.sliceAdjust lo none (-1) (n : Int) = (((revLen n lo : Nat) : Int) - 1, -1) := by
  have h1 : ((-1 : Int) < 0) := by omega
  unfold Builtin.Slice.sliceAdjust
  simp only [h1, if_true]
  refine Prod.ext ?_ rfl
  cases lo with
  | none => rfl
  | some v =>
    show (if v < 0 then max (v + (n : Int)) (-1) else min v ((n : Int) - 1)) = (((((if v < 0 then max (v + (n : Int)) (-1) else min v ((n : Int) - 1)) + 1).toNat : Nat) : Int)) - 1
    split <;> omega
theorem rev_places (k : Nat) : Builtin.Slice.slicePlaces ((k : Int) - 1) (-1) (-1) = k := by
  unfold Builtin.Slice.slicePlaces
  have h1 : ¬ ((-1 : Int) > 0) := by omega
  rw [if_neg h1, show (- -1 : Int) = 1 by decide]
  simp only [Int.ediv_one]
  split <;> omega
theorem rev_applied {sl : Addr} {vl vs : Value} {lo : Option Int} {n : Nat} {Q : Int × Int × Nat → Shared → Prop} (hs : s.heap.IsSliceOf sl vl .none vs) (pl : IsPart vl lo) (ps : IsPart vs (some (-1)))
    (h : Q (((revLen n lo : Nat) : Int) - 1, -1, revLen n lo) s) : wpAny (model prog w) A (Builtin.Slice.sliceApplied (.ref sl) (pure (n : Int))) Q E s := by
  obtain ⟨os, hos, hcs, hds⟩ := id hs
  unfold Builtin.Slice.sliceApplied Builtin.Slice.sliceFields
  refine wpAny_bind (wpAny_bind (wpAny_field hos hds (x := vl) rfl (wpAny_bind (wpAny_field hos hds (x := .none) rfl (wpAny_bind (wpAny_field hos hds (x := vs) rfl (wpAny_pure ?_)))))))
  refine wpAny_bind (slicePart_ ps ?_)
  show wpAny _ _ (if ((-1 : Int) == 0) = true then _ else _) _ _ s
  rw [if_neg (by decide)]
  refine wpAny_bind (slicePart_ pl (wpAny_bind (slicePart_ .none (wpAny_bind (wpAny_pure ?_)))))
  show wpAny _ _ (match Builtin.Slice.sliceAdjust lo none (-1) (n : Int) with | (lo, hi) => pure (lo, (-1 : Int), Builtin.Slice.slicePlaces lo hi (-1))) _ _ s
  rw [rev_adjust lo n]
  show wpAny _ _ (pure (((revLen n lo : Nat) : Int) - 1, (-1 : Int), Builtin.Slice.slicePlaces (((revLen n lo : Nat) : Int) - 1) (-1) (-1))) _ _ s
  rw [rev_places]
  exact wpAny_pure h
theorem rev_pick (xs : Array Value) (k : Nat) (hk : k ≤ xs.size) : ((List.range k).filterMap fun (m : Nat) => xs[(((k : Int) - 1) + (m : Int) * (-1)).toNat]?).toArray = (xs.toList.take k).reverse.toArray := by
  congr 1
  have e : (List.range k).filterMap (fun (m : Nat) => xs[(((k : Int) - 1) + (m : Int) * (-1)).toNat]?) = ((List.range k).map fun m => k - 1 - m).filterMap (xs[·]?) := by
    rw [List.filterMap_map]
    refine fm_congr fun m hm => ?_
    have hm := List.mem_range.mp hm
    show xs[_]? = xs[k - 1 - m]?
    congr 1
    omega
  rw [e, PySem.W.krv_range, List.filterMap_reverse]
  congr 1
  have := pick_run xs 0 k
  rw [List.filterMap_map] at this
  have e2 : ((fun x => xs[x]?) ∘ fun x => 0 + x) = fun m => xs[m]? := by
    funext m
    show xs[0 + m]? = xs[m]?
    rw [Nat.zero_add]
  rw [e2, List.drop_zero] at this
  exact this
theorem getItem_tuple_rev {t sl : Addr} {items : Array Value} {vl vs : Value} {lo : Option Int} {Q : Value → Shared → Prop} (ht : IsTup s.heap t items) (hs : s.heap.IsSliceOf sl vl .none vs) (pl : IsPart vl lo) (ps : IsPart vs (some (-1)))
    (h : Q (.ref s.heap.objs.size) { s with heap := s.heap.push { cls := .type "tuple", data := .seq (items.toList.take (revLen items.size lo)).reverse.toArray } })
    (hsz : items.size ≤ sizeLine) : wpAny (model prog w) A (getItem (.ref t) (.ref sl)) Q E s := by
  have hk := revLen_le items.size lo
  have htake : sizeOk (.seq (items.toList.take (revLen items.size lo)).reverse.toArray) := by
    show (items.toList.take (revLen items.size lo)).reverse.toArray.size ≤ sizeLine
    rw [List.size_toArray, List.length_reverse, List.length_take, Array.length_toList]
    omega
  obtain ⟨os, hos, hcs, hds⟩ := id hs
  have hTs : s.TypeIs (.ref sl) "slice" := ⟨os, hos, hcs⟩
  unfold getItem
  try with_reducible refine wpAny_holding ?_
  first | refine wpAny_bind (wpAny_pure ?_) | skip
  refine wpAny_bind (wpAny_sequenceKey ht.typeIs (by decide) ?_)
  refine wpAny_bind (wpAny_callSpecial?_slot (name := Str.ofString "__getitem__") ht.typeIs PyProof.Rows.slot_tuple_getitem
    (wpAny_call_entry PyProof.Rows.slot_tuple_getitem ht.typeIs entry_tuple_getitem ?_ (args_tuple_getitem _ _)))
  show wpAny _ _ (Builtin.Tuple.tupleItemsOf (.ref t) >>= _) _ _ s
  refine wpAny_bind (tupleItemsOf_ ht ?_)
  refine wpAny_bind (wpAny_typeOf hTs ?_)
  rw [if_pos (by decide)]
  refine wpAny_bind (rev_applied hs pl ps ?_)
  have hno : ¬ (((((revLen items.size lo : Nat) : Int) - 1) == 0 && (-1 : Int) == 1 && (revLen items.size lo) == items.size) = true) := by
    rw [show ((-1 : Int) == 1) = false by decide, Bool.and_false, Bool.false_and]
    exact Bool.false_ne_true
  show wpAny _ _ (if ((((revLen items.size lo : Nat) : Int) - 1) == 0 && (-1 : Int) == 1 && (revLen items.size lo) == items.size) = true then _ else _) _ _ s
  rw [if_neg hno, rev_pick _ _ hk]
  first
    | exact wpAny_bind (m := Builtin.Tuple.tupleExact _) (wpAny_newObj_type (wpAny_pure ⟨_, rfl, wpAny_pure h⟩) htake)
    | exact wpAny_bind (m := Builtin.Tuple.tupleExact _) (wpAny_newObj_type (wpAny_bind (wpAny_pure (wpAny_pure ⟨_, rfl, wpAny_pure h⟩))) htake)
    | exact wpAny_bind (wpAny_bind (m := Builtin.Tuple.tupleExact _) (wpAny_newObj_type (wpAny_pure (wpAny_pure ⟨_, rfl, wpAny_pure h⟩)) htake))
    | exact wpAny_bind (wpAny_bind (m := Builtin.Tuple.tupleExact _) (wpAny_newObj_type (wpAny_pure ⟨_, rfl, wpAny_pure h⟩) htake))
end
section
variable {X : Cx} {K : PySem.W.Frag}
def tRevT (K : PySem.W.Frag) (te : TE) (tl : TO) : TE := fun σ H Q => te σ H fun x H1 => tl σ H1 fun lo H2 => ∃ a xs, x = .ref a ∧ SqT K H2 a xs ∧ ∀ p, H2 p = none → Q (.ref p) (upd H2 p (.tup (xs.take (revLen xs.length lo)).reverse))
theorem pe_revT {e : Expr} {lo : Option Expr} {te : TE} {tl : TO} {k : Nat} {p1 p2 p3 pos : Pos} (hK : X.K = K) (he : PE X e te) (hl : PO X lo tl) : PE X (.Subscript e (.Slice lo none (some (.UnaryOp .USub (.Constant (.int 1) k p1) p2)) p3) pos) (tRevT K te tl) := by
  subst hK
  refine ⟨fun pins s σ H Q I h => ?_⟩
  refine Subscript_ (thn (he.run pins s σ H _ I h) fun v s1 ⟨x, H1, I1, r1, q1⟩ => ?_)
  have hst : PO X (some (.UnaryOp .USub (.Constant (.int 1) k p1) p2)) (tPart (tUn (rU fun i => .int (-i)) (tC (.int 1)))) := po_some (pe_un un_neg pe_int)
  refine wpAny_Slice (thn (hl.run pins s1 σ H1 _ I1 q1) fun vl s2 ⟨l, H2, I2, pl, q2⟩ => ?_)
  obtain ⟨a, xs, ex, hx, q⟩ := q2
  subst ex
  cases r1
  refine thn (po_none.run pins s2 σ H2 (fun o H3 => o = none ∧ H3 = H2) I2 ⟨rfl, rfl⟩) fun vu s3 ⟨u, H3, I3, pu, eu, e3⟩ => ?_
  subst eu e3
  refine thn (hst.run pins s3 σ H3 (fun o H4 => o = some (-1) ∧ H4 = H3) I3 ⟨1, rfl, -1, rfl, rfl, rfl⟩) fun vs s4 ⟨o, H4, I4, ps, eo, e4⟩ => ?_
  subst eo e4
  cases pu
  have I5 : Inv X pins σ H4 { s4 with heap := s4.heap.push { cls := .type "slice", data := .fields #[vl, .none, vs] } } := I4.kept (t' := s4.toks) fun b ob q => Heap.get?_push_of_some _ q
  obtain ⟨its, r, ht, hz⟩ := I5.tuple hx
  have hlen : its.toArray.size = xs.length := by rw [List.size_toArray]; exact r.length.symm
  show wpAny (model X.prog X.w) X.A (subscriptTail e (.Slice lo none (some (.UnaryOp .USub (.Constant (.int 1) k p1) p2)) p3) (.ref a) (.ref s4.heap.objs.size)) (EP X pins σ Q) X.xe { s4 with heap := s4.heap.push { cls := .type "slice", data := .fields #[vl, .none, vs] } }
  refine tail_any (ops := [.ref a, .ref s4.heap.objs.size]) ht.typeIs (PyProof.Rows.slot_tuple_getitem.lookup) ?_ (by with_unfolding_all rfl)
  refine getItem_tuple_rev ht (Heap.IsSliceOf.new _ vl .none vs) pl ps ?_ (by rw [hlen]; exact hz)
  rw [hlen]
  refine ⟨.ref _, _, I5.laid (t' := s4.toks) (o := .tup (xs.take (revLen xs.length l)).reverse) (fun b ob q => Heap.get?_push_of_some _ q) (Nat.le_refl _) ?_, rfl, q _ (I5.hok.fresh (Nat.le_refl _))⟩
  refine ⟨by rw [List.length_reverse, List.length_take]; omega, _, ?_, IsTup.new _ _⟩
  have := r.take (revLen xs.length l)
  exact this.reverse
end
end Wn

namespace Wn
open PySem L2
/-! ### slices and sums of tuples, whatever they are -/
theorem SqT.sm {K : PySem.W.Frag} {H H' : Hp} {a : Addr} {xs : List V} (h : SqT K H a xs) (e : Same H H') : SqT K H' a xs := SqT.tk h (TK.of e)
section
variable {α : Type}
def cutL (xs : List α) (lo hi : Option Int) : List α := (xs.drop (HT.sIx xs.length 0 lo)).take (HT.sIx xs.length xs.length hi - HT.sIx xs.length 0 lo)
theorem cutL_all (xs : List α) : cutL xs none none = xs := by
  unfold cutL
  rw [HT.sIx_none, HT.sIx_none, List.drop_zero, Nat.sub_zero, List.take_length]
theorem cutL_to (xs : List α) (k : Nat) : cutL xs none (some (k : Int)) = xs.take k := by
  unfold cutL
  rw [HT.sIx_nat, HT.sIx_none, List.drop_zero, Nat.sub_zero]
  by_cases hk : k ≤ xs.length
  · rw [Nat.min_eq_left hk]
  · rw [Nat.min_eq_right (by omega), List.take_of_length_le (Nat.le_refl _), List.take_of_length_le (by omega)]
theorem cutL_from (xs : List α) (k : Nat) : cutL xs (some (k : Int)) none = xs.drop k := by
  unfold cutL
  rw [HT.sIx_nat, HT.sIx_none]
  by_cases hk : k ≤ xs.length
  · rw [Nat.min_eq_left hk, List.take_of_length_le (by rw [List.length_drop]; exact Nat.le_refl _)]
  · rw [Nat.min_eq_right (by omega), List.drop_of_length_le (Nat.le_refl _), List.drop_of_length_le (by omega), List.take_nil]
theorem cutL_mid (xs : List α) (a b : Nat) : cutL xs (some (a : Int)) (some (b : Int)) = (xs.drop a).take (b - a) := by
  unfold cutL
  rw [HT.sIx_nat, HT.sIx_nat]
  by_cases h : a ≤ xs.length
  · rw [Nat.min_eq_left h]
    by_cases h2 : b ≤ xs.length
    · rw [Nat.min_eq_left h2]
    · rw [Nat.min_eq_right (by omega), List.take_of_length_le (by rw [List.length_drop]; exact Nat.le_refl _), List.take_of_length_le (by rw [List.length_drop]; omega)]
  · rw [show min a xs.length = xs.length by omega, List.drop_of_length_le (Nat.le_refl _), List.drop_of_length_le (show xs.length ≤ a by omega), List.take_nil, List.take_nil]
theorem cutL_butlast (xs : List α) : cutL xs none (some (-1)) = xs.dropLast := by
  unfold cutL
  have e : HT.sIx xs.length xs.length (some (-1)) = xs.length - 1 := by
    unfold HT.sIx
    dsimp only
    rw [if_pos (show (-1 : Int) < 0 by decide)]
    omega
  rw [e, HT.sIx_none, List.drop_zero, Nat.sub_zero, List.dropLast_eq_take]
theorem cutL_last (xs : List α) : cutL xs (some (-1)) none = xs.drop (xs.length - 1) := by
  unfold cutL
  have e : HT.sIx xs.length 0 (some (-1)) = xs.length - 1 := by
    unfold HT.sIx
    dsimp only
    rw [if_pos (show (-1 : Int) < 0 by decide)]
    omega
  rw [e, HT.sIx_none, List.take_of_length_le (by rw [List.length_drop]; exact Nat.le_refl _)]
theorem cutL_map {β : Type} (f : α → β) (xs : List α) (lo hi : Option Int) : cutL (xs.map f) lo hi = (cutL xs lo hi).map f := by
  unfold cutL
  rw [List.length_map, List.map_take, List.map_drop]
theorem cutL_mem {xs : List α} {lo hi : Option Int} {x : α} (h : x ∈ cutL xs lo hi) : x ∈ xs := List.mem_of_mem_drop (List.mem_of_mem_take h)
theorem cutL_len (xs : List α) (lo hi : Option Int) : (cutL xs lo hi).length ≤ xs.length := by
  unfold cutL
  rw [List.length_take, List.length_drop]
  omega
end
theorem cutV_L (xs : List V) (lo hi : Option Int) : cutV xs lo hi = cutL xs lo hi := rfl
section
variable {K : PySem.W.Frag} {H H' : Hp} {a b : Addr} {xs ys : List V} {ds es : List PyData} {lo hi : Option Int} {Q : VK}
theorem slA_sq (h : SqT K H a xs) (q : ∀ (H' : Hp) (x : Addr), Same H H' → SqT K H' x (cutL xs lo hi) → Q (.ref x) H') : rSlA K (.ref a) lo hi H Q := by
  refine ⟨a, xs, rfl, h, fun hw => ?_, fun hw p hp => ?_⟩
  · refine q H a (L2.Same.refl _) ?_
    have e : cutL xs lo hi = xs := by
      unfold cutL
      rw [hw.1, hw.2, List.drop_zero, Nat.sub_zero, List.take_length]
    rw [e]
    exact h
  · exact q _ p ((L2.Same.refl _).new hp) (SqT.of upd_same)
theorem catA_sq (ha : SqT K H a xs) (hb : SqT K H b ys) (hl : xs.length + ys.length ≤ 1000000) (q : ∀ (H' : Hp) (x : Addr), Same H H' → SqT K H' x (xs ++ ys) → Q (.ref x) H') : rCatA K (.ref a) (.ref b) H Q := by
  refine ⟨a, b, xs, ys, rfl, rfl, ha, hb, Nat.le_trans hl (by decide), fun e => ?_, fun _ e => ?_, fun _ _ p hp => ?_⟩
  · subst e
    exact q H b (L2.Same.refl _) hb
  · subst e
    exact q H a (L2.Same.refl _) (by rw [List.append_nil]; exact ha)
  · exact q _ p ((L2.Same.refl _).new hp) (SqT.of upd_same)
/-- a tuple of data -/
def TupAt (K : PySem.W.Frag) (H : Hp) (a : Addr) (ds : List PyData) : Prop := Rp K H (.tuple ds) (.ref a)
theorem TupAt.inv (h : TupAt K H a ds) : ∃ xs, SqT K H a xs ∧ RpL K H ds xs := by
  unfold TupAt Rp at h
  obtain ⟨b, xs, e, h1, h2⟩ := h
  cases e
  exact ⟨xs, h1, h2⟩
theorem TupAt.sm (h : TupAt K H a ds) (s : Same H H') : TupAt K H' a ds := Rp.tk (TK.of s) _ _ h
theorem TupAt.tk (h : TupAt K H a ds) (s : TK H H') : TupAt K H' a ds := Rp.tk s _ _ h
theorem RpL.cut (h : RpL K H ds xs) : RpL K H (cutL ds lo hi) (cutL xs lo hi) := by
  unfold cutL
  rw [RpL.len _ _ h]
  exact RpL.take _ (RpL.drop _ h)
theorem slA_tup (h : TupAt K H a ds) (q : ∀ (H' : Hp) (x : Addr), Same H H' → TupAt K H' x (cutL ds lo hi) → Q (.ref x) H') : rSlA K (.ref a) lo hi H Q := by
  obtain ⟨xs, hx, rx⟩ := h.inv
  exact slA_sq hx fun H' x s h' => q H' x s (Rp.tupS h' (RpL.tk (TK.of s) _ _ rx.cut))
theorem catA_tup (ha : TupAt K H a ds) (hb : TupAt K H b es) (hl : ds.length + es.length ≤ 1000000) (q : ∀ (H' : Hp) (x : Addr), Same H H' → TupAt K H' x (ds ++ es) → Q (.ref x) H') : rCatA K (.ref a) (.ref b) H Q := by
  obtain ⟨xs, hx, rx⟩ := ha.inv
  obtain ⟨ys, hy, ry⟩ := hb.inv
  refine catA_sq hx hy (by rw [RpL.len _ _ rx, RpL.len _ _ ry]; exact hl) fun H' x s h' => q H' x s (Rp.tupS h' (RpL.tk (TK.of s) _ _ (RpL.app rx ry)))
/-! ### the same of things of any kind -/
theorem DpAll.app : ∀ {xs ys : List V} {ds es : List PyData}, DpAll K H xs ds → DpAll K H ys es → DpAll K H (xs ++ ys) (ds ++ es)
  | _, _, _, _, .nil, h => h
  | _, _, _, _, .cons h1 h2, h => .cons h1 (DpAll.app h2 h)
theorem DpAll.take : ∀ (k : Nat) {xs : List V} {ds : List PyData}, DpAll K H xs ds → DpAll K H (xs.take k) (ds.take k)
  | 0, _, _, _ => .nil
  | k + 1, _, _, .nil => .nil
  | k + 1, _, _, .cons h1 h2 => .cons h1 (DpAll.take k h2)
theorem DpAll.drop : ∀ (k : Nat) {xs : List V} {ds : List PyData}, DpAll K H xs ds → DpAll K H (xs.drop k) (ds.drop k)
  | 0, _, _, h => h
  | k + 1, _, _, .nil => .nil
  | k + 1, _, _, .cons h1 h2 => DpAll.drop k h2
theorem DpAll.len' : ∀ {vs : List V} {ds : List PyData}, DpAll K H vs ds → vs.length = ds.length
  | _, _, .nil => rfl
  | _, _, .cons _ h => by rw [List.length_cons, List.length_cons, DpAll.len' h]
theorem DpAll.cut (h : DpAll K H xs ds) : DpAll K H (cutL xs lo hi) (cutL ds lo hi) := by
  unfold cutL
  rw [DpAll.len' h]
  exact DpAll.take _ (DpAll.drop _ h)
theorem DpAll.rev : ∀ {xs : List V} {ds : List PyData}, DpAll K H xs ds → DpAll K H xs.reverse ds.reverse
  | _, _, .nil => .nil
  | _, _, .cons h1 h2 => by
    rw [List.reverse_cons, List.reverse_cons]
    exact DpAll.app (DpAll.rev h2) (.cons h1 .nil)
end
end Wn
namespace Wn
open PySem L2
/-- a part of a tuple that isn't the whole: a new one -/
theorem slA_new {K : PySem.W.Frag} {H : Hp} {a : Addr} {xs : List V} {lo hi : Option Int} {Q : VK} (h : SqT K H a xs) (hw : ¬ (HT.sIx xs.length 0 lo = 0 ∧ HT.sIx xs.length xs.length hi = xs.length))
    (q : ∀ (H' : Hp) (x : Addr), Same H H' → H x = none → H' x = some (.tup (cutL xs lo hi)) → Q (.ref x) H') : rSlA K (.ref a) lo hi H Q :=
  ⟨a, xs, rfl, h, fun z => absurd z hw, fun _ p hp => q _ p ((L2.Same.refl _).new hp) hp upd_same⟩
theorem slA_2of4 {K : PySem.W.Frag} {H : Hp} {a : Addr} {x1 x2 x3 x4 : V} {Q : VK} (h : SqT K H a [x1, x2, x3, x4])
    (q : ∀ (H' : Hp) (x : Addr), Same H H' → H x = none → H' x = some (.tup [x1, x2]) → Q (.ref x) H') : rSlA K (.ref a) none (some 2) H Q :=
  slA_new h (fun z => absurd z.2 (by show ¬ (2 : Nat) = 4; decide)) fun H' x s n e => q H' x s n (by
    have e2 : cutL [x1, x2, x3, x4] none (some 2) = [x1, x2] := cutL_to _ 2
    rw [e2] at e
    exact e)
end Wn

namespace Wn
open PySem L2
section
variable {X : Cx} {ι : Type} {C f : ι → Addr} {fd : ι → FuncData} {sp : ι → Sp} {o e : Expr} {es : List Expr} {m : Str} {ta : TE} {t : TA} {CX : CXT} {k : Nat} {ps : List Str} {ds : List Value} {dvs : List V} {E : XK} {apos pos : Pos}
/-- o.m(..), o of one of some classes -/
def tMethI (C : ι → Addr) (m : Str) (sp : ι → Sp) (dvs : List V) (E : XK) (ta : TE) (t : TA) : TE := fun σ H Q => ta σ H fun x H1 => ∃ i a dx fs, x = .ref a ∧ H1 a = some (.ins (C i) dx fs) ∧ fs.lookup m = none ∧
  t σ H1 fun vs H2 => sp i (x :: (vs ++ dvs)) H2 Q E
theorem pe_methI {pl : Sem Bool} (he : PE X o ta) (c : ∀ i, Cls X.K (C i)) (hm : ∀ i, Meth X.K (C i) m (f i)) (F : ∀ i, FnOk X.prog X.w X.K X.mg X.base CX k (f i) (fd i) ps (sp i)) (hr : Room k X.A) (hb : ∀ i, Binds X.K (fd i) ps ds) (hd : Vals dvs ds) (hx : Passes CX X E) (ha : PA X (e :: es) t)
    (hst : starEach (e :: es) X.env = (false, eval e X.env) :: starEach es X.env := by rfl) (hpl : (backTo pos (starEach es X.env)).any (·.1) = false := by rfl)
    (ht : eval (.Call (.Attribute o m apos) (e :: es) [] pos) X.env = (do
      let ov ← eval o X.env
      standAt apos.atName
      let (f, first) ← holding [ov] (getMethod ov m pl)
      callWith pos f first (backTo pos (starEach (e :: es) X.env)) (backToKw pos (keywordEach [] X.env))) := by rfl) :
    PE X (.Call (.Attribute o m apos) (e :: es) [] pos) (tMethI C m sp dvs E ta t) := by
  refine ⟨fun pins s σ H Q I h => ?_⟩
  refine PySem.W.methodCall_KW (pl := pl) (thn (he.run pins s σ H _ I h) fun u s1 ⟨x, H1, I1, rx, i, a, dx, fs, ex, ea, l, q⟩ => ?_) ht
  subst ex
  obtain rfl : u = Value.ref a := rx
  refine getmeth_ok I1 ea (c i) (hm i) l ?_
  refine PySem.W.callWith_K (first := [.ref a]) (h₀ := X.base) I.ok.mod.kin (hm i).kp (thn (ha.run pos pins s1 σ H1 _ I1 q) fun us s2 ⟨vs, H2, I2, r, q2⟩ => ⟨I2.kIn, ?_⟩) hst hpl
  exact run_fn (us := .ref a :: us) (vs := .ref a :: vs) (F i) hr (hb i) hd hx I2 (.cons rfl r) q2
theorem pe_methI0 {pl : Sem Bool} (he : PE X o ta) (c : ∀ i, Cls X.K (C i)) (hm : ∀ i, Meth X.K (C i) m (f i)) (F : ∀ i, FnOk X.prog X.w X.K X.mg X.base CX k (f i) (fd i) ps (sp i)) (hr : Room k X.A) (hb : ∀ i, Binds X.K (fd i) ps ds) (hd : Vals dvs ds) (hx : Passes CX X E)
    (ht : eval (.Call (.Attribute o m apos) [] [] pos) X.env = (do
      let ov ← eval o X.env
      standAt apos.atName
      let (f, first) ← holding [ov] (getMethod ov m pl)
      callWith pos f first (backTo pos (starEach [] X.env)) (backToKw pos (keywordEach [] X.env))) := by rfl) :
    PE X (.Call (.Attribute o m apos) [] [] pos) (tMethI C m sp dvs E ta tNil) := by
  refine ⟨fun pins s σ H Q I h => ?_⟩
  refine PySem.W.methodCall_KW (pl := pl) (thn (he.run pins s σ H _ I h) fun u s1 ⟨x, H1, I1, rx, i, a, dx, fs, ex, ea, l, q⟩ => ?_) ht
  subst ex
  obtain rfl : u = Value.ref a := rx
  refine getmeth_ok I1 ea (c i) (hm i) l ?_
  exact PySem.W.callWith_K0 (first := [.ref a]) I1.kIn (hm i).kp (run_fn (us := [.ref a]) (vs := [.ref a]) (F i) hr (hb i) hd hx I1 (.cons rfl .nil) q)
end
section
variable {X : Cx} {K : PySem.W.Frag}
/-- len(s), s a set of tuples -/
def rLenSetT (K : PySem.W.Frag) (P : Program) (w : World) : List V → Hp → VK → Prop := fun xs H Q => ∃ a L, xs = [V.ref a] ∧ H a = some (SetTO P w a L) ∧ (∀ p ∈ L, SqT K H p.1 (p.2.map V.int)) ∧ ((L.map (·.2)).Nodup → Q (.int L.length) H)
theorem call_lenSetT : CallR X (.builtin "len") (rLenSetT X.K X.prog X.w) := by
  intro pins s σ H vs us Q I r h
  obtain ⟨a, L, rfl, ha, hk, q⟩ := h
  have R0 : SetT0 X.prog X.w s.heap a L := (I.hok a _ ha).1
  obtain ⟨es, ep, t, R⟩ := R0.full fun p hp => I.isT (hk p hp)
  rw [Vals.ref1 r]
  obtain ⟨o, ho, hex, hd⟩ := R.ob
  have hn := R.size
  have hf := R.few
  exact call_len_set ho hex hd R.fits (by omega) ⟨.int L.length, H, I.tok _, ⟨_, by rw [hn]⟩, q R.nd⟩
theorem lenSetTK {P : Program} {w : World} (hK : X.K = K) (hP : X.prog = P) (hw : X.w = w) : CallR X (.builtin "len") (rLenSetT K P w) := hK ▸ hP ▸ hw ▸ call_lenSetT
theorem setOfTK {P : Program} {w : World} (hK : X.K = K) (hP : X.prog = P) (hw : X.w = w) (hc : X.calm = true) (hu : X.A.units + 64 < cLine) : CallR X (.type "set") (rSetOfT K P w) := hK ▸ hP ▸ hw ▸ cr_setOfT hc hu
theorem sortedTK {P : Program} {w : World} (hK : X.K = K) (hP : X.prog = P) (hw : X.w = w) (hc : X.calm = true) : CallR X (.builtin "sorted") (rSortedT K P w) := hK ▸ hP ▸ hw ▸ cr_sortedT hc
theorem sortUK {d : Nat} {B : Int} (hK : X.K = K) (hd : 1 ≤ d) : CallR X (.builtin "sorted") (rSortU K d B) := hK ▸ cr_sortT hd
theorem inDK (hK : X.K = K) (hu : X.A.units + 65 < cLine) : OpR X (compareOp .In) (rInD K) := hK ▸ op_inD hu
theorem notInDK (hK : X.K = K) (hu : X.A.units + 65 < cLine) : OpR X (compareOp .NotIn) (rNotInD K) := hK ▸ op_notInD hu
end
end Wn
namespace Wn
open PySem L2
section
variable {X : Cx} {K : PySem.W.Frag}
theorem lenSetIK {a : Expr} {ta : TE} {p p2 q pos : Pos} (hK : X.K = K) (hc : X.calm = true) (hg : Gl X "len") (hm : X.mg "len" = none) (hg2 : Gl X "set") (hm2 : X.mg "set" = none) (ha : PE X a ta)
    (na : starEach [a] X.env = (false, eval a X.env) :: starEach [] X.env := by rfl) : PE X (.Call (.Name "len" p) [.Call (.Name "set" p2) [a] [] q] [] pos) (tLenSetI K ta) := hK ▸ pe_lenSetI hc hg hm hg2 hm2 ha na
end
end Wn

namespace Wn
open PySem L2
/-- a list that rises already is its own sorted one -/
theorem sorted_self {le lt : V → V → Prop} (h : ∀ x y, lt x y → le y x → False) : ∀ {xs ys : List V}, ys.Perm xs → ys.Pairwise le → xs.Pairwise lt → ys = xs
  | [], ys, p, _, _ => List.Perm.eq_nil p
  | x :: xs, [], p, _, _ => by
    have := p.length_eq
    cases this
  | x :: xs, y :: ys, p, sy, sx => by
    rw [List.pairwise_cons] at sy sx
    by_cases e : y = x
    · subst e
      rw [sorted_self h (List.Perm.cons_inv p) sy.2 sx.2]
    · have hy : y ∈ xs := by
        have : y ∈ x :: xs := p.mem_iff.mp List.mem_cons_self
        rcases List.mem_cons.mp this with z | z
        · exact absurd z e
        · exact z
      have hx : x ∈ ys := by
        have : x ∈ y :: ys := p.mem_iff.mpr List.mem_cons_self
        rcases List.mem_cons.mp this with z | z
        · exact absurd z.symm e
        · exact z
      exact (h x y (sx.1 y hy) (sy.1 x hx)).elim
theorem code3 (B a b c : Int) : TS.code B [a, b, c] = a * (B * B) + (b * B + c) := by
  show a * B ^ 2 + (b * B ^ 1 + (c * B ^ 0 + 0)) = _
  rw [show B ^ 2 = B * B by rw [Int.pow_succ, Int.pow_succ, Int.pow_zero, Int.one_mul], show B ^ 1 = B by rw [Int.pow_succ, Int.pow_zero, Int.one_mul], Int.pow_zero]
  omega
theorem code2 (B a b : Int) : TS.code B [a, b] = a * B + b := by
  show a * B ^ 1 + (b * B ^ 0 + 0) = _
  rw [show B ^ 1 = B by rw [Int.pow_succ, Int.pow_zero, Int.one_mul], Int.pow_zero]
  omega
end Wn

namespace Wn
open PySem L2
def top (i : Nat) : Stmt := PySem.Challenge.pw_wrapnets_k04_whole_settled_fars_alone.main.body.getD i (.Pass ⟨0, 0, 0, 0⟩)
end Wn

namespace Wn
open PySem PySem.Spec PyProof.Rows L2
/-- enumerate of a text: each sign in a new pair -/
def ItsE (x : Str) : It :=
  ⟨fun i _ => i < x.cps.size, fun i H v H' => ∃ T c, v = .ref T ∧ H T = none ∧ H' = upd H T (.tup [.int (i : Nat), .str ⟨#[c]⟩]) ∧ x.cps[i]? = some c, fun i _ => x.cps.size ≤ i⟩
theorem turn_enumS {P : Program} {w : World} {K : PySem.W.Frag} {elts : List Expr} {kk : Nat} {tpos : Pos} (e it : Addr) (x : Str) (t : Tok) (ty : String) (hty : ty = "str_ascii_iterator" ∨ ty = "str_iterator") :
    Turn P w K (.Tuple elts kk tpos) (ItsE x) [e, it] e (fun i h => (∃ old, IsEnum h e it ((i : Nat) : Int) old) ∧ h.IsStrIter it ty x t i ∧ e ≠ it) where
  mem := by simp
  obj := fun i h st b hb => by
    obtain ⟨⟨old, he⟩, ⟨o, ho, hc, hd⟩, _⟩ := st
    have e' : b = e ∨ b = it := by simpa using hb
    rcases e' with z | z
    · rw [z]; exact ⟨_, he, fun v q => nomatch q⟩
    · rw [z]; exact ⟨o, ho, fun v q => by rw [hd] at q; cases q⟩
  keep := fun i h h' st k => let ⟨⟨old, he⟩, ⟨o, ho, r⟩, hne⟩ := st; ⟨⟨old, k e (by simp) _ he⟩, ⟨o, k it (by simp) o ho, r⟩, hne⟩
  item := by
    intro X hP hw hK hc i pins s σ H E I hf st hg
    subst hP hw hK
    obtain ⟨⟨old, he⟩, hit, hne⟩ := st
    have hh : X.A.in1.handled = none := I.ok.hd hc
    have hel : e < s.heap.objs.size := Heap.lt_size he
    have hil : it < s.heap.objs.size := by obtain ⟨_, q, _⟩ := hit; exact Heap.lt_size q
    have D : Draws X.prog X.w X.A.in1 it [it] x.cps.size (fun i v => ∃ c u, x.cps[i]? = some c ∧ v = .str ⟨#[c]⟩ u) (fun i h => h.IsStrIter it ty x t i) := by
      rcases hty with z | z
      · rw [z]; exact Draws.strAscii hh it x t
      · rw [z]; exact Draws.strWide hh it x t
    refine wpAny_pyNext_enum_itemD D he hit hg hne (by simpa using hne) fun v h' tk hv ho hit' hT hsz hk => ?_
    obtain ⟨c, u, hcx, rfl⟩ := hv
    refine ⟨_, rfl, wpAny_letOwnedTupleGo_enum (s := { s with heap := h', toks := tk + 1 }) ho fun h'' he' sb => ?_⟩
    have hT2 : h''.get? s.heap.objs.size = some { cls := .type "tuple", data := .seq #[.int i tk, .str ⟨#[c]⟩ u] } := (sb.2 _ (Nat.ne_of_gt hel)).trans hT
    have new : ObjOk X.prog X.w (upd H s.heap.objs.size (.tup [.int (i : Nat), .str ⟨#[c]⟩])) h'' s.heap.objs.size (.tup [.int (i : Nat), .str ⟨#[c]⟩]) :=
      ⟨by show 2 ≤ sizeLine; decide, [.int i tk, .str ⟨#[c]⟩ u], .cons ⟨_, rfl⟩ (.cons ⟨_, rfl⟩ .nil), ⟨_, hT2, rfl, _, rfl⟩⟩
    have I1 : Inv X pins σ (upd H s.heap.objs.size (.tup [.int (i : Nat), .str ⟨#[c]⟩])) { s with heap := h'', toks := tk + 1 } :=
      I.turnedNew (ch := [e, it]) (fun b ob hb q => (sb.2 b (fun z => hb (by simp [z]))).trans (hk b ob (fun z => hb (by simp [z])) (fun z => hb (by simp [z])) q)) hf (Nat.le_refl _) new
    refine ⟨.ref s.heap.objs.size, _, I1, rfl, ⟨_, c, rfl, I.hok.fresh (Nat.le_refl _), rfl, hcx⟩, ⟨⟨.str ⟨#[c]⟩ u, ?_⟩, ?_, hne⟩, fun b hb => ?_⟩
    · have e1 : ((i + 1 : Nat) : Int) = (i : Int) + 1 := by omega
      rw [e1]; exact he'
    · obtain ⟨o, q, r⟩ := hit'
      exact ⟨o, (sb.2 it (Ne.symm hne)).trans q, r⟩
    · have hb' : b < s.heap.objs.size := by
        have e' : b = e ∨ b = it := by simpa using hb
        rcases e' with z | z
        · rw [z]; exact hel
        · rw [z]; exact hil
      rw [upd_ne (Nat.ne_of_lt hb')]
      exact (hf b hb).1
  done := by
    intro X hP hw hK hc i pins s σ H E I hf st hg
    subst hP hw hK
    obtain ⟨⟨old, he⟩, hit, hne⟩ := st
    have hh : X.A.in1.handled = none := I.ok.hd hc
    obtain ⟨f0, f1, f2, f3, f4, f5⟩ := hf it (by simp)
    have D : Draws X.prog X.w X.A.in1 it [it] i (fun i v => False) (fun j h => j = i ∧ h.IsStrIter it ty x t i) := by
      refine ⟨fun _ _ st => let ⟨o, ho, _⟩ := st.2; ⟨o, ho⟩, fun _ _ _ st hk => let ⟨o, ho, r⟩ := st.2; ⟨st.1, o, hk it (by simp) o ho, r⟩, fun j s Q E hj st => absurd st.1 (Nat.ne_of_lt hj), fun s Q E st hE => ?_⟩
      have hx : x.cps[i]? = none := Array.getElem?_eq_none hg
      have st2 := st.2
      rcases hty with z | z
      · rw [z] at st2; exact wpAny_nextOf_ascii_end hh st2 hx hE
      · rw [z] at st2; exact wpAny_nextOf_wide_end hh st2 hx hE
    exact wpAny_pyNext_enum_endD D he ⟨rfl, hit⟩ fun h' eb => ⟨rfl, I.turned (t' := s.toks) (fun b o hb q => eb b o hb q) f0 f1 f3 f4 f5⟩
  self := fun A i s Q E st h => let ⟨⟨_, he⟩, _⟩ := st; wpAny_pyIter_enum he h
def iEnumS (ta : TA) : TI := fun σ H R => ta σ H fun vs H1 => ∃ x, vs = [.str x] ∧ R (ItsE x) H1
theorem pi_enumS {X : Cx} {e : Expr} {ta : TA} {p pos tpos : Pos} {elts : List Expr} {kk : Nat} (hg : Gl X "enumerate") (hm : X.mg "enumerate" = none) (ha : PA X [e] ta) (hs : starEach [e] X.env = [(false, eval e X.env)] := by rfl) :
    PI X (.Tuple elts kk tpos) (.Call (.Name "enumerate" p) [e] [] pos) (iEnumS ta) := by
  refine ⟨fun pins s σ H R I h => ?_⟩
  refine Call_ (ld_blt I hg hm boot_enumerate (PyProof.Rows.callWith_type1 (thn (ha.run pos pins s σ H _ I h) fun us s1 ⟨vs, H1, I1, r1, q1⟩ => ?_) hs rfl))
  obtain ⟨x, ex, q⟩ := q1
  subst ex
  cases r1 with
  | cons r rr =>
    cases rr
    obtain ⟨t, rfl⟩ := r
    refine call_enumerate_str fun h' he hit hsz hk => wpAny_pyIter_enum he ?_
    have I2 : Inv X pins σ H1 { s1 with heap := h' } := I1.kept (t' := s1.toks) hk
    refine ⟨s1.heap.objs.size + 1, [s1.heap.objs.size + 1, s1.heap.objs.size], _, _, H1, rfl, I2, turn_enumS (s1.heap.objs.size + 1) s1.heap.objs.size x t (strIterType x) ?_, ⟨⟨.none, he⟩, hit, Nat.succ_ne_self _⟩, fun b hb => ?_, q⟩
    · unfold strIterType
      split
      · exact .inl rfl
      · exact .inr rfl
    have e' : b = s1.heap.objs.size + 1 ∨ b = s1.heap.objs.size := by simpa using hb
    have hle : s1.heap.objs.size ≤ b := by
      rcases e' with z | z
      · rw [z]; exact Nat.le_add_right _ _
      · rw [z]; exact Nat.le_refl _
    exact I1.fpOk hle (I1.hok.fresh hle)
theorem walk_enumS {x : Str} : Walk (ItsE x) x.cps.size (fun _ => True) (fun i H v H' => ∃ T c, v = .ref T ∧ H T = none ∧ H' = upd H T (.tup [.int (i : Nat), .str ⟨#[c]⟩]) ∧ x.cps[i]? = some c) :=
  ⟨fun _ _ hi _ => hi, fun _ _ => Nat.le_refl _, fun _ _ _ _ _ _ y => y⟩
end Wn

namespace Wn
open PySem PySem.Spec PyProof.Rows L2
section
open AutoSeq1 (wpAny_loadPart')
theorem drawsTuple {prog : Program} {w : World} {A : Around} (hh : A.handled = none) (it l : Addr) (hne : l ≠ it) (items : Array Value) :
    Draws prog w A it [it, l] items.size (fun i v => items[i]? = some v) (fun i h => h.IsTupleIter it l i ∧ h.IsTuple l items) where
  live := fun _ _ st => let ⟨o, ho, _⟩ := st.1; ⟨o, ho⟩
  frame := fun _ _ _ st hk => ⟨st.1.at fun o e => hk it (by simp) o e, let ⟨o, ho, r⟩ := st.2; ⟨o, hk l (by simp) o ho, r⟩⟩
  item := fun i s Q E hi st hQ => by
    refine RZ.nextOf_tuple_item st.1 st.2 (x := items[i]) (by simp [hi]) fun h' hit' hs' => ?_
    exact hQ _ h' s.toks (by simp [hi]) ⟨hit', let ⟨o, ho, r⟩ := st.2; ⟨o, (hs'.2 l hne).trans ho, r⟩⟩ hs'
  done := fun s Q E st hE => RZ.nextOf_tuple_end hh st.1 st.2 (by simp) hE
theorem meets_enumerate_newT (l : Addr) (items : Array Value) (n : Nat) (dct : Option Addr) (sl : Array (Option Value)) :
    Meets (Builtin.«enumerate.__new__» ⟨[.type "enumerate", .ref l], []⟩) (fun _ R s => s.heap.get? l = some { cls := .type "tuple", dict := dct, data := .seq items n, slots := sl } ∧
      R (.ok (.ret (.ref (s.heap.push { cls := .type "tuple_iterator", data := .fields #[.ref l, .int 0 0] }).objs.size)))
        { s with heap := (s.heap.push { cls := .type "tuple_iterator", data := .fields #[.ref l, .int 0 0] }).push { cls := .type "enumerate", data := .fields #[.none, .bool false, .ref s.heap.objs.size, rawInt 0, .none, .none] } }) :=
  .of_wp fun prog w A R s h => by
    obtain ⟨hp, g, d, tk, os⟩ := s; obtain ⟨hl, h⟩ := h
    have hsub := sub_enumerate
    have hL : Heap.IsTuple (Shared.heap ⟨hp, g, d, tk, os⟩) l items := ⟨_, hl, rfl, n, rfl⟩
    wp_walk using wpAny_loadPart' hl
    refine wpAny_stack_any fun st => wpAny_pure ?_
    split
    · rename_i c _ _ _ _ _
      cases (c == Value.type "enumerate")
      · wp_walk using wpAny_loadPart' hl, wpAny_pyIter_tuple hL
        exact ⟨_, rfl, h⟩
      · wp_walk using wpAny_loadPart' hl, wpAny_pyIter_tuple hL
        exact ⟨_, rfl, h⟩
    · wp_walk using wpAny_loadPart' hl, wpAny_pyIter_tuple hL
      exact ⟨_, rfl, h⟩
theorem call_enumerate_tuple {prog : Program} {w : World} {A : Around} {E : Value → Shared → Prop} {s : Shared} {l : Addr} {items : Array Value} {Q : Value → Shared → Prop} (hL : s.heap.IsTuple l items)
    (h : ∀ h', IsEnum h' (s.heap.objs.size + 1) s.heap.objs.size 0 .none → h'.IsTupleIter s.heap.objs.size l 0 → h'.objs.size = s.heap.objs.size + 2 →
      (∀ b o, s.heap.get? b = some o → h'.get? b = some o) → Q (.ref (s.heap.objs.size + 1)) { s with heap := h' }) :
    wpAny (model prog w) A (call (.type "enumerate") [.ref l]) Q E s := by
  obtain ⟨⟨c, dct, dt, sl⟩, hl, hc, n, hd⟩ := hL
  replace hc : c = .type "tuple" := hc
  replace hd : dt = .seq items n := hd
  subst hc hd
  refine callType_new F.called_enumerate (by decide) (F.typeCall_enumerate_1 _) (F.newCall_enumerate_1 _) (fun obj => F.args_object_init_2 obj _) F.entry_enumerate_new
    (meets_enumerate_newT l items n dct sl) ⟨hl, ?_⟩
  have hz : (s.heap.push { cls := .type "tuple_iterator", data := .fields #[.ref l, .int 0 0] }).objs.size = s.heap.objs.size + 1 := Heap.size_push ..
  show _ ∧ _
  rw [hz]
  have he : IsEnum ((s.heap.push { cls := .type "tuple_iterator", data := .fields #[.ref l, .int 0 0] }).push
      { cls := .type "enumerate", data := .fields #[.none, .bool false, .ref s.heap.objs.size, rawInt 0, .none, .none] }) (s.heap.objs.size + 1) s.heap.objs.size 0 .none := by
    have := Heap.get?_push_size (s.heap.push { cls := .type "tuple_iterator", data := .fields #[.ref l, .int 0 0] })
      (o := { cls := .type "enumerate", data := .fields #[.none, .bool false, .ref s.heap.objs.size, rawInt 0, .none, .none] }) rfl
    rw [hz] at this; exact this
  refine ⟨⟨_, he, rfl⟩, h _ he ⟨_, Heap.get?_push_of_some _ (Heap.get?_push_size _ rfl), rfl, rfl⟩ (by rw [Heap.size_push, hz]) fun b o x => Heap.get?_push_of_some _ (Heap.get?_push_of_some _ x)⟩
end
/-- enumerate of a tuple: each item in a new pair -/
def IttE (K : PySem.W.Frag) (a : Addr) : It :=
  ⟨fun i H => ∃ (xs : List V) (x : V), SqT K H a xs ∧ xs[i]? = some x, fun i H v H' => ∃ T x, v = .ref T ∧ H T = none ∧ H' = upd H T (.tup [.int (i : Nat), x]) ∧ ∀ xs, SqT K H a xs → xs[i]? = some x, fun i H => ∃ xs : List V, SqT K H a xs ∧ xs.length ≤ i⟩
theorem turn_enumT {P : Program} {w : World} {K : PySem.W.Frag} {elts : List Expr} {kk : Nat} {tpos : Pos} (a e it : Addr) :
    Turn P w K (.Tuple elts kk tpos) (IttE K a) [e, it] e (fun i h => (∃ old, IsEnum h e it ((i : Nat) : Int) old) ∧ h.IsTupleIter it a i ∧ e ≠ it) where
  mem := by simp
  obj := fun i h st b hb => by
    obtain ⟨⟨old, he⟩, ⟨o, ho, hc, hd⟩, _⟩ := st
    have e' : b = e ∨ b = it := by simpa using hb
    rcases e' with z | z
    · rw [z]; exact ⟨_, he, fun v q => nomatch q⟩
    · rw [z]; exact ⟨o, ho, fun v q => by rw [hd] at q; cases q⟩
  keep := fun i h h' st k => let ⟨⟨old, he⟩, hi, hne⟩ := st; ⟨⟨old, k e (by simp) _ he⟩, hi.at fun o q => k it (by simp) o q, hne⟩
  item := by
    intro X hP hw hK hc i pins s σ H E I hf st hg
    subst hP hw hK
    obtain ⟨⟨old, he⟩, hit, hne⟩ := st
    obtain ⟨xs, x, hq, hx⟩ := hg
    obtain ⟨its, rv, p, hz⟩ := I.tuple hq
    obtain ⟨u, hu, ru⟩ := rv.get hx
    have hh : X.A.in1.handled = none := I.ok.hd hc
    have hel : e < s.heap.objs.size := Heap.lt_size he
    have hil : it < s.heap.objs.size := by obtain ⟨_, q, _⟩ := hit; exact Heap.lt_size q
    have p' : s.heap.IsTuple a its.toArray := p
    have hai : a ≠ it := fun z => by
      obtain ⟨o, ho, hc1, _⟩ := hit
      obtain ⟨o2, ho2, hc2, _⟩ := p'
      rw [z, ho] at ho2
      cases ho2
      rw [hc1] at hc2
      exact absurd hc2 (by decide)
    have hae : a ≠ e := fun z => by
      have he' : s.heap.get? e = _ := he
      obtain ⟨o2, ho2, hc2, _⟩ := p'
      rw [z, he'] at ho2
      cases ho2
      have hc3 : Value.type "enumerate" = Value.type "tuple" := hc2
      exact absurd hc3 (by decide)
    have D := drawsTuple (prog := X.prog) (w := X.w) (A := X.A.in1) hh it a hai its.toArray
    refine wpAny_pyNext_enum_itemD D he ⟨hit, p'⟩ (by have := (List.getElem?_eq_some_iff.mp hu).1; simpa using this) hne (by simp [hne, Ne.symm hae]) fun v h' tk hv ho hit' hT hsz hk => ?_
    obtain rfl : v = u := by
      have hv : its.toArray[i]? = some v := hv
      rw [List.getElem?_toArray, hu] at hv
      exact (Option.some.inj hv).symm
    refine ⟨_, rfl, wpAny_letOwnedTupleGo_enum (s := { s with heap := h', toks := tk + 1 }) ho fun h'' he' sb => ?_⟩
    have hT2 : h''.get? s.heap.objs.size = some { cls := .type "tuple", data := .seq #[.int i tk, v] } := (sb.2 _ (Nat.ne_of_gt hel)).trans hT
    have new : ObjOk X.prog X.w (upd H s.heap.objs.size (.tup [.int (i : Nat), x])) h'' s.heap.objs.size (.tup [.int (i : Nat), x]) :=
      ⟨by show 2 ≤ sizeLine; decide, [.int i tk, v], .cons ⟨_, rfl⟩ (.cons ru .nil), ⟨_, hT2, rfl, _, rfl⟩⟩
    have I1 : Inv X pins σ (upd H s.heap.objs.size (.tup [.int (i : Nat), x])) { s with heap := h'', toks := tk + 1 } :=
      I.turnedNew (ch := [e, it]) (fun b ob hb q => (sb.2 b (fun z => hb (by simp [z]))).trans (hk b ob (fun z => hb (by simp [z])) (fun z => hb (by simp [z])) q)) hf (Nat.le_refl _) new
    refine ⟨.ref s.heap.objs.size, _, I1, rfl, ⟨_, x, rfl, I.hok.fresh (Nat.le_refl _), rfl, fun ys hy => by rw [I.tuple_inj hy hq]; exact hx⟩, ⟨⟨v, ?_⟩, hit'.1.at fun o q => (sb.2 it (Ne.symm hne)).trans q, hne⟩, fun b hb => ?_⟩
    · have e1 : ((i + 1 : Nat) : Int) = (i : Int) + 1 := by omega
      rw [e1]; exact he'
    · have hb' : b < s.heap.objs.size := by
        have e' : b = e ∨ b = it := by simpa using hb
        rcases e' with z | z
        · rw [z]; exact hel
        · rw [z]; exact hil
      rw [upd_ne (Nat.ne_of_lt hb')]
      exact (hf b hb).1
  done := by
    intro X hP hw hK hc i pins s σ H E I hf st hg
    subst hP hw hK
    obtain ⟨⟨old, he⟩, hit, hne⟩ := st
    obtain ⟨xs, hq, hx⟩ := hg
    obtain ⟨its, rv, p, hz⟩ := I.tuple hq
    have hh : X.A.in1.handled = none := I.ok.hd hc
    obtain ⟨f0, f1, f2, f3, f4, f5⟩ := hf it (by simp)
    have hl := rv.length
    have p' : s.heap.IsTuple a its.toArray := p
    have D : Draws X.prog X.w X.A.in1 it [it, a] i (fun i v => False) (fun j h => j = i ∧ h.IsTupleIter it a i ∧ h.IsTuple a its.toArray) := by
      refine ⟨fun _ _ st => let ⟨o, ho, _⟩ := st.2.1; ⟨o, ho⟩, fun _ _ _ st hk => ⟨st.1, st.2.1.at fun o e => hk it (by simp) o e, let ⟨o, ho, r⟩ := st.2.2; ⟨o, hk a (by simp) o ho, r⟩⟩, fun j s Q E hj st => absurd st.1 (Nat.ne_of_lt hj), fun s Q E st hE => ?_⟩
      exact RZ.nextOf_tuple_end hh st.2.1 st.2.2 (by simp; omega) hE
    exact wpAny_pyNext_enum_endD D he ⟨rfl, hit, p'⟩ fun h' eb => ⟨rfl, I.turned (t' := s.toks) (fun b o hb q => eb b o hb q) f0 f1 f3 f4 f5⟩
  self := fun A i s Q E st h => let ⟨⟨_, he⟩, _⟩ := st; wpAny_pyIter_enum he h
def iEnumT (K : PySem.W.Frag) (ta : TA) : TI := fun σ H R => ta σ H fun vs H1 => ∃ a xs, vs = [.ref a] ∧ SqT K H1 a xs ∧ R (IttE K a) H1
theorem pi_enumT {X : Cx} {e : Expr} {ta : TA} {p pos tpos : Pos} {elts : List Expr} {kk : Nat} (hg : Gl X "enumerate") (hm : X.mg "enumerate" = none) (ha : PA X [e] ta) (hs : starEach [e] X.env = [(false, eval e X.env)] := by rfl) :
    PI X (.Tuple elts kk tpos) (.Call (.Name "enumerate" p) [e] [] pos) (iEnumT X.K ta) := by
  refine ⟨fun pins s σ H R I h => ?_⟩
  refine Call_ (ld_blt I hg hm boot_enumerate (PyProof.Rows.callWith_type1 (thn (ha.run pos pins s σ H _ I h) fun us s1 ⟨vs, H1, I1, r1, q1⟩ => ?_) hs rfl))
  obtain ⟨a, xs, ex, hq, q⟩ := q1
  subst ex
  cases r1 with
  | cons r rr =>
    cases rr
    cases r
    obtain ⟨its, rv, p', hz⟩ := I1.tuple hq
    refine call_enumerate_tuple p' fun h' he hit hsz hk => wpAny_pyIter_enum he ?_
    have I2 : Inv X pins σ H1 { s1 with heap := h' } := I1.kept (t' := s1.toks) hk
    refine ⟨s1.heap.objs.size + 1, [s1.heap.objs.size + 1, s1.heap.objs.size], _, _, H1, rfl, I2, turn_enumT a (s1.heap.objs.size + 1) s1.heap.objs.size, ⟨⟨.none, he⟩, hit, Nat.succ_ne_self _⟩, fun b hb => ?_, q⟩
    have e' : b = s1.heap.objs.size + 1 ∨ b = s1.heap.objs.size := by simpa using hb
    have hle : s1.heap.objs.size ≤ b := by
      rcases e' with z | z
      · rw [z]; exact Nat.le_add_right _ _
      · rw [z]; exact Nat.le_refl _
    exact I1.fpOk hle (I1.hok.fresh hle)
theorem walk_enumT {K : PySem.W.Frag} {a : Addr} {xs : List V} : Walk (IttE K a) xs.length (fun H => SqT K H a xs) (fun i H v H' => ∃ T x, v = .ref T ∧ H T = none ∧ H' = upd H T (.tup [.int (i : Nat), x]) ∧ xs[i]? = some x) :=
  ⟨fun i H hi g => ⟨xs, xs[i], g, List.getElem?_eq_getElem hi⟩, fun H g => ⟨xs, g, Nat.le_refl _⟩, fun i H v H' hi g y => by
    obtain ⟨T, x, e1, e2, e3, e4⟩ := y
    exact ⟨T, x, e1, e2, e3, e4 xs g⟩⟩
/-- str of a number or a text -/
theorem call_strU {X : Cx} : CallR X (.type "str") (fun xs H Q => (∃ i : Int, xs = [.int i] ∧ i.natAbs.log2 < 1920 ∧ Q (.str (toString i)) H) ∨ ∃ a, xs = [.str a] ∧ Q (.str a) H) := by
  intro pins s σ H xs us Q I r h
  rcases h with h | h
  · exact call_str_int pins s σ H xs us Q I r h
  · exact SkE.call_str_str pins s σ H xs us Q I r h
/-- a text no times or once -/
theorem op_rep_str {X : Cx} : OpR X (binaryOp .Mult) (fun x y H Q => ∃ (a : Str) (k : Int), x = .str a ∧ y = .int k ∧ ((k = 0 ∧ Q (.str Str.empty) H) ∨ (k = 1 ∧ Q (.str a) H))) := by
  intro pins s σ H x y v u Q I rx ry h
  obtain ⟨a, k, rfl, rfl, h⟩ := h
  obtain ⟨t, rfl⟩ := rx
  obtain ⟨t', rfl⟩ := ry
  rcases h with ⟨rfl, q⟩ | ⟨rfl, q⟩
  · exact PySem.P.mul_str_none (by decide) (by decide) ⟨.str Str.empty, H, I.tok _, ⟨_, rfl⟩, q⟩
  · refine PySem.P.mul_str (by decide) (fun _ h => absurd h (by simp)) (fun _ h => absurd h (by simp)) ?_
    rw [if_neg (by decide), if_pos (by simp)]
    exact ⟨.str a, H, I, ⟨_, rfl⟩, q⟩
end Wn

set_option maxHeartbeats 800000
namespace Wn
open PySem L2
set_option pp.maxSteps 700
set_option pp.deepTerms false
local macro_rules | `(tactic| walk_at "h") => `(tactic| first | with_reducible assumption | (with_reducible exact upd_same) | (with_reducible apply g_upd; (walk_at "neq"); (walk_at "h")) | (with_reducible apply g_same; (with_reducible assumption); (walk_at "h")) | (with_reducible apply g_kp; (with_reducible assumption); (walk_at "nin"); (walk_at "h")) | (with_reducible apply g_tk; (with_reducible assumption); (walk_at "h")))
local macro_rules | `(tactic| walk_at "neq") => `(tactic| first | with_reducible assumption | (with_reducible apply Ne.symm; with_reducible assumption) | (with_reducible apply ne_upd; (with_reducible assumption)) | (with_reducible apply Ne.symm; with_reducible apply ne_upd; with_reducible assumption) | (with_reducible apply ne_fr; (with_reducible assumption); (walk_at "h")) | (with_reducible apply ne_fr'; (with_reducible assumption); (walk_at "h")) | (with_reducible apply ne_kd; (walk_at "h"); (walk_at "h"); (with_unfolding_all (intro z; cases z))))
local macro_rules | `(tactic| walk_at "nin") => `(tactic| first | (with_reducible exact nin0) | with_reducible assumption | (with_reducible apply ninc; (walk_at "neq"); (walk_at "nin")))
local macro_rules | `(tactic| walk_at "none") => `(tactic| first | with_reducible assumption | (with_reducible apply n_upd; (with_reducible assumption)) | (with_reducible apply n_same; (with_reducible assumption); (walk_at "none")) | (with_reducible apply n_kp; (with_reducible assumption); (walk_at "nin"); (walk_at "none")))
local macro_rules | `(tactic| walk_at "mem") => `(tactic| first | (with_reducible exact List.mem_cons_self) | (with_reducible apply List.mem_cons_of_mem; (walk_at "mem")))
local macro_rules | `(tactic| walk_at "am") => `(tactic| first | (with_reducible exact am0) | (with_reducible apply am1; (first | (apply Or.inl; walk_at "mem") | (apply Or.inr; walk_at "none")); (walk_at "am")))
local macro_rules | `(tactic| walk_at "tk") => `(tactic| first | (with_reducible exact TK.refl _) | with_reducible assumption | (with_reducible apply t_tk; (with_reducible assumption); (walk_at "tk")) | (with_reducible apply t_same; (with_reducible assumption); (walk_at "tk")) | (with_reducible apply t_new; (with_reducible assumption); (walk_at "tk")) | (with_reducible apply t_wr; (walk_at "h"); (with_unfolding_all rfl); (walk_at "tk")))
local macro_rules | `(tactic| walk_at "same") => `(tactic| first | (with_reducible exact L2.Same.refl _) | with_reducible assumption | (with_reducible apply s_same; (with_reducible assumption); (walk_at "same")) | (with_reducible apply s_new; (with_reducible assumption); (walk_at "same")) | (with_reducible apply s_wrn; (walk_at "none"); (walk_at "same")))
local macro_rules | `(tactic| walk_at "kp") => `(tactic| first | (with_reducible exact Kp.refl _ _) | with_reducible assumption | (with_reducible apply k_same; (with_reducible assumption); (walk_at "kp")) | (with_reducible apply k_kp; (with_reducible assumption); (walk_at "kp")) | (with_reducible apply k_kpm; (with_reducible assumption); (walk_at "am"); (walk_at "kp")) | (with_reducible apply k_new; (with_reducible assumption); (walk_at "kp")) | (with_reducible apply k_wr; (walk_at "mem"); (walk_at "kp")) | (with_reducible apply k_wrn; (walk_at "none"); (walk_at "kp")))
local macro_rules | `(tactic| walk_at "rp") => `(tactic| first | with_reducible assumption | (with_reducible exact Rp.int) | (with_reducible exact Rp.str) | (with_reducible exact Rp.none) | (with_reducible exact Rp.bool) | (with_reducible apply Rp.tk'; (with_reducible assumption); (walk_at "tk")) | (with_reducible apply Rp.tup; (walk_at "h"); (walk_at "rpl")))
local macro_rules | `(tactic| walk_at "rpl") => `(tactic| first | with_reducible assumption | (with_reducible exact RpL.nil) | (with_reducible apply RpL.tk'; (with_reducible assumption); (walk_at "tk")) | (with_reducible apply RpL.cons; (walk_at "rp"); (walk_at "rpl")))
local macro_rules | `(tactic| walk_at "g") => `(tactic| repeat (first | refine ⟨_, rfl, ?_⟩ | refine ⟨_, _, rfl, rfl, ?_⟩ | refine ⟨rfl, _, rfl, ?_⟩ | refine ⟨_, _, rfl, rfl, (by first | decide | omega), ?_⟩))
theorem rpl_intsR {K : PySem.W.Frag} {H : Hp} (xs : List Int) : RpL K H (xs.map PyData.int) (xs.map V.int) := by
  induction xs with
  | nil => exact RpL.nil
  | cons n ns ih => exact RpL.cons Rp.int ih
abbrev sNear : Stmt := top 5
abbrev sTRow : Stmt := top 6
abbrev sTAll : Stmt := top 7
structure FB (mg : Str → Option Value) : Prop where
  range : mg "range" = none
  zip : mg "zip" = none
  len : mg "len" = none
  min : mg "min" = none
  tuple : mg "tuple" = none
def ndD (p : Nat × Nat) : PyData := .tuple [.int p.1, .int p.2]
/-- for each house a list of (house, delay) -/
structure NearAt (K : PySem.W.Frag) (H : Hp) (a : Addr) (ls : List Addr) (near : Nat → List (Nat × Nat)) : Prop where
  l : H a = some (.lst (ls.map V.ref))
  nd : ls.Nodup
  at' : ∀ (h : Nat) (p : Addr), ls[h]? = some p → LstAt K H p ((near h).map ndD)
theorem NearAt.same {K : PySem.W.Frag} {H H' : Hp} {a : Addr} {ls : List Addr} {near : Nat → List (Nat × Nat)} (h : NearAt K H a ls near) (s : Same H H') : NearAt K H' a ls near :=
  ⟨s _ _ h.l, h.nd, fun i p e => (h.at' i p e).same s⟩
def rowD (X : Mx) (m h : Nat) : PyData := .tuple ((List.range m).map fun o => .int (X h o))
def gridD (X : Mx) (m : Nat) : List PyData := (List.range m).map (rowD X m)
def rdsIn {m : Nat} {rs : List Rd} {bs : List Bool} (R : RdsOk m rs) : RoadsIn m (rs.zip bs) := fun p hp => by
  have o := R.ok p.1 (List.of_mem_zip hp).1
  unfold RdOk at o
  omega
def spNear (K : PySem.W.Frag) : Sp := fun vs H Q _ => ∃ (m : Nat) (rs : List Rd) (bs : List Bool) (la ua : Addr), vs = [.int m, .ref la, .ref ua] ∧ TupAt K H la (rs.map rdD) ∧ TupAt K H ua (bs.map PyData.bool) ∧ bs.length = rs.length ∧ RdsOk m rs ∧
  ∀ (H' : Hp) (a : Addr) (ls : List Addr), Same H H' → ls.length = m → NearAt K H' a ls (nearOf (rs.zip bs)) → Q (.ref a) H'
def spTRow (K : PySem.W.Frag) : Sp := fun vs H Q _ => ∃ (m h : Nat) (rs : List (Rd × Bool)) (X : Mx) (na ga : Addr) (ls : List Addr), vs = [.ref na, .ref ga, .int h] ∧ NearAt K H na ls (nearOf rs) ∧ ls.length = m ∧ m ≤ 8 ∧ rs.length ≤ 14 ∧ RoadsIn m rs ∧ h < m ∧ TupAt K H ga (gridD X m) ∧
  ∀ (H' : Hp) (a : Addr), Same H H' → Rp K H' (rowD (turn rs X) m h) (.ref a) → Q (.ref a) H'
def spTAll (K : PySem.W.Frag) : Sp := fun vs H Q _ => ∃ (m : Nat) (rs : List (Rd × Bool)) (X : Mx) (na ga : Addr) (ls : List Addr), vs = [.ref na, .ref ga] ∧ NearAt K H na ls (nearOf rs) ∧ ls.length = m ∧ m ≤ 8 ∧ rs.length ≤ 14 ∧ RoadsIn m rs ∧ TupAt K H ga (gridD X m) ∧
  ∀ (H' : Hp) (a : Addr), Same H H' → TupAt K H' a (gridD (turn rs X) m) → Q (.ref a) H'

theorem near_snoc (rs : List (Rd × Bool)) (p : Rd × Bool) (h : Nat) : nearOf (rs ++ [p]) h = nearOf rs h ++ near1 h p := by
  unfold nearOf
  rw [List.flatMap_append]
  simp
theorem NearAt.push {K : PySem.W.Frag} {G : Hp} {fo p t : Addr} {ls : List Addr} {near : Nat → List (Nat × Nat)} {h : Nat} {q : Nat × Nat} {zs : List V} (N : NearAt K G fo ls near) (e : ls[h]? = some p) (npf : p ≠ fo) (hz : G p = some (.lst zs)) (rz : RpL K G ((near h).map ndD) zs) (nt : G t = none) :
    upd G t (.tup [.int (q.1 : Int), .int (q.2 : Int)]) p = some (.lst zs) ∧ NearAt K (upd (upd G t (.tup [.int (q.1 : Int), .int (q.2 : Int)])) p (.lst (zs ++ [.ref t]))) fo ls (fun x => if x = h then near h ++ [q] else near x) ∧ Kp [p] G (upd (upd G t (.tup [.int (q.1 : Int), .int (q.2 : Int)])) p (.lst (zs ++ [.ref t]))) ∧ TK G (upd (upd G t (.tup [.int (q.1 : Int), .int (q.2 : Int)])) p (.lst (zs ++ [.ref t]))) := by
  obtain ⟨q1, q2, q3, q4⟩ := push_tup (ds := [.int (q.1 : Int), .int (q.2 : Int)]) hz rz nt (RpL.cons Rp.int (RpL.cons Rp.int RpL.nil))
  refine ⟨q1, ⟨q4 _ _ (nin1 npf.symm) N.l, N.nd, fun x r er => ?_⟩, q4, q3⟩
  by_cases c : x = h
  · subst c
    rw [e] at er
    cases er
    simp only [if_true]
    rw [List.map_append]
    exact q2
  · simp only [if_neg c]
    refine (N.at' x r er).kp q4 q3 (nin1 fun z => ?_)
    subst z
    have h1 := (List.getElem?_eq_some_iff.mp e)
    have h2 := (List.getElem?_eq_some_iff.mp er)
    exact c ((List.getElem_inj N.nd).mp (h2.choose_spec.trans h1.choose_spec.symm))
section
variable {P : Program} {w : World} {K : PySem.W.Frag} {mg : Str → Option Value} {base : Heap}
theorem scNear : FnScope ["houses", "roads", "up", "found", "row", "stands", "house"] ["houses", "roads", "up"] (defScope sNear) := ⟨rfl, rfl, rfl, by decide +kernel, rfl, by decide +kernel, by decide +kernel⟩
theorem ok_near {f : Addr} {fd : FuncData} (F : Fun K "near_rows" "near_rows" sNear f fd) (B : FB mg) : FnOk P w K mg base CX0 1 f fd ["houses", "roads", "up"] (spNear K) := by
  refine F.ok scNear (fun vs H Q E h => ?_) (fun cdv A outer s H vs Q E hr h => ?_)
  · obtain ⟨m, rs, bs, la, ua, rfl, _⟩ := h
    rfl
  · obtain ⟨m, rs, bs, la, ua, rfl, hL, hU, lb, R, k⟩ := h
    refine ⟨_, (pss_cons (ps_setLc (i := 3) (own := [("house", 6)]) (g := (gName 6)) (tt := tYes) rfl scNear.nd rfl rfl (sw_true rfl rfl rfl (by decide +kernel)) (pi_range1 rfl B.range (pa_cons (pv 0) pa_nil)) (blkOk_by (N := ["houses", "roads", "up", "found", "row", "stands", "house"]) (sc := defScope sNear) (by decide +kernel))
       (fun _ _ _ _ _ => (pg_name (i := 6) scNear.nd rfl (Or.inl rfl))) (fun _ _ _ _ _ => pts_nil) (fun _ _ _ _ _ => (pe_lst pa_nil)))
       (pss_cons (ps_for PassesOwn.never rfl (RZ.pi_zipA (by rfl) B.zip (pa_cons (pv 1) (pa_cons (pv 2) pa_nil))) (pg_tup rfl (pgs_cons (pg_name (i := 4) scNear.nd rfl (Or.inl rfl)) (pgs_cons (pg_name (i := 5) scNear.nd rfl (Or.inl rfl)) pgs_nil)))
       (pss_one (ps_if (pt_val (pv 5))
       (pss_cons (ps_expr (pe_bm PySem.F.plainAttrs_list PySem.F.slot_list_append PySem.F.type_list_append mt_append (pe_ix (ixL (K := K) rfl) (pv 3) (pe_ix (ixT (K := K) rfl) (pv 4) pe_int (fun _ _ => rfl)) (fun _ _ => rfl)) (pa_cons (pe_tup (pa_cons (pe_ix (ixT (K := K) rfl) (pv 4) pe_int (fun _ _ => rfl)) (pa_cons (pe_ix (ixT (K := K) rfl) (pv 4) pe_int (fun _ _ => rfl)) pa_nil))) pa_nil)))
       (pss_one (ps_expr (pe_bm PySem.F.plainAttrs_list PySem.F.slot_list_append PySem.F.type_list_append mt_append (pe_ix (ixL (K := K) rfl) (pv 3) (pe_ix (ixT (K := K) rfl) (pv 4) pe_int (fun _ _ => rfl)) (fun _ _ => rfl)) (pa_cons (pe_tup (pa_cons (pe_ix (ixT (K := K) rfl) (pv 4) pe_int (fun _ _ => rfl)) (pa_cons (pe_ix (ixT (K := K) rfl) (pv 4) pe_int (fun _ _ => rfl)) pa_nil))) pa_nil)))))
       pss_nil)))
       (pss_one (ps_ret (pv 3))))), ?_⟩
    obtain ⟨xs, hxs, rx⟩ := hL.inv
    obtain ⟨us, hus, ru⟩ := hU.inv
    have eu := RpL.bools ru
    subst eu
    have lx := RpL.len _ _ rx
    rw [List.length_map] at lx
    have lr := R.few
    have m8 := R.m8
    refine ⟨_, rfl, m, rfl, by omega, by omega, fun fo n_fo => ?_⟩
    refine lc_it walk_range (fun j H' => ∃ ls : List Addr, Same H H' ∧ ls.length = j ∧ H' fo = some (.lst (ls.map V.ref)) ∧ ls.Nodup ∧ ∀ p ∈ ls, H' p = some (.lst []) ∧ H p = none ∧ p ≠ fo) ⟨[], (L2.Same.refl _).new n_fo, rfl, upd_same, List.nodup_nil, fun p hp => by cases hp⟩ (fun _ _ _ _ => trivial) ?_ ?_
    · rintro j x H1 H1' hj ⟨ls, s1, l1, g1, nd1, al1⟩ ⟨rfl, rfl⟩
      refine ⟨rfl, tYes_t (iteT ?_)⟩
      refine ⟨Nat.zero_le _, fun p n_p => ?_⟩
      obtain ⟨H2, e_H2, s2, g2⟩ := new_any n_p
      rw [← e_H2]
      clear e_H2
      have hj : j < m := by simpa using hj
      have npf : p ≠ fo := by walk_at "neq"
      refine ⟨_, s2 _ _ g1, Nat.lt_of_le_of_lt (by rw [List.length_map]; show ls.length ≤ 8; omega) (by decide), ls ++ [p], (s1.trans s2).wrn n_fo, by rw [List.length_append, l1]; rfl, by rw [upd_same, List.map_append]; rfl, ?_, ?_⟩
      · refine List.nodup_append.mpr ⟨nd1, List.nodup_cons.mpr ⟨List.not_mem_nil, List.nodup_nil⟩, fun a ha b hb e => ?_⟩
        rw [List.mem_singleton.mp hb] at e
        exact ne_of_none (al1 a ha).1 n_p e
      · intro q hq
        rcases List.mem_append.mp hq with hq | hq
        · obtain ⟨a1, a2, a3⟩ := al1 q hq
          exact ⟨(upd_ne a3).trans (s2 _ _ a1), a2, a3⟩
        · rw [List.mem_singleton.mp hq]
          exact ⟨(upd_ne npf).trans g2, n_same s1 n_p, npf⟩
    · rintro H1 ⟨ls, s1, l1, g1, nd1, al1⟩
      have l1 : ls.length = m := by simpa using l1
      have al : ∀ p ∈ ls, H p = none ∧ p ≠ fo := fun p hp => (al1 p hp).2
      refine ⟨_, rfl, _, rfl, la, ua, xs, _, rfl, .inr ⟨SqT.sm hxs s1, SqT.sm hus s1, ?_⟩⟩
      have lxu : xs.length = (bs.map V.bl).length := by rw [List.length_map, lx, lb]
      refine RZ.for_zipT lxu (fun i σ H' => ∃ v4 v5 : Option V, σ = [some (.int m), some (.ref la), some (.ref ua), some (.ref fo), v4, v5, none] ∧ Same H H' ∧ NearAt K H' fo ls (nearOf ((rs.zip bs).take i))) ⟨_, _, rfl, s1, ⟨g1, nd1, fun h p e => ⟨[], (al1 p (List.mem_of_getElem? e)).1, RpL.nil⟩⟩⟩ (fun i σ H' ⟨_, _, _, s, _⟩ => ⟨SqT.sm hxs s, SqT.sm hus s⟩) ?_ ?_
      · rintro i x y T σ H2 hx hy ⟨v4, v5, rfl, s2, N2⟩ n_T
        have hi : i < rs.length := by
          have := (List.getElem?_eq_some_iff.mp hx).1
          omega
        have hib : i < bs.length := by omega
        obtain ⟨v, ev, rv⟩ := RpL.get _ _ rx i (rdD rs[i]) (by rw [List.getElem?_map, List.getElem?_eq_getElem hi]; rfl)
        have ex : v = x := Option.some.inj (ev.symm.trans hx)
        subst ex
        have ey : y = .bl bs[i] := by
          rw [List.getElem?_map, List.getElem?_eq_getElem hib] at hy
          exact (Option.some.inj hy).symm
        subst ey
        have et : (rs.zip bs).take (i + 1) = (rs.zip bs).take i ++ [(rs[i], bs[i])] := by
          have hz : i < (rs.zip bs).length := by rw [List.length_zip]; omega
          rw [List.take_succ_eq_append_getElem hz, List.getElem_zip]
        have okr := R.ok _ (List.getElem_mem hi)
        rw [et]
        generalize bs[i] = b
        generalize rs[i] = r at rv okr
        obtain ⟨G1, eG1, sG, gT⟩ := new_any (o := .tup [v, .bl b]) n_T
        rw [← eG1]
        clear eG1
        obtain ⟨t, rfl, ht⟩ := Rp.rd (Rp.tk' rv (TK.of (s2.trans sG)))
        have NG := N2.same sG
        have s0G := s2.trans sG
        refine ⟨T, _, rfl, SqT.of gT, rfl, _, _, rfl, _, _, rfl, rfl, ?_⟩
        refine ⟨_, rfl, _, rfl, iteB (fun c => ?_) (fun c => ?_)⟩
        · subst c
          unfold RdOk at okr
          have ha : r.a < ls.length := by omega
          have hb : r.b < ls.length := by omega
          have ea : ls[r.a]? = some ls[r.a] := List.getElem?_eq_getElem ha
          have eb : ls[r.b]? = some ls[r.b] := List.getElem?_eq_getElem hb
          have nab : ls[r.b] ≠ ls[r.a] := fun z => by
            have := (List.getElem_inj NG.nd).mp z
            omega
          obtain ⟨nA, fA⟩ := al _ (List.getElem_mem ha)
          obtain ⟨nB, fB⟩ := al _ (List.getElem_mem hb)
          generalize ls[r.a] = pa at ea nab nA fA
          generalize ls[r.b] = pb at eb nab nB fB
          have lnear : ∀ h, (nearOf ((rs.zip bs).take i) h).length ≤ 28 := fun h => by
            unfold nearOf
            rw [List.length_flatMap]
            have h1 : ∀ l : List (Rd × Bool), ((l.map fun p => (near1 h p).length).sum) ≤ 2 * l.length := fun l => by
              induction l with
              | nil => exact Nat.zero_le _
              | cons p l ih =>
                rw [List.map_cons, List.sum_cons, List.length_cons]
                have : (near1 h p).length ≤ 2 := by
                  unfold near1
                  split
                  · rw [List.length_append]
                    split <;> split <;> simp
                  · exact Nat.zero_le _
                omega
            have h2 := h1 ((rs.zip bs).take i)
            rw [List.length_take, List.length_zip] at h2
            omega
          obtain ⟨za, hza, rza⟩ := NG.at' _ _ ea
          have lza := RpL.len _ _ rza
          rw [List.length_map] at lza
          have la28 := lnear r.a
          have refa : atI (ls.map V.ref) (r.a : Int) = some (.ref pa) := atI_nat (by rw [List.getElem?_map, ea]; rfl)
          have refb : atI (ls.map V.ref) (r.b : Int) = some (.ref pb) := atI_nat (by rw [List.getElem?_map, eb]; rfl)
          refine ⟨_, rfl, _, rfl, t, _, _, _, rfl, rfl, ht, rfl, fo, _, _, _, rfl, rfl, SqL.of NG.l, refa, .inl ⟨rfl, _, SqL.of hza⟩, _, rfl, t, _, _, _, rfl, rfl, ht, rfl, _, rfl, t, _, _, _, rfl, rfl, ht, rfl, (by show 2 ≤ sizeLine; decide), fun p1 n_p1 => ?_⟩
          obtain ⟨w1, w2, w3, w4⟩ := NG.push (q := (r.b, r.delay)) ea fA hza rza n_p1
          refine ⟨pa, za, _, rfl, rfl, w1, Nat.lt_of_le_of_lt (show za.length ≤ 1000 by omega) (by decide), ?_⟩
          have s3 : Same H (upd (upd G1 p1 (.tup [.int (r.b : Int), .int (r.delay : Int)])) pa (.lst (za ++ [.ref p1]))) := fun c o e => w3 c o (nin1 (ne_of_none e nA)) (s0G _ _ e)
          generalize upd (upd G1 p1 (.tup [.int (r.b : Int), .int (r.delay : Int)])) pa (.lst (za ++ [.ref p1])) = G2 at w2 w3 w4 s3
          have ht2 := SqT.tk ht w4
          obtain ⟨zb, hzb, rzb⟩ := w2.at' _ _ eb
          have nba : ¬ r.b = r.a := by omega
          have rzb : RpL K G2 ((nearOf ((rs.zip bs).take i) r.b).map ndD) zb := by
            simp only [if_neg nba] at rzb
            exact rzb
          have lzb := RpL.len _ _ rzb
          rw [List.length_map] at lzb
          have lb28 := lnear r.b
          refine ⟨_, rfl, _, rfl, t, _, _, _, rfl, rfl, ht2, rfl, fo, _, _, _, rfl, rfl, SqL.of w2.l, refb, .inl ⟨rfl, _, SqL.of hzb⟩, _, rfl, t, _, _, _, rfl, rfl, ht2, rfl, _, rfl, t, _, _, _, rfl, rfl, ht2, rfl, (by show 2 ≤ sizeLine; decide), fun p2 n_p2 => ?_⟩
          obtain ⟨u1, u2, u3, u4⟩ := w2.push (q := (r.a, r.delay)) eb fB hzb (by simp only [if_neg nba]; exact rzb) n_p2
          refine ⟨pb, zb, _, rfl, rfl, u1, Nat.lt_of_le_of_lt (show zb.length ≤ 1000 by omega) (by decide), ?_⟩
          refine ⟨_, _, rfl, fun c o e => u3 c o (nin1 (ne_of_none e nB)) (s3 _ _ e), ?_⟩
          have e0 : (fun x => if x = r.b then (if r.b = r.a then nearOf ((rs.zip bs).take i) r.a ++ [(r.b, r.delay)] else nearOf ((rs.zip bs).take i) r.b) ++ [(r.a, r.delay)] else (if x = r.a then nearOf ((rs.zip bs).take i) r.a ++ [(r.b, r.delay)] else nearOf ((rs.zip bs).take i) x)) = nearOf ((rs.zip bs).take i ++ [(r, true)]) := by
            funext x
            rw [near_snoc]
            unfold near1
            by_cases c1 : x = r.b
            · subst c1
              simp only [if_true, if_neg nba, if_neg (show ¬ r.a = r.b by omega), List.nil_append]
            · by_cases c2 : x = r.a
              · subst c2
                simp only [if_neg c1, if_true, if_neg nba, List.append_nil]
              · simp only [if_neg c1, if_neg c2, if_true, if_neg (show ¬ r.a = x by omega), if_neg (show ¬ r.b = x by omega), List.append_nil]
          rw [← e0]
          exact u2
        · subst c
          refine ⟨_, _, rfl, s0G, ?_⟩
          have e0 : (fun h => nearOf ((rs.zip bs).take i ++ [(r, false)]) h) = nearOf ((rs.zip bs).take i) := by
            funext h
            rw [near_snoc]
            show nearOf ((rs.zip bs).take i) h ++ [] = _
            rw [List.append_nil]
          rw [show nearOf ((rs.zip bs).take i ++ [(r, false)]) = nearOf ((rs.zip bs).take i) from e0]
          exact NG
      · rintro σ H2 ⟨v4, v5, rfl, s2, N2⟩
        refine ⟨_, rfl, k H2 fo ls s2 l1 ?_⟩
        have : (rs.zip bs).take xs.length = rs.zip bs := List.take_of_length_le (by rw [List.length_zip]; omega)
        rw [this] at N2
        exact N2
theorem near_len (rs : List (Rd × Bool)) (h : Nat) : (nearOf rs h).length ≤ 2 * rs.length := by
  unfold nearOf
  rw [List.length_flatMap]
  induction rs with
  | nil => exact Nat.zero_le _
  | cons p l ih =>
    rw [List.map_cons, List.sum_cons, List.length_cons]
    have : (near1 h p).length ≤ 2 := by
      unfold near1
      split
      · rw [List.length_append]
        split <;> split <;> simp
      · exact Nat.zero_le _
    omega
theorem min_eq {l : List Nat} {m : Int} (h1 : m ∈ (l.map fun (n : Nat) => (n : Int)) ++ [24]) (h2 : ∀ y, y ∈ (l.map fun (n : Nat) => (n : Int)) ++ [24] → m ≤ y) : m = (minL l : Nat) := by
  have a : m ≤ (minL l : Nat) := by
    rcases minL_mem l with e | e
    · rw [e]
      exact h2 24 (List.mem_append_right _ (List.mem_singleton.mpr rfl))
    · exact h2 _ (List.mem_append_left _ (List.mem_map.mpr ⟨_, e, rfl⟩))
  have b : ((minL l : Nat) : Int) ≤ m := by
    rcases List.mem_append.mp h1 with h | h
    · obtain ⟨n, hn, rfl⟩ := List.mem_map.mp h
      have := minL_le hn
      omega
    · rw [List.mem_singleton.mp h]
      have := minL_le24 l
      omega
  omega
theorem Rp.nd {H : Hp} {q : Nat × Nat} {v : V} (h : Rp K H (ndD q) v) : ∃ t, v = .ref t ∧ SqT K H t [.int q.1, .int q.2] := by
  unfold ndD Rp at h
  obtain ⟨t, ys, rfl, ht, ry⟩ := h
  unfold RpL at ry
  obtain ⟨v0, r0, rfl, h0, ry⟩ := ry
  unfold RpL at ry
  obtain ⟨v1, r1, rfl, h1, ry⟩ := ry
  unfold RpL at ry
  subst ry
  rw [Rp.int_eq h0, Rp.int_eq h1] at ht
  exact ⟨t, rfl, ht⟩
theorem Rp.ints {H : Hp} {ns : List Int} {v : V} (h : Rp K H (.tuple (ns.map PyData.int)) v) : ∃ t, v = .ref t ∧ SqT K H t (ns.map V.int) := by
  unfold Rp at h
  obtain ⟨t, ys, rfl, ht, ry⟩ := h
  rw [RpL.ints ry] at ht
  exact ⟨t, rfl, ht⟩
theorem rowD_ints (X : Mx) (m h : Nat) : rowD X m h = .tuple (((List.range m).map fun o => ((X h o : Nat) : Int)).map PyData.int) := by
  unfold rowD
  rw [List.map_map]
  rfl
/-- a row of the grid -/
theorem grid_row {H : Hp} {ga : Addr} {X : Mx} {m : Nat} (h : TupAt K H ga (gridD X m)) : ∃ xs, SqT K H ga xs ∧ xs.length = m ∧ ∀ i, i < m → ∃ t, xs[i]? = some (.ref t) ∧ SqT K H t (((List.range m).map fun o => ((X i o : Nat) : Int)).map V.int) := by
  obtain ⟨xs, hx, rx⟩ := h.inv
  have lx := RpL.len _ _ rx
  unfold gridD at lx rx
  rw [List.length_map, List.length_range] at lx
  refine ⟨xs, hx, lx, fun i hi => ?_⟩
  obtain ⟨v, ev, rv⟩ := RpL.get _ _ rx i (rowD X m i) (by rw [List.getElem?_map, List.getElem?_range hi]; rfl)
  rw [rowD_ints] at rv
  obtain ⟨t, rfl, ht⟩ := Rp.ints rv
  exact ⟨t, ev, ht⟩
theorem row_at {m o : Nat} {f : Nat → Nat} (ho : o < m) : atI (((List.range m).map fun o => ((f o : Nat) : Int)).map V.int) (o : Int) = some (.int (f o : Nat)) :=
  atI_nat (by rw [List.getElem?_map, List.getElem?_map, List.getElem?_range ho]; rfl)
theorem scTRow : FnScope ["near", "fars", "house", "found", "other", "ways", "there", "delay"] ["near", "fars", "house"] (defScope sTRow) := ⟨rfl, rfl, rfl, by decide +kernel, rfl, by decide +kernel, by decide +kernel⟩
theorem ok_trow {f : Addr} {fd : FuncData} (F : Fun K "turned_row" "turned_row" sTRow f fd) (B : FB mg) (hFAR : ∃ t, mg "FAR" = some (.int 24 t)) : FnOk P w K mg base CX0 1 f fd ["near", "fars", "house"] (spTRow K) := by
  obtain ⟨tF, mFAR⟩ := hFAR
  refine F.ok scTRow (fun vs H Q E h => ?_) (fun cdv A outer s H vs Q E hr h => ?_)
  · obtain ⟨m, h, rs, X, na, ga, ls, rfl, _⟩ := h
    rfl
  · obtain ⟨m, h, rs, X, na, ga, ls, rfl, N, lls, m8, lrs, RI, hh, hG, k⟩ := h
    refine ⟨_, (pss_cons (ps_set (i := 3) scTRow.nd rfl (Or.inl rfl) (pe_lst pa_nil))
       (pss_cons (ps_for PassesOwn.never rfl (pi_range1 rfl B.range (pa_cons (pe_callB (lenK (K := K) rfl) (by rfl) B.len PySem.boot_len (pa_cons (pv 1) pa_nil)) pa_nil)) (pg_name (i := 4) scTRow.nd rfl (Or.inr rfl))
       (pss_cons (ps_setLc (i := 5) (own := [("there", 6), ("delay", 7)]) (g := (gTup K 2 (gCons (gName 6) (gCons (gName 7) gNil)))) (tt := tYes) rfl scTRow.nd rfl rfl (sw_true rfl rfl rfl (by decide +kernel)) (pi_list (pe_ix (ixL (K := K) rfl) (pv 0) (pv 2) (fun _ _ => rfl))) (blkOk_by (N := ["near", "fars", "house", "found", "other", "ways", "there", "delay"]) (sc := defScope sTRow) (by decide +kernel))
       (fun _ _ _ _ _ => (pg_tup rfl (pgs_cons (pg_name (i := 6) scTRow.nd rfl (Or.inl rfl)) (pgs_cons (pg_name (i := 7) scTRow.nd rfl (Or.inl rfl)) pgs_nil)))) (fun _ _ _ _ _ => pts_nil) (fun _ _ _ _ _ => (pe_op op_add (pv 7) (pe_ix (ixT (K := K) rfl) (pe_ix (ixT (K := K) rfl) (pv 1) (pv 6) (fun _ _ => rfl)) (pv 4) (fun _ _ => rfl)))))
       (pss_one (ps_expr (pe_bm PySem.F.plainAttrs_list PySem.F.slot_list_append PySem.F.type_list_append mt_append (pv 3) (pa_cons (pe_ifExp (pt_cmpR op_eq (pv 4) (pv 2) (nomark _)) pe_int (pe_callB (crMinK (K := K) rfl rfl) (by rfl) B.min (by decide +kernel) (pa_cons (pe_op op_cat (pv 5) (pe_lst (pa_cons (pe_glob (v := .int 24) (by rfl) mFAR ⟨_, rfl⟩) pa_nil))) pa_nil))) pa_nil))))))
       (pss_one (ps_ret (pe_callTy (tupOfK (K := K) rfl) (by rfl) B.tuple PyProof.Rows.boot_tuple (pa_cons (pv 3) pa_nil)))))), ?_⟩
    obtain ⟨xs, hxs, lxs, rows⟩ := grid_row hG
    refine ⟨Nat.zero_le _, fun fo n_fo => ?_⟩
    obtain ⟨H1, e_H1, s1, g1⟩ := new_any n_fo
    rw [← e_H1]
    clear e_H1
    refine ⟨_, rfl, _, xs.length, rfl, .inr ⟨_, SqT.sm hxs s1, rfl⟩, xs.length, rfl, by omega, by omega, ?_⟩
    refine for_range (lo := 0) (fun i σ H' => ∃ v4 v5 : Option V, σ = [some (.ref na), some (.ref ga), some (.int h), some (.ref fo), v4, v5, none, none] ∧ Same H H' ∧ H' fo = some (.lst (((List.range i).map fun o => ((turn rs X h o : Nat) : Int)).map V.int))) ⟨_, _, rfl, s1, g1⟩ ?_ ?_
    · rintro o σ H2 ho ⟨v4, v5, rfl, s2, g2⟩
      have ho : o < m := by omega
      rw [show (0 : Int) + (o : Int) = (o : Int) by omega]
      have eh : ls[h]? = some ls[h] := List.getElem?_eq_getElem (by omega)
      obtain ⟨zs, hz, rz⟩ := (N.same s2).at' _ _ eh
      generalize ls[h] = ph at eh hz
      have refh : atI (ls.map V.ref) (h : Int) = some (.ref ph) := atI_nat (by rw [List.getElem?_map, eh]; rfl)
      have lz := RpL.len _ _ rz
      rw [List.length_map] at lz
      refine ⟨_, rfl, _, rfl, na, _, _, _, rfl, rfl, SqL.of (N.same s2).l, refh, ph, rfl, ⟨_, SqL.of hz⟩, fun D nD => ?_⟩
      refine comp_it (K := K) (enc := ndD) (L := nearOf rs h) (is := [6, 7]) (walk_list (K := K) (a := ph)) (fun H' s' => SqL.of (s' _ _ hz)) (fun _ => true) (fun p => .int ((p.2 + X p.1 o : Nat) : Int)) rz nD ?_ ?_ ?_
      · have := near_len rs h
        omega
      · intro j b x H' Q' N' hb rx s' hQ _
        obtain ⟨t, rfl, ht⟩ := Rp.nd rx
        have bi := near_in RI (List.mem_of_getElem? hb)
        refine ⟨t, _, rfl, ht, rfl, _, _, rfl, _, _, rfl, rfl, ?_⟩
        refine ⟨rfl, tYes_t (iteT ?_)⟩
        have s02 := s2.trans s'
        obtain ⟨u, eu, hu⟩ := rows b.1 bi.1
        refine ⟨_, rfl, _, rfl, _, rfl, ga, _, _, _, rfl, rfl, SqT.sm hxs s02, atI_nat eu, _, rfl, u, _, _, _, rfl, rfl, SqT.sm hu s02, row_at ho, _, _, rfl, rfl, ?_⟩
        refine hQ rfl H' _ (L2.Same.refl _) ?_
        rw [show ((b.2 + X b.1 o : Nat) : Int) = (b.2 : Int) + (X b.1 o : Int) by omega]
        exact Rp.int
      intro H3 ys s3 hD ry
      rw [filter_yes] at ry
      have ey : ys = (((nearOf rs h).map fun p => p.2 + X p.1 o).map fun (n : Nat) => (n : Int)).map V.int := by
        refine RpL.ints (K := K) (H := H3) ?_
        rw [List.map_map, List.map_map]
        exact ry
      subst ey
      have g3 := s3 _ _ g2
      have lw : ((List.range o).map fun o => ((turn rs X h o : Nat) : Int)).length = o := by rw [List.length_map, List.length_range]
      have nf : ∀ (c : Int), c = ((turn rs X h o : Nat) : Int) → ∀ H4, Same H3 H4 → ∃ l xs y, V.ref fo = .ref l ∧ [V.int c] = [y] ∧ H4 l = some (.lst xs) ∧ xs.length < sizeLine ∧ ∃ v4 v5 : Option V, [some (V.ref na), some (.ref ga), some (.int (h : Int)), some (.ref fo), some (.int (o : Int)), some (.ref D), none, none] = [some (.ref na), some (.ref ga), some (.int h), some (.ref fo), v4, v5, none, none] ∧ Same H (upd H4 l (.lst (xs ++ [y]))) ∧ upd H4 l (.lst (xs ++ [y])) fo = some (.lst (((List.range (o + 1)).map fun o => ((turn rs X h o : Nat) : Int)).map V.int)) := fun c hc H4 s4 => by
        refine ⟨fo, _, _, rfl, rfl, s4 _ _ g3, Nat.lt_of_le_of_lt (by rw [List.length_map, lw]; show o ≤ 8; omega) (by decide), _, _, rfl, ((s2.trans s3).trans s4).wrn n_fo, ?_⟩
        rw [upd_same, List.range_succ, List.map_append, List.map_append, hc]
        rfl
      refine ⟨_, rfl, .inl ⟨rfl, _, SqL.of g3⟩, _, rfl, _, rfl, rfl, _, rfl, iteI (fun c => ?_) (fun c => ?_)⟩
      · refine nf 0 ?_ H3 (L2.Same.refl _)
        unfold turn
        rw [if_pos (by omega)]
        rfl
      · refine ⟨_, rfl, (by show 1 ≤ sizeLine; decide), fun l1 n_l1 => ?_⟩
        obtain ⟨H4, e_H4, s4, g4⟩ := new_any n_l1
        rw [← e_H4]
        clear e_H4
        refine ⟨D, l1, _, _, rfl, rfl, s4 _ _ hD, g4, ?_, fun l2 n_l2 => ?_⟩
        · have := near_len rs h
          rw [List.length_map, List.length_map, List.length_map]
          exact Nat.le_trans (show _ ≤ 1000 by show (nearOf rs h).length + 1 ≤ 1000; omega) (by decide)
        rw [show ((((nearOf rs h).map fun (p : Nat × Nat) => p.2 + X p.1 o).map fun (n : Nat) => (n : Int)).map V.int) ++ [V.int 24] = ((((nearOf rs h).map fun (p : Nat × Nat) => p.2 + X p.1 o).map fun (n : Nat) => (n : Int)) ++ [24]).map V.int by rw [List.map_append]; rfl]
        obtain ⟨H5, e_H5, s5, g5⟩ := new_any n_l2
        rw [← e_H5]
        clear e_H5
        refine ⟨l2, _, rfl, SqL.of g5, by rw [List.length_append]; show 0 < _ + 1; omega, fun mn h1 h2 => ?_⟩
        refine nf mn ?_ H5 (s4.trans s5)
        rw [min_eq h1 h2]
        unfold turn
        rw [if_neg (by omega)]
    · rintro σ H2 ⟨v4, v5, rfl, s2, g2⟩
      rw [show ((xs.length : Int)).toNat = m by omega] at g2
      refine ⟨_, rfl, fo, _, rfl, .inl ⟨SqL.of g2, fun t n_t => ?_⟩⟩
      obtain ⟨H3, e3, s3, h3⟩ := new_any (o := .tup (((List.range m).map fun o => ((turn rs X h o : Nat) : Int)).map V.int)) n_t
      rw [← e3]
      refine k H3 t (s2.trans s3) ?_
      rw [rowD_ints]
      exact Rp.tup h3 (rpl_intsR _)
end
end Wn

namespace Wn
open PySem L2
/-! ### == of data without truths is sameness -/
mutual
def nob : PyData → Bool
  | .none | .int _ | .str _ => true
  | .bool _ | .dict _ => false
  | .list xs | .tuple xs => nobs xs
def nobs : List PyData → Bool
  | [] => true
  | x :: xs => nob x && nobs xs
end
mutual
theorem eqv_nob : ∀ (d e : PyData), nob d = true → nob e = true → (PyData.eqv d e = true ↔ d = e)
  | .none, .none, _, _ => ⟨fun _ => rfl, fun _ => rfl⟩
  | .int i, .int j, _, _ => by
    show (i == j) = true ↔ _
    rw [beq_iff_eq, PyData.int.injEq]
  | .str i, .str j, _, _ => by
    show (i == j) = true ↔ _
    rw [beq_iff_eq, PyData.str.injEq]
  | .list xs, .list ys, h1, h2 => by
    show PyData.eqvAll xs ys = true ↔ _
    rw [eqv_nobs xs ys h1 h2, PyData.list.injEq]
  | .tuple xs, .tuple ys, h1, h2 => by
    show PyData.eqvAll xs ys = true ↔ _
    rw [eqv_nobs xs ys h1 h2, PyData.tuple.injEq]
  | .bool _, _, h, _ => by cases h
  | .dict _, _, h, _ => by cases h
  | .none, .bool _, _, h | .int _, .bool _, _, h | .str _, .bool _, _, h | .list _, .bool _, _, h | .tuple _, .bool _, _, h => by cases h
  | .none, .dict _, _, h | .int _, .dict _, _, h | .str _, .dict _, _, h | .list _, .dict _, _, h | .tuple _, .dict _, _, h => by cases h
  | .none, .int _, _, _ | .none, .str _, _, _ | .none, .list _, _, _ | .none, .tuple _, _, _ => ⟨(fun h => by cases h), (fun h => by cases h)⟩
  | .int _, .none, _, _ | .int _, .str _, _, _ | .int _, .list _, _, _ | .int _, .tuple _, _, _ => ⟨(fun h => by cases h), (fun h => by cases h)⟩
  | .str _, .none, _, _ | .str _, .int _, _, _ | .str _, .list _, _, _ | .str _, .tuple _, _, _ => ⟨(fun h => by cases h), (fun h => by cases h)⟩
  | .list _, .none, _, _ | .list _, .int _, _, _ | .list _, .str _, _, _ | .list _, .tuple _, _, _ => ⟨(fun h => by cases h), (fun h => by cases h)⟩
  | .tuple _, .none, _, _ | .tuple _, .int _, _, _ | .tuple _, .str _, _, _ | .tuple _, .list _, _, _ => ⟨(fun h => by cases h), (fun h => by cases h)⟩
theorem eqv_nobs : ∀ (ds es : List PyData), nobs ds = true → nobs es = true → (PyData.eqvAll ds es = true ↔ ds = es)
  | [], [], _, _ => ⟨fun _ => rfl, fun _ => rfl⟩
  | d :: ds, e :: es, h1, h2 => by
    unfold nobs at h1 h2
    rw [Bool.and_eq_true] at h1 h2
    show (PyData.eqv d e && PyData.eqvAll ds es) = true ↔ _
    rw [Bool.and_eq_true, eqv_nob d e h1.1 h2.1, eqv_nobs ds es h1.2 h2.2, List.cons.injEq]
  | [], _ :: _, _, _ => ⟨(fun h => by cases h), (fun h => by cases h)⟩
  | _ :: _, [], _, _ => ⟨(fun h => by cases h), (fun h => by cases h)⟩
end
theorem nobs_of : ∀ {ds : List PyData}, (∀ d ∈ ds, nob d = true) → nobs ds = true
  | [], _ => rfl
  | d :: ds, h => by
    show (nob d && nobs ds) = true
    rw [h d List.mem_cons_self, nobs_of fun x hx => h x (List.mem_cons_of_mem _ hx)]
    rfl
theorem nobs_map {α : Type} {f : α → PyData} {l : List α} (h : ∀ x, nob (f x) = true) : nobs (l.map f) = true := nobs_of fun d hd => by
  obtain ⟨x, _, rfl⟩ := List.mem_map.mp hd
  exact h x
theorem lay_of : ∀ {ds : List PyData}, (∀ d ∈ ds, d.canLay0 = true) → PyData.canLayAll0 ds = true
  | [], _ => rfl
  | d :: ds, h => by
    show (PyData.canLay0 d && PyData.canLayAll0 ds) = true
    rw [h d List.mem_cons_self, lay_of fun x hx => h x (List.mem_cons_of_mem _ hx)]
    rfl
theorem dep_of {B : Nat} : ∀ {ds : List PyData}, (∀ d ∈ ds, d.depth ≤ B) → PyData.depthAll ds ≤ B
  | [], _ => Nat.zero_le _
  | d :: ds, h => by
    have h1 := h d List.mem_cons_self
    have h2 := dep_of fun x hx => h x (List.mem_cons_of_mem _ hx)
    unfold PyData.depthAll
    omega
/-- shaped, by parts: layable, not deeper than n -/
def Shp (n : Nat) (d : PyData) : Prop := d.canLay0 = true ∧ d.depth ≤ n
theorem Shp.ok {n : Nat} {d : PyData} (h : Shp n d) (hn : n ≤ 64) : SeqAt.shaped d = true := by
  unfold SeqAt.shaped
  rw [h.1, decide_eq_true (Nat.le_trans h.2 hn)]
  rfl
theorem Shp.int {n : Nat} {i : Int} : Shp n (.int i) := ⟨rfl, Nat.zero_le _⟩
theorem Shp.bool {n : Nat} {b : Bool} : Shp n (.bool b) := ⟨rfl, Nat.zero_le _⟩
theorem Shp.none {n : Nat} : Shp n .none := ⟨rfl, Nat.zero_le _⟩
theorem Shp.tup {n : Nat} {ds : List PyData} (h : ∀ d ∈ ds, Shp n d) : Shp (n + 1) (.tuple ds) := ⟨lay_of fun d hd => (h d hd).1, Nat.succ_le_succ (dep_of fun d hd => (h d hd).2)⟩
theorem Shp.lst {n : Nat} {ds : List PyData} (h : ∀ d ∈ ds, Shp n d) : Shp (n + 1) (.list ds) := ⟨lay_of fun d hd => (h d hd).1, Nat.succ_le_succ (dep_of fun d hd => (h d hd).2)⟩
theorem Shp.map {n : Nat} {α : Type} {f : α → PyData} {l : List α} (h : ∀ x, Shp n (f x)) : ∀ d ∈ l.map f, Shp n d := fun d hd => by
  obtain ⟨x, _, rfl⟩ := List.mem_map.mp hd
  exact h x
end Wn

set_option maxHeartbeats 800000
namespace Wn
open PySem L2
set_option pp.maxSteps 700
set_option pp.deepTerms false
local macro_rules | `(tactic| walk_at "h") => `(tactic| first | with_reducible assumption | (with_reducible exact upd_same) | (with_reducible apply g_upd; (walk_at "neq"); (walk_at "h")) | (with_reducible apply g_same; (with_reducible assumption); (walk_at "h")) | (with_reducible apply g_kp; (with_reducible assumption); (walk_at "nin"); (walk_at "h")) | (with_reducible apply g_tk; (with_reducible assumption); (walk_at "h")))
local macro_rules | `(tactic| walk_at "neq") => `(tactic| first | with_reducible assumption | (with_reducible apply Ne.symm; with_reducible assumption) | (with_reducible apply ne_upd; (with_reducible assumption)) | (with_reducible apply Ne.symm; with_reducible apply ne_upd; with_reducible assumption) | (with_reducible apply ne_fr; (with_reducible assumption); (walk_at "h")) | (with_reducible apply ne_fr'; (with_reducible assumption); (walk_at "h")) | (with_reducible apply ne_kd; (walk_at "h"); (walk_at "h"); (with_unfolding_all (intro z; cases z))))
local macro_rules | `(tactic| walk_at "nin") => `(tactic| first | (with_reducible exact nin0) | with_reducible assumption | (with_reducible apply ninc; (walk_at "neq"); (walk_at "nin")))
local macro_rules | `(tactic| walk_at "none") => `(tactic| first | with_reducible assumption | (with_reducible apply n_upd; (with_reducible assumption)) | (with_reducible apply n_same; (with_reducible assumption); (walk_at "none")) | (with_reducible apply n_kp; (with_reducible assumption); (walk_at "nin"); (walk_at "none")))
local macro_rules | `(tactic| walk_at "mem") => `(tactic| first | (with_reducible exact List.mem_cons_self) | (with_reducible apply List.mem_cons_of_mem; (walk_at "mem")))
local macro_rules | `(tactic| walk_at "am") => `(tactic| first | (with_reducible exact am0) | (with_reducible apply am1; (first | (apply Or.inl; walk_at "mem") | (apply Or.inr; walk_at "none")); (walk_at "am")))
local macro_rules | `(tactic| walk_at "tk") => `(tactic| first | (with_reducible exact TK.refl _) | with_reducible assumption | (with_reducible apply t_tk; (with_reducible assumption); (walk_at "tk")) | (with_reducible apply t_same; (with_reducible assumption); (walk_at "tk")) | (with_reducible apply t_new; (with_reducible assumption); (walk_at "tk")) | (with_reducible apply t_wr; (walk_at "h"); (with_unfolding_all rfl); (walk_at "tk")))
local macro_rules | `(tactic| walk_at "same") => `(tactic| first | (with_reducible exact L2.Same.refl _) | with_reducible assumption | (with_reducible apply s_same; (with_reducible assumption); (walk_at "same")) | (with_reducible apply s_new; (with_reducible assumption); (walk_at "same")) | (with_reducible apply s_wrn; (walk_at "none"); (walk_at "same")))
local macro_rules | `(tactic| walk_at "kp") => `(tactic| first | (with_reducible exact Kp.refl _ _) | with_reducible assumption | (with_reducible apply k_same; (with_reducible assumption); (walk_at "kp")) | (with_reducible apply k_kp; (with_reducible assumption); (walk_at "kp")) | (with_reducible apply k_kpm; (with_reducible assumption); (walk_at "am"); (walk_at "kp")) | (with_reducible apply k_new; (with_reducible assumption); (walk_at "kp")) | (with_reducible apply k_wr; (walk_at "mem"); (walk_at "kp")) | (with_reducible apply k_wrn; (walk_at "none"); (walk_at "kp")))
local macro_rules | `(tactic| walk_at "rp") => `(tactic| first | with_reducible assumption | (with_reducible exact Rp.int) | (with_reducible exact Rp.str) | (with_reducible exact Rp.none) | (with_reducible exact Rp.bool) | (with_reducible apply Rp.tk'; (with_reducible assumption); (walk_at "tk")) | (with_reducible apply Rp.tup; (walk_at "h"); (walk_at "rpl")))
local macro_rules | `(tactic| walk_at "rpl") => `(tactic| first | with_reducible assumption | (with_reducible exact RpL.nil) | (with_reducible apply RpL.tk'; (with_reducible assumption); (walk_at "tk")) | (with_reducible apply RpL.cons; (walk_at "rp"); (walk_at "rpl")))
local macro_rules | `(tactic| walk_at "g") => `(tactic| repeat (first | refine ⟨_, rfl, ?_⟩ | refine ⟨_, _, rfl, rfl, ?_⟩ | refine ⟨rfl, _, rfl, ?_⟩ | refine ⟨_, _, rfl, rfl, (by first | decide | omega), ?_⟩))

theorem grid_nob (X : Mx) (m : Nat) : nob (.tuple (gridD X m)) = true := nobs_map fun h => nobs_map fun o => rfl
theorem grid_shp (X : Mx) (m : Nat) : SeqAt.shaped (.tuple (gridD X m)) = true := Shp.ok (Shp.tup (n := 1) (Shp.map fun h => Shp.tup (n := 0) (Shp.map fun o => Shp.int))) (by decide)
theorem grid_eq {X Y : Mx} {m : Nat} : gridD X m = gridD Y m ↔ MEq m X Y := by
  constructor
  · intro h a ha o ho
    have h1 : (gridD X m)[a]? = (gridD Y m)[a]? := by rw [h]
    unfold gridD at h1
    rw [List.getElem?_map, List.getElem?_map, List.getElem?_range ha] at h1
    have h2 : rowD X m a = rowD Y m a := Option.some.inj h1
    unfold rowD at h2
    rw [PyData.tuple.injEq] at h2
    have h3 : ((List.range m).map fun o => PyData.int (X a o))[o]? = ((List.range m).map fun o => PyData.int (Y a o))[o]? := by rw [h2]
    rw [List.getElem?_map, List.getElem?_map, List.getElem?_range ho] at h3
    have h4 := Option.some.inj h3
    rw [PyData.int.injEq] at h4
    omega
  · intro h
    unfold gridD
    refine List.map_congr_left fun a ha => ?_
    unfold rowD
    rw [PyData.tuple.injEq]
    refine List.map_congr_left fun o ho => ?_
    rw [h a (List.mem_range.mp ha) o (List.mem_range.mp ho)]
theorem grid_eqv {X Y : Mx} {m : Nat} : PyData.eqv (.tuple (gridD X m)) (.tuple (gridD Y m)) = true ↔ MEq m X Y := by
  rw [eqv_nob _ _ (grid_nob X m) (grid_nob Y m), PyData.tuple.injEq, grid_eq]
section
variable {P : Program} {w : World} {K : PySem.W.Frag} {mg : Str → Option Value} {base : Heap}
theorem scTAll : FnScope ["near", "fars", "house"] ["near", "fars"] (defScope sTAll) := ⟨rfl, rfl, rfl, by decide +kernel, rfl, by decide +kernel, by decide +kernel⟩
theorem ok_tall {f : Addr} {fd : FuncData} (F : Fun K "turned_all" "turned_all" sTAll f fd) (B : FB mg) (cT : Cd P w K mg base 1 "turned_row" ["near", "fars", "house"] (spTRow K)) : FnOk P w K mg base CX0 2 f fd ["near", "fars"] (spTAll K) := by
  obtain ⟨fT, fdT, GT, mT, kT, bT⟩ := cT
  refine F.ok scTAll (fun vs H Q E h => ?_) (fun cdv A outer s H vs Q E hr h => ?_)
  · obtain ⟨m, rs, X, na, ga, ls, rfl, _⟩ := h
    rfl
  · obtain ⟨m, rs, X, na, ga, ls, rfl, N, lls, m8, lrs, RI, hG, k⟩ := h
    have hr1 : Room 1 _ := hr
    refine ⟨_, (pss_one (ps_ret (pe_callTy (tupOfK (K := K) rfl) (by rfl) B.tuple PyProof.Rows.boot_tuple (pa_cons (pe_lc (own := [("house", 2)]) (g := (gName 2)) (tt := tYes) rfl scTAll.nd (pi_range1 rfl B.range (pa_cons (pe_callB (lenK (K := K) rfl) (by rfl) B.len PySem.boot_len (pa_cons (pv 1) pa_nil)) pa_nil)) (blkOk_by (N := ["near", "fars", "house"]) (sc := defScope sTAll) (by decide +kernel))
       (fun _ _ _ _ _ => (pg_name (i := 2) scTAll.nd rfl (Or.inl rfl))) (fun _ _ _ _ _ => pts_nil) (fun _ _ _ _ _ => (pe_call GT hr1 rfl mT kT bT .nil pass0 (pa_cons (pv 0) (pa_cons (pv 1) (pa_cons (pv 2) pa_nil)))))) pa_nil)))), ?_⟩
    obtain ⟨xs, hxs, lxs, rows⟩ := grid_row hG
    refine ⟨_, rfl, _, xs.length, rfl, .inr ⟨_, hxs, rfl⟩, xs.length, rfl, by omega, by omega, fun D nD => ?_⟩
    have en : ((xs.length : Int)).toNat = m := by omega
    rw [en]
    refine comp_rg (K := K) (is := [2]) walk_range (fun _ => true) (rowD (turn rs X) m) nD (by omega) ?_ ?_
    · intro j H' Q' N' hj s' hQ _
      refine ⟨rfl, tYes_t (iteT ?_)⟩
      refine ⟨_, rfl, _, rfl, _, rfl, m, j, rs, X, na, ga, ls, ?_, N.same s', lls, m8, lrs, RI, hj, hG.sm s', fun H2 a s2 ra => hQ rfl H2 _ s2 ra⟩
      rw [show (0 : Int) + (j : Int) = (j : Int) by omega]
      rfl
    · intro H1 ys s1 hD ry
      rw [filter_yes] at ry
      refine ⟨D, ys, rfl, .inl ⟨SqL.of hD, fun t n_t => ?_⟩⟩
      generalize e_H2 : upd _ t _ = H2
      obtain ⟨s2, r2⟩ := new_tup (K := K) n_t e_H2 (by walk_at "rpl")
      clear e_H2
      exact k H2 t (s1.trans s2) r2
end
end Wn

namespace Wn
open PySem L2
/-! ### things of any kind and depth that the law made itself: lists, tuples, dicts of texts -/
mutual
inductive Dk (K : PySem.W.Frag) (H : Hp) : V → PyData → Prop
  | non : Dk K H .non .none
  | bl (b : Bool) : Dk K H (.bl b) (.bool b)
  | int (i : Int) : Dk K H (.int i) (.int i)
  | str (x : Str) : Dk K H (.str x) (.str x)
  | lst {a : Addr} {xs : List V} {ds : List PyData} : SqL K H a xs → DkAll K H xs ds → Dk K H (.ref a) (.list ds)
  | tup {a : Addr} {xs : List V} {ds : List PyData} : SqT K H a xs → DkAll K H xs ds → Dk K H (.ref a) (.tuple ds)
  | dct {a : Addr} {kvs : List (Key × V)} {ds : List (PyData × PyData)} : H a = some (.dK kvs) → DkKV K H kvs ds → Dk K H (.ref a) (.dict ds)
inductive DkAll (K : PySem.W.Frag) (H : Hp) : List V → List PyData → Prop
  | nil : DkAll K H [] []
  | cons {v : V} {vs : List V} {d : PyData} {ds : List PyData} : Dk K H v d → DkAll K H vs ds → DkAll K H (v :: vs) (d :: ds)
inductive DkKV (K : PySem.W.Frag) (H : Hp) : List (Key × V) → List (PyData × PyData) → Prop
  | nil : DkKV K H [] []
  | cons {k : Str} {v : V} {kvs : List (Key × V)} {d : PyData} {ds : List (PyData × PyData)} : Dk K H v d → DkKV K H kvs ds → DkKV K H ((.inr k, v) :: kvs) ((.str k, d) :: ds)
end
mutual
theorem Dk.sm {K : PySem.W.Frag} {H H' : Hp} (e : Same H H') : ∀ {v : V} {d : PyData}, Dk K H v d → Dk K H' v d
  | _, _, .non => .non
  | _, _, .bl b => .bl b
  | _, _, .int i => .int i
  | _, _, .str x => .str x
  | _, _, .lst h1 h2 => .lst (SqL.sm' h1 e) (DkAll.sm e h2)
  | _, _, .tup h1 h2 => .tup (SqT.tk h1 (TK.of e)) (DkAll.sm e h2)
  | _, _, .dct h1 h2 => .dct (e _ _ h1) (DkKV.sm e h2)
theorem DkAll.sm {K : PySem.W.Frag} {H H' : Hp} (e : Same H H') : ∀ {vs : List V} {ds : List PyData}, DkAll K H vs ds → DkAll K H' vs ds
  | _, _, .nil => .nil
  | _, _, .cons h1 h2 => .cons (Dk.sm e h1) (DkAll.sm e h2)
theorem DkKV.sm {K : PySem.W.Frag} {H H' : Hp} (e : Same H H') : ∀ {vs : List (Key × V)} {ds : List (PyData × PyData)}, DkKV K H vs ds → DkKV K H' vs ds
  | _, _, .nil => .nil
  | _, _, .cons h1 h2 => .cons (Dk.sm e h1) (DkKV.sm e h2)
end
theorem DkAll.len {K : PySem.W.Frag} {H : Hp} : ∀ {vs : List V} {ds : List PyData}, DkAll K H vs ds → vs.length = ds.length
  | _, _, .nil => rfl
  | _, _, .cons _ h => by rw [List.length_cons, List.length_cons, DkAll.len h]
theorem DkAll.get {K : PySem.W.Frag} {H : Hp} : ∀ {vs : List V} {ds : List PyData}, DkAll K H vs ds → ∀ {i : Nat} {d : PyData}, ds[i]? = some d → ∃ v, vs[i]? = some v ∧ Dk K H v d
  | _, _, .cons h1 h2, 0, d, e => by
    have : _ = d := Option.some.inj e
    subst this
    exact ⟨_, rfl, h1⟩
  | _, _, .cons h1 h2, i + 1, d, e => DkAll.get h2 (i := i) (by simpa using e)
theorem DkAll.getV {K : PySem.W.Frag} {H : Hp} : ∀ {vs : List V} {ds : List PyData}, DkAll K H vs ds → ∀ {i : Nat} {v : V}, vs[i]? = some v → ∃ d, ds[i]? = some d ∧ Dk K H v d
  | _, _, .cons h1 h2, 0, d, e => by
    have : _ = d := Option.some.inj e
    subst this
    exact ⟨_, rfl, h1⟩
  | _, _, .cons h1 h2, i + 1, d, e => DkAll.getV h2 (i := i) (by simpa using e)
theorem DkAll.app {K : PySem.W.Frag} {H : Hp} : ∀ {xs : List V} {ds : List PyData}, DkAll K H xs ds → ∀ {ys : List V} {es : List PyData}, DkAll K H ys es → DkAll K H (xs ++ ys) (ds ++ es)
  | _, _, .nil, _, _, h => h
  | _, _, .cons h1 h2, _, _, h => .cons h1 (DkAll.app h2 h)
theorem DkAll.take {K : PySem.W.Frag} {H : Hp} : ∀ (k : Nat) {xs : List V} {ds : List PyData}, DkAll K H xs ds → DkAll K H (xs.take k) (ds.take k)
  | 0, _, _, _ => by rw [List.take_zero, List.take_zero]; exact .nil
  | k + 1, _, _, .nil => .nil
  | k + 1, _, _, .cons h1 h2 => .cons h1 (DkAll.take k h2)
theorem DkAll.drop {K : PySem.W.Frag} {H : Hp} : ∀ (k : Nat) {xs : List V} {ds : List PyData}, DkAll K H xs ds → DkAll K H (xs.drop k) (ds.drop k)
  | 0, _, _, h => h
  | k + 1, _, _, .nil => .nil
  | k + 1, _, _, .cons h1 h2 => DkAll.drop k h2
theorem Dk.ty {K : PySem.W.Frag} {H : Hp} {v : V} {d : PyData} (h : Dk K H v d) : TyX K H v (.type (tyN d)) := by
  cases h with
  | non => exact .base .non
  | bl b => exact .base (.bl b)
  | int i => exact .base (.int i)
  | str x => exact .base (.str x)
  | lst h1 h2 =>
    rcases h1 with (h | ⟨o, h⟩) | ⟨o, its, n, h, c, _⟩
    · exact .base (.lst h)
    · exact .base (.frz h)
    · exact .kList h c
  | tup h1 h2 => exact ty_tup h1
  | dct h1 h2 => exact .base (.dK h1)
theorem Dk.inv_tup {K : PySem.W.Frag} {H : Hp} {v : V} {ds : List PyData} (h : Dk K H v (.tuple ds)) : ∃ a xs, v = .ref a ∧ SqT K H a xs ∧ DkAll K H xs ds := by
  cases h with
  | tup h1 h2 => exact ⟨_, _, rfl, h1, h2⟩
theorem Dk.inv_lst {K : PySem.W.Frag} {H : Hp} {v : V} {ds : List PyData} (h : Dk K H v (.list ds)) : ∃ a xs, v = .ref a ∧ SqL K H a xs ∧ DkAll K H xs ds := by
  cases h with
  | lst h1 h2 => exact ⟨_, _, rfl, h1, h2⟩
theorem Dk.inv_str {K : PySem.W.Frag} {H : Hp} {v : V} {x : Str} (h : Dk K H v (.str x)) : v = .str x := by cases h; rfl
theorem Dk.inv_int {K : PySem.W.Frag} {H : Hp} {v : V} {x : Int} (h : Dk K H v (.int x)) : v = .int x := by cases h; rfl
theorem Dk.inv_none {K : PySem.W.Frag} {H : Hp} {v : V} (h : Dk K H v .none) : v = .non := by cases h; rfl
theorem Dk.inv_bool {K : PySem.W.Frag} {H : Hp} {v : V} {b : Bool} (h : Dk K H v (.bool b)) : v = .bl b := by cases h; rfl
theorem DkAll.inv_cons {K : PySem.W.Frag} {H : Hp} {vs : List V} {d : PyData} {ds : List PyData} (h : DkAll K H vs (d :: ds)) : ∃ v r, vs = v :: r ∧ Dk K H v d ∧ DkAll K H r ds := by
  cases h with
  | cons h1 h2 => exact ⟨_, _, rfl, h1, h2⟩
theorem DkAll.inv_nil {K : PySem.W.Frag} {H : Hp} {vs : List V} (h : DkAll K H vs []) : vs = [] := by cases h; rfl
end Wn

set_option maxHeartbeats 800000
namespace Wn
open PySem L2
set_option pp.maxSteps 700
set_option pp.deepTerms false
local macro_rules | `(tactic| walk_at "h") => `(tactic| first | with_reducible assumption | (with_reducible exact upd_same) | (with_reducible apply g_upd; (walk_at "neq"); (walk_at "h")) | (with_reducible apply g_same; (with_reducible assumption); (walk_at "h")) | (with_reducible apply g_kp; (with_reducible assumption); (walk_at "nin"); (walk_at "h")) | (with_reducible apply g_tk; (with_reducible assumption); (walk_at "h")))
local macro_rules | `(tactic| walk_at "neq") => `(tactic| first | with_reducible assumption | (with_reducible apply Ne.symm; with_reducible assumption) | (with_reducible apply ne_upd; (with_reducible assumption)) | (with_reducible apply Ne.symm; with_reducible apply ne_upd; with_reducible assumption) | (with_reducible apply ne_fr; (with_reducible assumption); (walk_at "h")) | (with_reducible apply ne_fr'; (with_reducible assumption); (walk_at "h")) | (with_reducible apply ne_kd; (walk_at "h"); (walk_at "h"); (with_unfolding_all (intro z; cases z))))
local macro_rules | `(tactic| walk_at "nin") => `(tactic| first | (with_reducible exact nin0) | with_reducible assumption | (with_reducible apply ninc; (walk_at "neq"); (walk_at "nin")))
local macro_rules | `(tactic| walk_at "none") => `(tactic| first | with_reducible assumption | (with_reducible apply n_upd; (with_reducible assumption)) | (with_reducible apply n_same; (with_reducible assumption); (walk_at "none")) | (with_reducible apply n_kp; (with_reducible assumption); (walk_at "nin"); (walk_at "none")))
local macro_rules | `(tactic| walk_at "mem") => `(tactic| first | (with_reducible exact List.mem_cons_self) | (with_reducible apply List.mem_cons_of_mem; (walk_at "mem")))
local macro_rules | `(tactic| walk_at "am") => `(tactic| first | (with_reducible exact am0) | (with_reducible apply am1; (first | (apply Or.inl; walk_at "mem") | (apply Or.inr; walk_at "none")); (walk_at "am")))
local macro_rules | `(tactic| walk_at "tk") => `(tactic| first | (with_reducible exact TK.refl _) | with_reducible assumption | (with_reducible apply t_tk; (with_reducible assumption); (walk_at "tk")) | (with_reducible apply t_same; (with_reducible assumption); (walk_at "tk")) | (with_reducible apply t_new; (with_reducible assumption); (walk_at "tk")) | (with_reducible apply t_wr; (walk_at "h"); (with_unfolding_all rfl); (walk_at "tk")))
local macro_rules | `(tactic| walk_at "same") => `(tactic| first | (with_reducible exact L2.Same.refl _) | with_reducible assumption | (with_reducible apply s_same; (with_reducible assumption); (walk_at "same")) | (with_reducible apply s_new; (with_reducible assumption); (walk_at "same")) | (with_reducible apply s_wrn; (walk_at "none"); (walk_at "same")))
local macro_rules | `(tactic| walk_at "kp") => `(tactic| first | (with_reducible exact Kp.refl _ _) | with_reducible assumption | (with_reducible apply k_same; (with_reducible assumption); (walk_at "kp")) | (with_reducible apply k_kp; (with_reducible assumption); (walk_at "kp")) | (with_reducible apply k_kpm; (with_reducible assumption); (walk_at "am"); (walk_at "kp")) | (with_reducible apply k_new; (with_reducible assumption); (walk_at "kp")) | (with_reducible apply k_wr; (walk_at "mem"); (walk_at "kp")) | (with_reducible apply k_wrn; (walk_at "none"); (walk_at "kp")))
local macro_rules | `(tactic| walk_at "rp") => `(tactic| first | with_reducible assumption | (with_reducible exact Rp.int) | (with_reducible exact Rp.str) | (with_reducible exact Rp.none) | (with_reducible exact Rp.bool) | (with_reducible apply Rp.tk'; (with_reducible assumption); (walk_at "tk")) | (with_reducible apply Rp.tup; (walk_at "h"); (walk_at "rpl")))
local macro_rules | `(tactic| walk_at "rpl") => `(tactic| first | with_reducible assumption | (with_reducible exact RpL.nil) | (with_reducible apply RpL.tk'; (with_reducible assumption); (walk_at "tk")) | (with_reducible apply RpL.cons; (walk_at "rp"); (walk_at "rpl")))
local macro_rules | `(tactic| walk_at "g") => `(tactic| repeat (first | refine ⟨_, rfl, ?_⟩ | refine ⟨_, _, rfl, rfl, ?_⟩ | refine ⟨rfl, _, rfl, ?_⟩ | refine ⟨_, _, rfl, rfl, (by first | decide | omega), ?_⟩))
abbrev sWhole : Stmt := top 2
abbrev sFrom : Stmt := top 3
structure IB (mg : Str → Option Value) : Prop where
  isinstance : mg "isinstance" = none
  int : mg "int" = none
  bool : mg "bool" = none
def isIntD : PyData → Option Int
  | .int i => some i
  | _ => none
def fromD (d : PyData) (lo hi : Int) : Bool := match isIntD d with
  | some i => decide (lo ≤ i) && decide (i ≤ hi)
  | none => false
theorem isIntD_some {d : PyData} (h : (isIntD d).isSome = true) : ∃ i, d = .int i := by
  cases d <;> simp [isIntD] at h
  exact ⟨_, rfl⟩
theorem isIntD_ty (d : PyData) : (isIntD d).isSome = decide (tyN d = "int") := by
  cases d <;> rfl
def spWholeK (K : PySem.W.Frag) : Sp := fun vs H Q _ => ∃ v d, vs = [v] ∧ Dk K H v d ∧ Q (.bl (isIntD d).isSome) H
def spFromK (K : PySem.W.Frag) : Sp := fun vs H Q _ => ∃ (v : V) (d : PyData) (lo hi : Int), vs = [v, .int lo, .int hi] ∧ Dk K H v d ∧ Q (.bl (fromD d lo hi)) H

section
variable {P : Program} {w : World} {K : PySem.W.Frag} {mg : Str → Option Value} {base : Heap}
theorem scWhole : FnScope ["thing"] ["thing"] (defScope sWhole) := ⟨rfl, rfl, rfl, by decide +kernel, rfl, by decide +kernel, by decide +kernel⟩
theorem ok_wholeK {f : Addr} {fd : FuncData} (F : Fun K "is_whole" "is_whole" sWhole f fd) (B : IB mg) : FnOk P w K mg base CX0 1 f fd ["thing"] (spWholeK K) := by
  refine F.ok scWhole (fun vs H Q E h => ?_) (fun cdv A outer s H vs Q E hr h => ?_)
  · obtain ⟨v, d, rfl, _⟩ := h
    rfl
  · obtain ⟨v, d, rfl, hd, k⟩ := h
    refine ⟨_, (pss_one (ps_ret (pe_and (pe_callB (isiK (K := K) rfl) (by rfl) B.isinstance (by decide +kernel) (pa_cons (pv 0) (pa_cons (pe_bltn (v := .ty "int") (by rfl) B.int PyProof.Rows.boot_int rfl) pa_nil))) (pe_one (pe_not (pe_callB (isiK (K := K) rfl) (by rfl) B.isinstance (by decide +kernel) (pa_cons (pv 0) (pa_cons (pe_bltn (v := .ty "bool") (by rfl) B.bool PyProof.Rows.boot_bool rfl) pa_nil)))))))), ?_⟩
    rw [isIntD_ty] at k
    refine ⟨_, rfl, _, _, _, _, _, rfl, .ty _, hd.ty, kit_int d, _, rfl, iteP (fun c => ?_) (fun c => ?_)⟩
    · refine ⟨_, rfl, _, _, _, _, _, rfl, .ty _, hd.ty, kit_bool d, _, rfl, ?_⟩
      have e2 : (!decide (tyN d = "bool")) = decide (tyN d = "int") := by
        rcases c with c | c <;> rw [c] <;> rfl
      rw [e2]
      exact k
    · rw [decide_eq_false (fun z => c (.inl z))] at k
      exact k
theorem scFrom : FnScope ["thing", "low", "high"] ["thing", "low", "high"] (defScope sFrom) := ⟨rfl, rfl, rfl, by decide +kernel, rfl, by decide +kernel, by decide +kernel⟩
theorem ok_fromK {f : Addr} {fd : FuncData} (F : Fun K "is_from" "is_from" sFrom f fd) (cW : Cd P w K mg base 1 "is_whole" ["thing"] (spWholeK K)) : FnOk P w K mg base CX0 2 f fd ["thing", "low", "high"] (spFromK K) := by
  obtain ⟨fW, fdW, GW, mW, kW, bW⟩ := cW
  refine F.ok scFrom (fun vs H Q E h => ?_) (fun cdv A outer s H vs Q E hr h => ?_)
  · obtain ⟨v, d, lo, hi, rfl, _⟩ := h
    rfl
  · obtain ⟨v, d, lo, hi, rfl, hd, k⟩ := h
    have hr1 : Room 1 _ := hr
    refine ⟨_, (pss_one (ps_ret (pe_and (pe_call GW hr1 rfl mW kW bW .nil pass0 (pa_cons (pv 0) pa_nil)) (pe_one (pe_chain op_le op_le (pv 1) (pv 0) (pv 2)))))), ?_⟩
    refine ⟨_, rfl, v, d, rfl, hd, _, rfl, iteB (fun c => ?_) (fun c => ?_)⟩
    · obtain ⟨i, rfl⟩ := isIntD_some c
      have := hd.inv_int
      subst this
      have k : Q (.bl (decide (lo ≤ i) && decide (i ≤ hi))) H := k
      refine ⟨_, rfl, _, rfl, _, _, rfl, rfl, _, rfl, iteP (fun c1 => ?_) (fun c1 => ?_)⟩
      · rw [decide_eq_true c1, Bool.true_and] at k
        exact ⟨_, rfl, _, _, rfl, rfl, k⟩
      · rw [decide_eq_false c1, Bool.false_and] at k
        exact k
    · have e : fromD d lo hi = false := by
        unfold fromD
        cases hi' : isIntD d with
        | none => rfl
        | some i => rw [hi'] at c; cases c
      rw [e] at k
      exact k
end
end Wn

namespace Wn
open PySem L2
/-! ### comprehensions whose elements are told values: any walk, any target, a test or none -/
theorem comp_ls {J : It} {G : Hp → Prop} {Y : Nat → Hp → V → Hp → Prop} {β : Type} {g : TG} {tt : TT} {te : TE} {is : List Nat} {σ : L2.St} {H2 : Hp} {D : Addr} {L : List β} {Qd : Hp → Prop} (w : Walk J L.length G Y) (hG : ∀ H', Same H2 H' → G H') (p : β → Bool) (f : β → V) (hD : H2 D = none) (hl : L.length ≤ 1000000)
    (hte : ∀ (j : Nat) (b : β) (x : V) (H' H'' : Hp) (Q : VK) (N : Hp → Prop), L[j]? = some b → Same H2 H' → Y j H' x H'' → (p b = true → ∀ (H3 : Hp), Same H' H3 → Q (f b) H3) → (p b = false → ∀ (H3 : Hp), Same H' H3 → N H3) →
      g x (wipe σ is) H'' fun σ2 H3 => wipe σ2 is = wipe σ is ∧ tt σ2 H3 fun b' H4 => if b' = true then te σ2 H4 Q else N H4)
    (hd : ∀ (H' : Hp), Same H2 H' → H' D = some (.lst ((L.filter p).map f)) → Qd H') :
    ∃ W : Nat → Nat → Hp → Prop, (∃ m, W 0 m (upd H2 D (.lst []))) ∧ ∀ j m H, W j m H →
      (J.stop j H ∧ Qd H) ∨ (J.go j H ∧ ∃ Nx : Hp → Prop, (∀ H', Nx H' → ∃ m', m' < m ∧ W (j + 1) m' H') ∧ ∀ x H', J.yld j H x H' → g x (wipe σ is) H' fun σ2 H2 => wipe σ2 is = wipe σ is ∧ tt σ2 H2 fun b H3 =>
        if b = true then te σ2 H3 fun y H4 => ∃ acc, H4 D = some (.lst acc) ∧ acc.length < sizeLine ∧ Nx (upd H4 D (.lst (acc ++ [y]))) else Nx H3) := by
  refine lc_it w (fun j H => Same H2 H ∧ H D = some (.lst (((L.take j).filter p).map f))) ⟨(L2.Same.refl H2).new hD, upd_same⟩ (fun j H _ ⟨s, _⟩ => hG H s) ?_ ?_
  · rintro j x H3 H3' hj ⟨s3, hD3⟩ hx
    have ej : L[j]? = some L[j] := List.getElem?_eq_getElem hj
    have et : L.take (j + 1) = L.take j ++ [L[j]] := List.take_succ_eq_append_getElem hj
    have ly : (((L.take j).filter p).map f).length < sizeLine := by
      rw [List.length_map]
      have h2 := List.length_filter_le p (L.take j)
      rw [List.length_take] at h2
      exact Nat.lt_of_le_of_lt (show ((L.take j).filter p).length ≤ 1000000 by omega) (by decide)
    refine hte j L[j] x H3 H3' _ _ ej s3 hx (fun hp H4 s4 => ⟨_, s4 _ _ hD3, ly, (s3.trans s4).wrn hD, ?_⟩) (fun hp H4 s4 => ⟨s3.trans s4, ?_⟩)
    · rw [upd_same, et, List.filter_append, List.filter_cons, hp, List.map_append]
      rfl
    · rw [et, List.filter_append, List.filter_cons, hp]
      simp only [Bool.false_eq_true, if_false, List.filter_nil, List.append_nil]
      exact s4 _ _ hD3
  · rintro H3 ⟨s3, hD3⟩
    rw [List.take_length] at hD3
    exact hd H3 s3 hD3
theorem _root_.L2.Walk.cast {J : It} {n m : Nat} {G : Hp → Prop} {Y : Nat → Hp → V → Hp → Prop} (w : Walk J n G Y) (e : n = m) : Walk J m G Y := e ▸ w
theorem filter_all {β : Type} (L : List β) : L.filter (fun _ => true) = L := List.filter_eq_self.mpr fun _ _ => rfl
end Wn

namespace Wn
open PySem L2 PySem.Spec PyProof.Rows
/-! ### repr of things with empty dicts deep within -/
/-- texts with numbers -/
def flatD : List (PyData × PyData) → Bool
  | [] => true
  | (.str _, .int _) :: r => flatD r
  | _ => false
mutual
def okQ : PyData → Bool
  | .dict ds => flatD ds
  | .list xs => okQs xs
  | .tuple xs => okQs xs
  | _ => true
def okQs : List PyData → Bool
  | [] => true
  | x :: xs => okQ x && okQs xs
end
section
variable {X : Cx} {pins : List (Addr × Obj)} {σ : L2.St} {H : Hp} {s : Shared}
theorem flat_reads {h : Heap} {H : Hp} : ∀ {kvs : List (Key × V)} {ds : List (PyData × PyData)} {vs : List (Key × Value)} {es : List DictEntry}, DkKV X.K H kvs ds → flatD ds = true → KV kvs vs → Pairs (mixKind X.prog X.w) es vs →
    ReadsAll h (es.map (·.key)) (ds.map (·.1)) [] ∧ ReadsAll h (es.map (·.val)) (ds.map (·.2)) []
  | [], [], vs, es, _, _, r, p => by
    cases r
    cases p
    exact ⟨.nil, .nil⟩
  | kv :: kvs, d :: ds, vs, es, q, f, r, p => by
    cases q with
    | @cons k v _ d' _ h1 h2 =>
    cases r with
    | @cons _ x _ _ r1 r2 =>
    cases p with
    | @cons e _ _ _ p1 p2 p3 =>
    cases h1 with
    | int i =>
      obtain ⟨q1, q2⟩ := flat_reads (h := h) h2 f r2 p3
      obtain ⟨e1, e2⟩ := r1
      obtain ⟨t, e2⟩ : ∃ t, x.2 = .int i t := e2
      have e1 : (Sum.inr k : Key) = x.1 := e1
      have p1 : keyIs x.1 e.key = true := p1
      rw [← e1] at p1
      rcases keyIs_shape p1 with ⟨j, t', z, _⟩ | ⟨y, t', z, w⟩
      · cases z
      · cases z
        refine ⟨?_, ?_⟩
        · show ReadsAll h (e.key :: _) _ []
          rw [w]
          exact .cons (as := []) (bs := []) (.str k t') q1
        · show ReadsAll h (e.val :: _) _ []
          rw [p2, e2]
          exact .cons (as := []) (bs := []) (.int i t) q2
    | _ => cases f
theorem dict_reads (I : Inv X pins σ H s) {a : Addr} {kvs : List (Key × V)} {ds : List (PyData × PyData)} (h : H a = some (.dK kvs)) (q : DkKV X.K H kvs ds) (f : flatD ds = true) : (a == sysModules) = false ∧ Reads s.heap (.ref a) (.dict ds) [a] := by
  obtain ⟨_, hm, vs, kv, o, es, ep, ho, hx, hd, _, pr, _⟩ := dk_of I.hok h
  obtain ⟨q1, q2⟩ := flat_reads (h := s.heap) q f kv pr
  exact ⟨hm, .dict (as := []) (bs := []) ho hx.1 hd q1 q2⟩
mutual
theorem readsQ (I : Inv X pins σ H s) : ∀ (d : PyData) (v : V) (u : Value), Dk X.K H v d → RelV v u → okQ d = true → ∃ as, Reads s.heap u d as
  | .none, _, _, h, r, _ => by
    cases h
    cases r
    exact ⟨_, .none⟩
  | .bool b, _, _, h, r, _ => by
    cases h
    cases r
    exact ⟨_, .bool b⟩
  | .int i, _, _, h, r, _ => by
    cases h
    obtain ⟨t, rfl⟩ := r
    exact ⟨_, .int i t⟩
  | .str x, _, _, h, r, _ => by
    cases h
    obtain ⟨t, rfl⟩ := r
    exact ⟨_, .str x t⟩
  | .list ds, _, _, h, r, ok => by
    cases h with
    | lst h1 h2 =>
      cases r
      obtain ⟨its, rv, ⟨o, n, ho, hc, _, hd⟩, _⟩ := I.list h1
      obtain ⟨as, hr⟩ := readsQs I ds _ its h2 rv ok
      exact ⟨_, .list ho hc hd hr⟩
  | .tuple ds, _, _, h, r, ok => by
    cases h with
    | tup h1 h2 =>
      cases r
      obtain ⟨its, rv, ⟨o, ho, hc, n, hd⟩, _⟩ := I.tuple h1
      obtain ⟨as, hr⟩ := readsQs I ds _ its h2 rv ok
      exact ⟨_, .tuple ho hc hd hr⟩
  | .dict ds, _, _, h, r, ok => by
    cases h with
    | dct h1 h2 =>
      cases r
      exact ⟨_, (dict_reads I h1 h2 ok).2⟩
theorem readsQs (I : Inv X pins σ H s) : ∀ (ds : List PyData) (vs : List V) (us : List Value), DkAll X.K H vs ds → Vals vs us → okQs ds = true → ∃ as, ReadsAll s.heap us ds as
  | [], _, _, h, r, _ => by
    cases h
    cases r
    exact ⟨_, .nil⟩
  | d :: ds, _, _, h, r, ok => by
    cases h with
    | cons h1 h2 =>
      cases r with
      | cons r1 r2 =>
        have ok : (okQ d && okQs ds) = true := ok
        rw [Bool.and_eq_true] at ok
        obtain ⟨as, q1⟩ := readsQ I d _ _ h1 r1 ok.1
        obtain ⟨bs, q2⟩ := readsQs I ds _ _ h2 r2 ok.2
        exact ⟨_, .cons q1 q2⟩
end
abbrev RpK (X : Cx) (s : Shared) (bs : List Addr) (n : Nat) (u : Value) (t : Str) : Prop := ReadAtMost s.heap n bs ∧ ReprK X.prog X.w bs s.heap n u t
theorem shows_len {xs : List PyData} : (PyData.shownAll xs).length = xs.length := by
  induction xs with
  | nil => rfl
  | cons x xs ih => show (PyData.shownAll xs).length + 1 = _; rw [ih]; rfl
mutual
theorem reprQ (I : Inv X pins σ H s) : ∀ (d : PyData) (v : V) (u : Value), Dk X.K H v d → RelV v u → okQ d = true → d.showable = true → d.shown.length ≤ sizeLine → ∃ bs, RpK X s bs d.depth u d.shown
  | .none, v, u, h, r, ok, sh, sz => by
    obtain ⟨as, q⟩ := readsQ I _ v u h r ok
    exact ReprK.of_reads q sh (PyData.noDict_hsm rfl) sz
  | .bool b, v, u, h, r, ok, sh, sz => by
    obtain ⟨as, q⟩ := readsQ I _ v u h r ok
    exact ReprK.of_reads q sh (PyData.noDict_hsm rfl) sz
  | .int i, v, u, h, r, ok, sh, sz => by
    obtain ⟨as, q⟩ := readsQ I _ v u h r ok
    exact ReprK.of_reads q sh (PyData.noDict_hsm rfl) sz
  | .str x, v, u, h, r, ok, sh, sz => by
    obtain ⟨as, q⟩ := readsQ I _ v u h r ok
    exact ReprK.of_reads q sh (PyData.noDict_hsm rfl) sz
  | .dict ds, v, u, h, r, ok, sh, sz => by
    cases h with
    | dct h1 h2 =>
      cases r
      obtain ⟨hm, q⟩ := dict_reads I h1 h2 ok
      refine ReprK.of_reads q sh (fun _ z => ?_) sz
      have z := List.mem_singleton.mp z
      rw [← z] at hm
      simp at hm
  | .list ds, v, u, h, r, ok, sh, sz => by
    obtain ⟨as0, q0⟩ := readsQ I _ v u h r ok
    cases h with
    | lst h1 h2 =>
      cases r
      have sz' : (listText (PyData.shownAll ds)).length ≤ sizeLine := by rw [PyData.shown] at sz; exact sz
      have sh' : PyData.showableAll ds = true := by rw [PyData.showable] at sh; exact sh
      obtain ⟨its, rv, ⟨o, n, ho, hc, _, hd⟩, _⟩ := I.list h1
      obtain ⟨bs, hb, hk⟩ := reprQs I ds _ its h2 rv ok sh' fun t ht => Nat.le_trans (listText_mem_le ht) sz'
      have na := not_mem_of_deeper q0 (show PyData.depthAll ds < (PyData.list ds).depth by simp only [PyData.depth]; omega) hb
      refine ⟨_ :: bs, ReadAtMost.cons q0 (by simp only [PyData.depth]; omega) hb, ?_⟩
      rw [PyData.depth, PyData.shown]
      cases its with
      | nil =>
        cases rv
        have e0 := h2.len
        cases ds with
        | cons x xs => cases e0
        | nil => exact ReprK.listEmpty ho hc hd
      | cons y l => exact ReprK.list ho hc hd na (by have := hk.length_eq; simpa using this) fun i z e => hk.item i z (by simpa using e)
  | .tuple ds, v, u, h, r, ok, sh, sz => by
    obtain ⟨as0, q0⟩ := readsQ I _ v u h r ok
    cases h with
    | tup h1 h2 =>
      cases r
      have sz' : (tupleText (PyData.shownAll ds)).length ≤ sizeLine := by rw [PyData.shown] at sz; exact sz
      have sh' : PyData.showableAll ds = true := by rw [PyData.showable] at sh; exact sh
      obtain ⟨its, rv, ⟨o, ho, hc, n, hd⟩, _⟩ := I.tuple h1
      obtain ⟨bs, hb, hk⟩ := reprQs I ds _ its h2 rv ok sh' fun t ht => Nat.le_trans (tupleText_mem_le ht) sz'
      have na := not_mem_of_deeper q0 (show PyData.depthAll ds < (PyData.tuple ds).depth by simp only [PyData.depth]; omega) hb
      refine ⟨_ :: bs, ReadAtMost.cons q0 (by simp only [PyData.depth]; omega) hb, ?_⟩
      rw [PyData.depth, PyData.shown]
      exact ReprK.tuple ho hc hd na hk
theorem reprQs (I : Inv X pins σ H s) : ∀ (ds : List PyData) (vs : List V) (us : List Value), DkAll X.K H vs ds → Vals vs us → okQs ds = true → PyData.showableAll ds = true → (∀ t ∈ PyData.shownAll ds, t.length ≤ sizeLine) →
    ∃ bs, ReadAtMost s.heap (PyData.depthAll ds) bs ∧ ReprAllK X.prog X.w bs s.heap (PyData.depthAll ds) us (PyData.shownAll ds)
  | [], _, _, h, r, _, _, _ => by
    cases h
    cases r
    exact ⟨[], (fun b hb => by cases hb), .nil⟩
  | d :: ds, _, _, h, r, ok, sh, sz => by
    cases h with
    | cons h1 h2 =>
      cases r with
      | cons r1 r2 =>
        have ok : (okQ d && okQs ds) = true := ok
        rw [Bool.and_eq_true] at ok
        rw [PyData.showableAll, Bool.and_eq_true] at sh
        rw [PyData.shownAll] at sz ⊢
        obtain ⟨b1, g1, k1⟩ := reprQ I d _ _ h1 r1 ok.1 sh.1 (sz _ List.mem_cons_self)
        obtain ⟨b2, g2, k2⟩ := reprQs I ds _ _ h2 r2 ok.2 sh.2 fun t ht => sz t (List.mem_cons_of_mem _ ht)
        have l1 : d.depth ≤ PyData.depthAll (d :: ds) := by rw [PyData.depthAll]; exact Nat.le_max_left _ _
        have l2 : PyData.depthAll ds ≤ PyData.depthAll (d :: ds) := by rw [PyData.depthAll]; exact Nat.le_max_right _ _
        exact ⟨b1 ++ b2, (g1.mono l1).append (g2.mono l2), .cons ((k1.more fun b hb => List.mem_append_left _ hb).level_le l1) (k2.more_le (fun b hb => List.mem_append_right _ hb) l2)⟩
end
end
section
variable {X : Cx}
/-- repr of such a thing, where no repr is under way -/
def rReprQ (K : PySem.W.Frag) : List V → Hp → VK → Prop := fun xs H Q => ∃ (x : V) (d : PyData), xs = [x] ∧ Dk K H x d ∧ okQ d = true ∧ d.showable = true ∧ d.depth ≤ 60 ∧ d.shown.length ≤ sizeLine ∧ Q (.str d.shown) H
theorem call_reprQ (hg : X.A.guards = some []) (hu : X.A.units + 64 < cLine) : CallR X (.builtin "repr") (rReprQ X.K) := by
  intro pins s σ H xs us Q I r h
  obtain ⟨x, d, rfl, hd, ok, sh, dep, sz, q⟩ := h
  obtain ⟨u, rfl, rx⟩ := vals1 r
  have fin : ∀ (h' : Heap) (t tk : Tok), (∀ b o, s.heap.get? b = some o → h'.get? b = some o) → EP X pins σ Q (.str d.shown t) { s with heap := h', toks := tk } := fun h' t tk hk => ⟨.str d.shown, H, I.kept hk, ⟨t, rfl⟩, q⟩
  have same : ∀ b o, s.heap.get? b = some o → s.heap.get? b = some o := fun _ _ e => e
  have hin : X.A.in1.units = X.A.units + 1 := rfl
  cases hd with
  | non =>
    obtain rfl : u = .none := rx
    exact PySem.P.repr_of_none (fin s.heap _ _ same)
  | bl b =>
    obtain rfl : u = .bool b := rx
    exact PySem.P.repr_of_bool (fin s.heap _ _ same)
  | int i =>
    obtain ⟨t, rfl⟩ : ∃ t, u = .int i t := rx
    exact PySem.P.repr_of_int (by simpa [PyData.showable] using sh) (fin s.heap _ _ same)
  | str z =>
    obtain ⟨t, rfl⟩ : ∃ t, u = .str z t := rx
    exact PySem.P.repr_of_str (fin s.heap _ _ same) (hsz := sz)
  | lst h1 h2 =>
    rename_i a vs ds
    obtain rfl : u = .ref a := rx
    obtain ⟨as0, q0⟩ := readsQ I _ _ _ (.lst h1 h2) rfl ok
    have sz' : (listText (PyData.shownAll ds)).length ≤ sizeLine := by rw [PyData.shown] at sz; exact sz
    have sh' : PyData.showableAll ds = true := by rw [PyData.showable] at sh; exact sh
    have dep' : PyData.depthAll ds + 1 ≤ 60 := by simp only [PyData.depth] at dep; omega
    obtain ⟨its, rv, ⟨o, n, ho, hc, _, ht⟩, _⟩ := I.list h1
    obtain ⟨bs, hb, hk⟩ := reprQs I ds _ its h2 rv ok sh' fun t ht => Nat.le_trans (listText_mem_le ht) sz'
    have na := not_mem_of_deeper q0 (show PyData.depthAll ds < (PyData.list ds).depth by simp only [PyData.depth]; omega) hb
    rw [PyData.shown] at fin
    refine call_repr_slot (by omega) ⟨o, ho, hc⟩ F.slot_list_repr.toG ?_
    cases its with
    | nil =>
      cases rv
      cases ds with
      | cons x xs => cases h2
      | nil => exact call_list_repr_empty ⟨o, ho, hc⟩ ho ht ⟨_, _, rfl, fin s.heap _ _ same⟩
    | cons y l => exact call_list_reprK ho hc ht na (by have := hk.length_eq; simpa using this) (fun i z e => hk.item i z (by simpa using e)) (A := X.A.in1) hg (fun b _ => Clear.nil b) (by rw [hin]; omega) same (fun h' t tk hk' => ⟨_, _, rfl, fin h' t tk hk'⟩) sz'
  | tup h1 h2 =>
    rename_i a vs ds
    obtain rfl : u = .ref a := rx
    obtain ⟨as0, q0⟩ := readsQ I _ _ _ (.tup h1 h2) rfl ok
    have sz' : (tupleText (PyData.shownAll ds)).length ≤ sizeLine := by rw [PyData.shown] at sz; exact sz
    have sh' : PyData.showableAll ds = true := by rw [PyData.showable] at sh; exact sh
    have dep' : PyData.depthAll ds + 1 ≤ 60 := by simp only [PyData.depth] at dep; omega
    obtain ⟨its, rv, ⟨o, ho, hc, n, ht⟩, _⟩ := I.tuple h1
    obtain ⟨bs, hb, hk⟩ := reprQs I ds _ its h2 rv ok sh' fun t ht => Nat.le_trans (tupleText_mem_le ht) sz'
    have na := not_mem_of_deeper q0 (show PyData.depthAll ds < (PyData.tuple ds).depth by simp only [PyData.depth]; omega) hb
    rw [PyData.shown] at fin
    refine call_repr_slot (by omega) ⟨o, ho, hc⟩ F.slot_tuple_repr ?_
    exact call_tuple_reprK ho hc ht na hk (A := X.A.in1) hg (fun b _ => Clear.nil b) (by rw [hin]; omega) same (fun h' t tk hk' => ⟨_, _, rfl, fin h' t tk hk'⟩) sz'
  | dct h1 h2 =>
    rename_i a kvs ds
    obtain rfl : u = .ref a := rx
    obtain ⟨hm, q⟩ := dict_reads I h1 h2 ok
    refine repr_of_reads' q sh (fun _ z => ?_) hg (by omega) same (fun h' t tk hk => fin h' t tk hk) (hsz := sz)
    have z := List.mem_singleton.mp z
    rw [← z] at hm
    simp at hm
end
end Wn

namespace Wn
open PySem L2 PySem.Spec PyProof.Rows
/-! ### the heap but for one address; bounds of things -/
def hid (M : List Addr) (H : Hp) : Hp := fun a => if a ∈ M then none else H a
section
variable {M : List Addr} {a : Addr} {H H' : Hp} {o : HO} {K : PySem.W.Frag}
theorem hid_sub : Same (hid M H) H := fun a o h => by
  unfold hid at h
  split at h
  · cases h
  · exact h
theorem hid_same (s : Same H H') : Same (hid M H) (hid M H') := fun a o h => by
  unfold hid at h ⊢
  split at h
  · cases h
  · rename_i n
    rw [if_neg n]
    exact s _ _ h
theorem hid_kp (s : Kp M H H') : Same (hid M H) (hid M H') := fun a o h => by
  unfold hid at h ⊢
  split at h
  · cases h
  · rename_i n
    rw [if_neg n]
    exact s _ _ n h
theorem hid_at (n : a ∉ M) (h : H a = some o) : hid M H a = some o := by
  unfold hid
  rw [if_neg n]
  exact h
theorem hid_ne (h : hid M H a = some o) : a ∉ M := fun e => by
  unfold hid at h
  rw [if_pos e] at h
  cases h
/-- the hidden ones are lists -/
def LstM (M : List Addr) (H : Hp) : Prop := ∀ d ∈ M, ∃ zs, H d = some (.lst zs)
theorem SqT.hid {xs : List V} (h : SqT K H a xs) (l : LstM M H) : SqT K (hid M H) a xs := by
  have n : ∀ o, H a = some o → (∀ zs, o ≠ .lst zs) → a ∉ M := fun o e z m => by
    obtain ⟨zs, g⟩ := l a m
    rw [e] at g
    exact z zs (Option.some.inj g)
  rcases h with (h | ⟨o, h⟩) | h
  · exact .inl (.inl (hid_at (n _ h fun zs => HO.noConfusion) h))
  · exact .inl (.inr ⟨o, hid_at (n _ h fun zs => HO.noConfusion) h⟩)
  · exact .inr h
end
theorem new_ne {d a : Addr} {H H' : Hp} {o : HO} (hd : H d = some o) (s : Same H H') (n : H' a = none) : a ≠ d := fun e => by
  rw [e, s _ _ hd] at n
  cases n
def flatG (M : Nat) : List (PyData × PyData) → Bool
  | [] => true
  | (.str x, .int i) :: r => PyData.strOk x && decide (i.natAbs ≤ M) && flatG M r
  | _ => false
theorem flatG_inv {M : Nat} {p : PyData × PyData} {r : List (PyData × PyData)} (h : flatG M (p :: r) = true) : ∃ x i, p = (.str x, .int i) ∧ PyData.strOk x = true ∧ i.natAbs ≤ M ∧ flatG M r = true := by
  unfold flatG at h
  split at h
  · rename_i e
    cases e
  · rename_i e
    cases e
    rw [Bool.and_eq_true, Bool.and_eq_true] at h
    exact ⟨_, _, rfl, h.1.1, of_decide_eq_true h.1.2, h.2⟩
  · cases h
theorem flatG_mono {M N : Nat} (h : M ≤ N) : ∀ {ds : List (PyData × PyData)}, flatG M ds = true → flatG N ds = true
  | [], _ => rfl
  | p :: r, g => by
    obtain ⟨x, i, rfl, h1, h2, h3⟩ := flatG_inv g
    show (PyData.strOk x && decide (i.natAbs ≤ N) && flatG N r) = true
    rw [h1, decide_eq_true (Nat.le_trans h2 h), flatG_mono h h3]
    rfl
theorem flatG_D {M : Nat} : ∀ {ds : List (PyData × PyData)}, flatG M ds = true → flatD ds = true
  | [], _ => rfl
  | p :: r, g => by
    obtain ⟨x, i, rfl, h1, h2, h3⟩ := flatG_inv g
    exact flatG_D (ds := r) h3
mutual
/-- dicts within only empty ones; numbers, signs, texts bounded -/
def gq (M : Nat) : PyData → Bool
  | .none | .bool _ => true
  | .int i => decide (i.natAbs ≤ M)
  | .str x => PyData.strOk x
  | .list xs | .tuple xs => gqs M xs
  | .dict ds => flatG M ds
def gqs (M : Nat) : List PyData → Bool
  | [] => true
  | x :: xs => gq M x && gqs M xs
end
theorem gqs_all {M : Nat} : ∀ {xs : List PyData}, gqs M xs = true ↔ ∀ x ∈ xs, gq M x = true
  | [] => ⟨(fun _ x h => by cases h), fun _ => rfl⟩
  | x :: xs => by
    show (gq M x && gqs M xs) = true ↔ _
    rw [Bool.and_eq_true, gqs_all, List.forall_mem_cons]
mutual
theorem gq_mono {M N : Nat} (h : M ≤ N) : ∀ {d : PyData}, gq M d = true → gq N d = true
  | .none, _ => rfl
  | .bool _, _ => rfl
  | .int i, g => decide_eq_true (Nat.le_trans (of_decide_eq_true g) h)
  | .str _, g => g
  | .list xs, g => gqs_mono h g
  | .tuple xs, g => gqs_mono h g
  | .dict ds, g => flatG_mono (ds := ds) h g
theorem gqs_mono {M N : Nat} (h : M ≤ N) : ∀ {ds : List PyData}, gqs M ds = true → gqs N ds = true
  | [], _ => rfl
  | x :: xs, g => by
    have g : (gq M x && gqs M xs) = true := g
    rw [Bool.and_eq_true] at g
    show (gq N x && gqs N xs) = true
    rw [gq_mono h g.1, gqs_mono h g.2]
    rfl
end
mutual
theorem gq_okQ {M : Nat} : ∀ {d : PyData}, gq M d = true → okQ d = true
  | .none, _ => rfl
  | .bool _, _ => rfl
  | .int i, g => rfl
  | .str _, g => rfl
  | .list xs, g => gqs_okQ (xs := xs) g
  | .tuple xs, g => gqs_okQ (xs := xs) g
  | .dict ds, g => flatG_D (ds := ds) g
theorem gqs_okQ {M : Nat} : ∀ {xs : List PyData}, gqs M xs = true → okQs xs = true
  | [], _ => rfl
  | x :: xs, g => by
    have g : (gq M x && gqs M xs) = true := g
    rw [Bool.and_eq_true] at g
    show (okQ x && okQs xs) = true
    rw [gq_okQ g.1, gqs_okQ g.2]
    rfl
end
theorem log2_10 {n k : Nat} (h : n ≤ 10 ^ k) (hk : k ≤ 200) : n.log2 < 1920 := by
  by_cases hx : n = 0
  · rw [hx]
    decide
  · have h2 : n ≤ 10 ^ 200 := Nat.le_trans h (Nat.pow_le_pow_right (by decide) hk)
    have h3 : (10 : Nat) ^ 200 < 2 ^ 700 := by decide +kernel
    have := (Nat.log2_lt hx).mpr (Nat.lt_of_le_of_lt h2 h3)
    omega
theorem flatG_show {M : Nat} (hM : M ≤ 10 ^ 30) : ∀ {ds : List (PyData × PyData)}, flatG M ds = true → PyData.showableKv ds = true
  | [], _ => rfl
  | p :: r, g => by
    obtain ⟨x, i, rfl, h1, h2, h3⟩ := flatG_inv g
    have e : (PyData.int i).showable = true := decide_eq_true (log2_10 (Nat.le_trans h2 hM) (by decide))
    unfold PyData.showableKv
    rw [e, flatG_show hM h3]
    rfl
mutual
theorem gq_show {M : Nat} (hM : M ≤ 10 ^ 30) : ∀ {d : PyData}, gq M d = true → d.showable = true
  | .none, _ => rfl
  | .bool _, _ => rfl
  | .int i, g => decide_eq_true (log2_10 (Nat.le_trans (of_decide_eq_true g) hM) (by decide))
  | .str _, g => rfl
  | .list xs, g => gqs_show hM (xs := xs) g
  | .tuple xs, g => gqs_show hM (xs := xs) g
  | .dict ds, g => flatG_show hM (ds := ds) g
theorem gqs_show {M : Nat} (hM : M ≤ 10 ^ 30) : ∀ {xs : List PyData}, gqs M xs = true → PyData.showableAll xs = true
  | [], _ => rfl
  | x :: xs, g => by
    have g : (gq M x && gqs M xs) = true := g
    rw [Bool.and_eq_true] at g
    unfold PyData.showableAll
    rw [gq_show hM g.1, gqs_show hM g.2]
    rfl
end
theorem int_leaf {M : Nat} (hM : M < 10 ^ 31) {i : Int} (g : i.natAbs ≤ M) : (PyData.int i).leavesShort 32 = true := by
  have := int_text_length_le10 (a := i) (k := 31) (by decide) (Nat.lt_of_le_of_lt g hM)
  refine decide_eq_true ?_
  show (Str.ofString (toString i)).length ≤ 32
  rw [PySem.ofString_length]
  exact this
theorem str_leaf {x : Str} (g : PyData.strOk x = true) : (PyData.str x).leavesShort 32 = true := by
  have g : x.cps.all (· < 0x110000) = true := g
  unfold PyData.leavesShort
  rw [List.all_eq_true]
  rw [← Array.all_toList, List.all_eq_true] at g
  intro c hc
  have := of_decide_eq_true (g c hc)
  exact decide_eq_true (by omega)
theorem flatG_leaf {M : Nat} (hM : M < 10 ^ 31) : ∀ {ds : List (PyData × PyData)}, flatG M ds = true → PyData.leavesShortKv 32 ds = true
  | [], _ => rfl
  | p :: r, g => by
    obtain ⟨x, i, rfl, h1, h2, h3⟩ := flatG_inv g
    unfold PyData.leavesShortKv
    rw [str_leaf h1, int_leaf hM h2, flatG_leaf hM h3]
    rfl
mutual
theorem gq_leaf {M : Nat} (hM : M < 10 ^ 31) : ∀ {d : PyData}, gq M d = true → d.leavesShort 32 = true
  | .none, _ => rfl
  | .bool _, _ => rfl
  | .int i, g => by
    have := int_text_length_le10 (a := i) (k := 31) (by decide) (Nat.lt_of_le_of_lt (of_decide_eq_true g) hM)
    refine decide_eq_true ?_
    show (Str.ofString (toString i)).length ≤ 32
    rw [PySem.ofString_length]; exact this
  | .str x, g => by
    have g : x.cps.all (· < 0x110000) = true := g
    unfold PyData.leavesShort
    rw [List.all_eq_true]
    rw [← Array.all_toList, List.all_eq_true] at g
    intro c hc
    have := of_decide_eq_true (g c hc)
    exact decide_eq_true (by omega)
  | .list xs, g => by
    unfold PyData.leavesShort
    exact gqs_leaf hM (xs := xs) g
  | .tuple xs, g => by
    unfold PyData.leavesShort
    exact gqs_leaf hM (xs := xs) g
  | .dict ds, g => by
    unfold PyData.leavesShort
    exact flatG_leaf hM (ds := ds) g
theorem gqs_leaf {M : Nat} (hM : M < 10 ^ 31) : ∀ {xs : List PyData}, gqs M xs = true → PyData.leavesShortAll 32 xs = true
  | [], _ => rfl
  | x :: xs, g => by
    have g : (gq M x && gqs M xs) = true := g
    rw [Bool.and_eq_true] at g
    unfold PyData.leavesShortAll
    rw [gq_leaf hM g.1, gqs_leaf hM g.2]
    rfl
end
mutual
/-- the longest list or tuple within -/
def wid : PyData → Nat
  | .list xs | .tuple xs => max xs.length (wids xs)
  | _ => 0
def wids : List PyData → Nat
  | [] => 0
  | x :: xs => max (wid x) (wids xs)
end
theorem wids_le {n : Nat} : ∀ {xs : List PyData}, wids xs ≤ n ↔ ∀ x ∈ xs, wid x ≤ n
  | [] => ⟨(fun _ x h => by cases h), fun _ => Nat.zero_le _⟩
  | x :: xs => by
    rw [List.forall_mem_cons, ← wids_le (xs := xs)]
    show max (wid x) (wids xs) ≤ n ↔ _
    omega
theorem wid_t {xs : List PyData} {n : Nat} : wid (.tuple xs) ≤ n ↔ xs.length ≤ n ∧ ∀ x ∈ xs, wid x ≤ n := by
  rw [← wids_le]
  show max xs.length (wids xs) ≤ n ↔ _
  omega
structure GQ (M N B W : Nat) (d : PyData) : Prop where
  g : gq M d = true
  n : d.depth ≤ N
  b : d.bulk ≤ B
  w : wid d ≤ W
theorem GQ.mono {M N B W M' N' B' W' : Nat} {d : PyData} (h : GQ M N B W d) (h1 : M ≤ M') (h2 : N ≤ N') (h3 : B ≤ B') (h4 : W ≤ W') : GQ M' N' B' W' d := ⟨gq_mono h1 h.g, Nat.le_trans h.n h2, Nat.le_trans h.b h3, Nat.le_trans h.w h4⟩
/-- what repr asks of a thing -/
theorem GQ.rep {M N B W : Nat} {d : PyData} (h : GQ M N B W d) (hM : M ≤ 10 ^ 30) (hN : N ≤ 60) (hB : B ≤ 490000) : okQ d = true ∧ d.showable = true ∧ d.depth ≤ 60 ∧ d.shown.length ≤ sizeLine := by
  refine ⟨gq_okQ h.g, gq_show hM h.g, Nat.le_trans h.n hN, ?_⟩
  have := PyData.shown_le_bulk 32 (by decide) d (gq_leaf (Nat.lt_of_le_of_lt hM (by decide)) h.g)
  have hb := h.b
  rw [sizeLine_eq]
  omega
/-! ### bulk, depth of lists -/
theorem bulk_app : ∀ (xs ys : List PyData), PyData.bulkAll (xs ++ ys) = PyData.bulkAll xs + PyData.bulkAll ys
  | [], ys => by
    show _ = 0 + _
    rw [Nat.zero_add]
    rfl
  | x :: xs, ys => by
    show PyData.bulk x + 1 + PyData.bulkAll (xs ++ ys) = PyData.bulk x + 1 + PyData.bulkAll xs + _
    rw [bulk_app xs ys]
    omega
theorem bulk_rev : ∀ (xs : List PyData), PyData.bulkAll xs.reverse = PyData.bulkAll xs
  | [] => rfl
  | x :: xs => by
    rw [List.reverse_cons, bulk_app, bulk_rev xs]
    show _ + (PyData.bulk x + 1 + 0) = PyData.bulk x + 1 + _
    omega
theorem bulk_split (xs : List PyData) (i : Nat) : PyData.bulkAll (xs.take i) + PyData.bulkAll (xs.drop i) = PyData.bulkAll xs := by
  rw [← bulk_app, List.take_append_drop]
theorem bulk_len : ∀ (xs : List PyData), xs.length ≤ PyData.bulkAll xs
  | [] => Nat.le_refl _
  | x :: xs => by
    have := bulk_len xs
    show xs.length + 1 ≤ PyData.bulk x + 1 + PyData.bulkAll xs
    omega
theorem depthAll_le {n : Nat} : ∀ {xs : List PyData}, PyData.depthAll xs ≤ n ↔ ∀ x ∈ xs, x.depth ≤ n
  | [] => ⟨(fun _ x h => by cases h), fun _ => Nat.zero_le _⟩
  | x :: xs => by
    rw [List.forall_mem_cons, ← depthAll_le (xs := xs)]
    show max x.depth (PyData.depthAll xs) ≤ n ↔ _
    omega
theorem depth_tup {xs : List PyData} : (PyData.tuple xs).depth = PyData.depthAll xs + 1 := by simp only [PyData.depth] <;> omega
theorem depth_lst {xs : List PyData} : (PyData.list xs).depth = PyData.depthAll xs + 1 := by simp only [PyData.depth] <;> omega
mutual
theorem Rp.dkh {K : PySem.W.Frag} {M : List Addr} {H : Hp} (l : LstM M H) : ∀ (D : PyData) {v : V}, Rp K H D v → Dk K (hid M H) v D
  | .none, v, h => by
    unfold Rp at h
    subst h
    exact .non
  | .bool b, v, h => by
    unfold Rp at h
    subst h
    exact .bl b
  | .int i, v, h => by
    unfold Rp at h
    subst h
    exact .int i
  | .str x, v, h => by
    unfold Rp at h
    subst h
    exact .str x
  | .tuple ds, v, h => by
    unfold Rp at h
    obtain ⟨a, xs, rfl, h1, h2⟩ := h
    exact .tup (SqT.hid h1 l) (RpL.dkh l ds h2)
  | .list _, v, h => by
    unfold Rp at h
    exact h.elim
  | .dict _, v, h => by
    unfold Rp at h
    exact h.elim
theorem RpL.dkh {K : PySem.W.Frag} {M : List Addr} {H : Hp} (l : LstM M H) : ∀ (ds : List PyData) {xs : List V}, RpL K H ds xs → DkAll K (hid M H) xs ds
  | [], xs, h => by
    unfold RpL at h
    subst h
    exact .nil
  | d :: ds, xs, h => by
    unfold RpL at h
    obtain ⟨v, r, rfl, h1, h2⟩ := h
    exact .cons (Rp.dkh l d h1) (RpL.dkh l ds h2)
end
end Wn

set_option maxHeartbeats 800000
namespace Wn
open PySem L2
set_option pp.maxSteps 700
set_option pp.deepTerms false
local macro_rules | `(tactic| walk_at "h") => `(tactic| first | with_reducible assumption | (with_reducible exact upd_same) | (with_reducible apply g_upd; (walk_at "neq"); (walk_at "h")) | (with_reducible apply g_same; (with_reducible assumption); (walk_at "h")) | (with_reducible apply g_kp; (with_reducible assumption); (walk_at "nin"); (walk_at "h")) | (with_reducible apply g_tk; (with_reducible assumption); (walk_at "h")))
local macro_rules | `(tactic| walk_at "neq") => `(tactic| first | with_reducible assumption | (with_reducible apply Ne.symm; with_reducible assumption) | (with_reducible apply ne_upd; (with_reducible assumption)) | (with_reducible apply Ne.symm; with_reducible apply ne_upd; with_reducible assumption) | (with_reducible apply ne_fr; (with_reducible assumption); (walk_at "h")) | (with_reducible apply ne_fr'; (with_reducible assumption); (walk_at "h")) | (with_reducible apply ne_kd; (walk_at "h"); (walk_at "h"); (with_unfolding_all (intro z; cases z))))
local macro_rules | `(tactic| walk_at "nin") => `(tactic| first | (with_reducible exact nin0) | with_reducible assumption | (with_reducible apply ninc; (walk_at "neq"); (walk_at "nin")))
local macro_rules | `(tactic| walk_at "none") => `(tactic| first | with_reducible assumption | (with_reducible apply n_upd; (with_reducible assumption)) | (with_reducible apply n_same; (with_reducible assumption); (walk_at "none")) | (with_reducible apply n_kp; (with_reducible assumption); (walk_at "nin"); (walk_at "none")))
local macro_rules | `(tactic| walk_at "mem") => `(tactic| first | (with_reducible exact List.mem_cons_self) | (with_reducible apply List.mem_cons_of_mem; (walk_at "mem")))
local macro_rules | `(tactic| walk_at "am") => `(tactic| first | (with_reducible exact am0) | (with_reducible apply am1; (first | (apply Or.inl; walk_at "mem") | (apply Or.inr; walk_at "none")); (walk_at "am")))
local macro_rules | `(tactic| walk_at "tk") => `(tactic| first | (with_reducible exact TK.refl _) | with_reducible assumption | (with_reducible apply t_tk; (with_reducible assumption); (walk_at "tk")) | (with_reducible apply t_same; (with_reducible assumption); (walk_at "tk")) | (with_reducible apply t_new; (with_reducible assumption); (walk_at "tk")) | (with_reducible apply t_wr; (walk_at "h"); (with_unfolding_all rfl); (walk_at "tk")))
local macro_rules | `(tactic| walk_at "same") => `(tactic| first | (with_reducible exact L2.Same.refl _) | with_reducible assumption | (with_reducible apply s_same; (with_reducible assumption); (walk_at "same")) | (with_reducible apply s_new; (with_reducible assumption); (walk_at "same")) | (with_reducible apply s_wrn; (walk_at "none"); (walk_at "same")))
local macro_rules | `(tactic| walk_at "kp") => `(tactic| first | (with_reducible exact Kp.refl _ _) | with_reducible assumption | (with_reducible apply k_same; (with_reducible assumption); (walk_at "kp")) | (with_reducible apply k_kp; (with_reducible assumption); (walk_at "kp")) | (with_reducible apply k_kpm; (with_reducible assumption); (walk_at "am"); (walk_at "kp")) | (with_reducible apply k_new; (with_reducible assumption); (walk_at "kp")) | (with_reducible apply k_wr; (walk_at "mem"); (walk_at "kp")) | (with_reducible apply k_wrn; (walk_at "none"); (walk_at "kp")))
local macro_rules | `(tactic| walk_at "rp") => `(tactic| first | with_reducible assumption | (with_reducible exact Rp.int) | (with_reducible exact Rp.str) | (with_reducible exact Rp.none) | (with_reducible exact Rp.bool) | (with_reducible apply Rp.tk'; (with_reducible assumption); (walk_at "tk")) | (with_reducible apply Rp.tup; (walk_at "h"); (walk_at "rpl")))
local macro_rules | `(tactic| walk_at "rpl") => `(tactic| first | with_reducible assumption | (with_reducible exact RpL.nil) | (with_reducible apply RpL.tk'; (with_reducible assumption); (walk_at "tk")) | (with_reducible apply RpL.cons; (walk_at "rp"); (walk_at "rpl")))
local macro_rules | `(tactic| walk_at "g") => `(tactic| repeat (first | refine ⟨_, rfl, ?_⟩ | refine ⟨_, _, rfl, rfl, ?_⟩ | refine ⟨rfl, _, rfl, ?_⟩ | refine ⟨_, _, rfl, rfl, (by first | decide | omega), ?_⟩))
abbrev sIsRow : Stmt := top 8
abbrev sSettled : Stmt := top 9
def X24m (X : Mx) (m : Nat) : Prop := ∀ x, x < m → ∀ y, y < m → X x y ≤ 24
def rowB (m : Nat) : PyData → Bool
  | .tuple es => decide (es.length = m) && es.all fun d => fromD d 0 24
  | _ => false
def gridB (m : Nat) : PyData → Bool
  | .tuple ds => decide (ds.length = m) && ds.all (rowB m)
  | _ => false
def cellOf : PyData → Nat → Nat
  | .tuple es, o => match es[o]? with
    | some (.int i) => i.toNat
    | _ => 0
  | _, _ => 0
def matOf : PyData → Mx
  | .tuple ds => fun h o => match ds[h]? with
    | some r => cellOf r o
    | none => 0
  | _ => fun _ _ => 0
theorem from24 {d : PyData} (h : fromD d 0 24 = true) : ∃ n : Nat, d = .int (n : Int) ∧ n ≤ 24 := by
  cases d with
  | int i =>
    have h : (decide ((0 : Int) ≤ i) && decide (i ≤ 24)) = true := h
    rw [Bool.and_eq_true, decide_eq_true_eq, decide_eq_true_eq] at h
    exact ⟨i.toNat, by rw [Int.toNat_of_nonneg h.1], by omega⟩
  | _ => cases h
theorem row_of {m : Nat} {d : PyData} (h : rowB m d = true) : d = .tuple ((List.range m).map fun o => .int ((cellOf d o : Nat) : Int)) ∧ ∀ o, o < m → cellOf d o ≤ 24 := by
  cases d with
  | tuple es =>
    have h : (decide (es.length = m) && es.all fun d => fromD d 0 24) = true := h
    rw [Bool.and_eq_true, decide_eq_true_eq, List.all_eq_true] at h
    obtain ⟨e0, g⟩ := h
    subst e0
    have at1 : ∀ o, (ho : o < es.length) → es[o] = .int ((cellOf (.tuple es) o : Nat) : Int) ∧ cellOf (.tuple es) o ≤ 24 := fun o ho => by
      obtain ⟨n, e, le⟩ := from24 (g es[o] (List.getElem_mem ho))
      have ec : cellOf (.tuple es) o = n := by
        show (match es[o]? with | some (.int i) => i.toNat | _ => 0) = n
        rw [List.getElem?_eq_getElem ho, e]
        rfl
      rw [ec]
      exact ⟨e, le⟩
    refine ⟨?_, fun o ho => (at1 o ho).2⟩
    rw [PyData.tuple.injEq]
    refine List.ext_getElem (by rw [List.length_map, List.length_range]) fun o h1 h2 => ?_
    rw [List.getElem_map, List.getElem_range]
    exact (at1 o h1).1
  | _ => cases h
theorem grid_of {m : Nat} {D : PyData} (h : gridB m D = true) : D = .tuple (gridD (matOf D) m) ∧ X24m (matOf D) m := by
  cases D with
  | tuple ds =>
    have h : (decide (ds.length = m) && ds.all (rowB m)) = true := h
    rw [Bool.and_eq_true, decide_eq_true_eq, List.all_eq_true] at h
    obtain ⟨l, h⟩ := h
    have em : ∀ x, (hx : x < ds.length) → ∀ o, matOf (.tuple ds) x o = cellOf ds[x] o := fun x hx o => by
      show (match ds[x]? with | some r => cellOf r o | none => 0) = _
      rw [List.getElem?_eq_getElem hx]
    refine ⟨?_, fun x hx y hy => ?_⟩
    · rw [PyData.tuple.injEq]
      unfold gridD
      refine List.ext_getElem (by rw [List.length_map, List.length_range, l]) fun x h1 h2 => ?_
      rw [List.getElem_map, List.getElem_range]
      obtain ⟨e, _⟩ := row_of (h ds[x] (List.getElem_mem h1))
      rw [e]
      unfold rowD
      rw [PyData.tuple.injEq]
      refine List.map_congr_left fun o _ => ?_
      rw [em x h1 o]
    · rw [em x (by omega) y]
      exact (row_of (h ds[x] (List.getElem_mem (by omega)))).2 y hy
  | _ => cases h
theorem grid_B {m : Nat} {X : Mx} (le : X24m X m) : gridB m (.tuple (gridD X m)) = true := by
  show (decide ((gridD X m).length = m) && (gridD X m).all (rowB m)) = true
  rw [Bool.and_eq_true, decide_eq_true_eq, List.all_eq_true]
  refine ⟨by unfold gridD; rw [List.length_map, List.length_range], fun d hd => ?_⟩
  obtain ⟨h, hh, rfl⟩ := List.mem_map.mp hd
  show (decide (_ = m) && _) = true
  rw [Bool.and_eq_true, decide_eq_true_eq, List.all_eq_true]
  refine ⟨by rw [List.length_map, List.length_range], fun d hd => ?_⟩
  obtain ⟨o, ho, rfl⟩ := List.mem_map.mp hd
  have := le h (List.mem_range.mp hh) o (List.mem_range.mp ho)
  show (decide ((0 : Int) ≤ (X h o : Nat)) && decide (((X h o : Nat) : Int) ≤ 24)) = true
  rw [decide_eq_true (by omega), decide_eq_true (by omega)]
  rfl
/-- whether a thing is fars that a turn leaves as they are -/
def setB (m : Nat) (zr : List (Rd × Bool)) (D : PyData) : Bool := gridB m D && PyData.eqv (.tuple (gridD (turn zr (matOf D)) m)) D
theorem setB_fix {m : Nat} {zr : List (Rd × Bool)} {D : PyData} (h : setB m zr D = true) : D = .tuple (gridD (matOf D) m) ∧ Fixed m zr (matOf D) := by
  unfold setB at h
  rw [Bool.and_eq_true] at h
  obtain ⟨e, le⟩ := grid_of h.1
  refine ⟨e, ?_⟩
  have h2 := h.2
  rw [show PyData.eqv (.tuple (gridD (turn zr (matOf D)) m)) D = PyData.eqv (.tuple (gridD (turn zr (matOf D)) m)) (.tuple (gridD (matOf D) m)) from by rw [← e]] at h2
  exact fun x hx y hy => (grid_eqv.mp h2 x hx y hy).symm
/-- such a thing as a grid -/
theorem Dk.tupAt {K : PySem.W.Frag} {H : Hp} {v : V} {m : Nat} {X : Mx} (h : Dk K H v (.tuple (gridD X m))) : ∃ a, v = .ref a ∧ TupAt K H a (gridD X m) := by
  obtain ⟨a, xs, rfl, ha, hx⟩ := h.inv_tup
  refine ⟨a, rfl, a, xs, rfl, ha, ?_⟩
  have gen : ∀ {ds : List PyData} {xs : List V}, DkAll K H xs ds → (∀ d ∈ ds, ∀ v, Dk K H v d → Rp K H d v) → RpL K H ds xs := by
    intro ds
    induction ds with
    | nil => intro xs h _; rw [h.inv_nil]; exact RpL.nil
    | cons d ds ih =>
      intro xs h g
      obtain ⟨v, r, rfl, h1, h2⟩ := h.inv_cons
      exact RpL.cons (g d List.mem_cons_self v h1) (ih h2 fun d hd => g d (List.mem_cons_of_mem _ hd))
  refine gen hx fun d hd v hv => ?_
  obtain ⟨x, _, rfl⟩ := List.mem_map.mp hd
  obtain ⟨b, ys, rfl, hb, hy⟩ := hv.inv_tup
  refine ⟨b, ys, rfl, hb, gen hy fun d hd v hv => by
    obtain ⟨o, _, rfl⟩ := List.mem_map.mp hd
    rw [hv.inv_int]
    exact Rp.int⟩
def spIsRowK (K : PySem.W.Frag) : Sp := fun vs H Q _ => ∃ (m : Nat) (v : V) (d : PyData), vs = [.int m, v] ∧ Dk K H v d ∧ wid d ≤ 100000 ∧ ∀ H', Same H H' → Q (.bl (rowB m d)) H'
def spSettledK (K : PySem.W.Frag) : Sp := fun vs H Q _ => ∃ (m : Nat) (rs : List Rd) (bs : List Bool) (la ua : Addr) (v : V) (d : PyData), vs = [.int m, .ref la, .ref ua, v] ∧ TupAt K H la (rs.map rdD) ∧ TupAt K H ua (bs.map PyData.bool) ∧ bs.length = rs.length ∧ RdsOk m rs ∧ Dk K H v d ∧ wid d ≤ 100000 ∧
  ∀ H', Same H H' → Q (.bl (setB m (rs.zip bs) d)) H'
structure StB (mg : Str → Option Value) : Prop where
  isinstance : mg "isinstance" = none
  tuple : mg "tuple" = none
  len : mg "len" = none
  all : mg "all" = none

section
variable {P : Program} {w : World} {K : PySem.W.Frag} {mg : Str → Option Value} {base : Heap}
theorem scIsRow : FnScope ["houses", "thing", "far"] ["houses", "thing"] (defScope sIsRow) := ⟨rfl, rfl, rfl, by decide +kernel, rfl, by decide +kernel, by decide +kernel⟩
theorem ok_isrowK {f : Addr} {fd : FuncData} (F : Fun K "is_row" "is_row" sIsRow f fd) (B : StB mg) (hFAR : ∃ t, mg "FAR" = some (.int 24 t)) (cF : Cd P w K mg base 2 "is_from" ["thing", "low", "high"] (spFromK K)) : FnOk P w K mg base CX0 3 f fd ["houses", "thing"] (spIsRowK K) := by
  obtain ⟨tF, mFAR⟩ := hFAR
  obtain ⟨fF, fdF, GF, mF, kF, bF⟩ := cF
  refine F.ok scIsRow (fun vs H Q E h => ?_) (fun cdv A outer s H vs Q E hr h => ?_)
  · obtain ⟨m, v, d, rfl, _⟩ := h
    rfl
  · obtain ⟨m, v, d, rfl, hd, hw, k⟩ := h
    have hr2 : Room 2 _ := hr
    refine ⟨_, (pss_cons (ps_if (PW.pt (pw_or (pt_not (pt_val (pe_callB (isiK (K := K) rfl) (by rfl) B.isinstance (by decide +kernel) (pa_cons (pv 1) (pa_cons (pe_bltn (v := .ty "tuple") (by rfl) B.tuple PyProof.Rows.boot_tuple rfl) pa_nil))))) (pw_or1 (pt_cmpR op_ne (pe_callB (lenK (K := K) rfl) (by rfl) B.len PySem.boot_len (pa_cons (pv 1) pa_nil)) (pv 0) (nomark _)))))
       (pss_one (ps_ret pe_bl))
       pss_nil)
       (pss_one (ps_ret (pe_callB (crAllK (K := K) rfl rfl) (by rfl) B.all (by decide +kernel) (pa_cons (pe_lc (own := [("far", 2)]) (g := (gName 2)) (tt := tYes) rfl scIsRow.nd (pi_tup (pv 1)) (blkOk_by (N := ["houses", "thing", "far"]) (sc := defScope sIsRow) (by decide +kernel))
       (fun _ _ _ _ _ => (pg_name (i := 2) scIsRow.nd rfl (Or.inl rfl))) (fun _ _ _ _ _ => pts_nil) (fun _ _ _ _ _ => (pe_call GF hr2 rfl mF kF bF .nil pass0 (pa_cons (pv 2) (pa_cons pe_int (pa_cons (pe_glob (v := .int 24) (by rfl) mFAR ⟨_, rfl⟩) pa_nil)))))) pa_nil))))), ?_⟩
    have no : rowB m d = false → Q (.bl false) H := fun e => by
      have z := k H (L2.Same.refl _)
      rwa [e] at z
    refine ⟨_, rfl, _, _, _, _, _, rfl, .ty _, hd.ty, kit_tuple d, _, rfl, iteNP (fun c => no ?_) (fun c => ?_)⟩
    · cases hd <;> first | rfl | exact absurd rfl c
    obtain ⟨es, rfl⟩ : ∃ es, d = .tuple es := by
      cases hd with
      | tup h1 h2 => exact ⟨_, rfl⟩
      | _ => simp [tyN] at c
    obtain ⟨a, xs, rfl, ha, hx⟩ := hd.inv_tup
    have lx := hx.len
    have hw := wid_t.mp hw
    refine ⟨_, rfl, _, xs.length, rfl, .inr ⟨_, ha, rfl⟩, _, rfl, rfl, _, rfl, iteNI (fun c => no ?_) (fun c => ?_)⟩
    · show (decide (es.length = m) && _) = false
      rw [decide_eq_false (by omega), Bool.false_and]
    refine ⟨_, rfl, a, rfl, ⟨_, ha⟩, fun D nD => ?_⟩
    refine comp_ls (L := es) ((walk_tup (K := K) (a := a) (xs := xs)).cast lx) (fun H' s' => SqT.sm ha s') (fun _ => true) (fun q => .bl (fromD q 0 24)) nD (by omega) ?_ ?_
    · rintro j b v H' H'' Q' N' hj s' ⟨rfl, hv⟩ hQ hN
      obtain ⟨u, eu, hu⟩ := hx.get hj
      rw [eu] at hv
      cases hv
      refine ⟨rfl, tYes_t (iteT ?_)⟩
      exact ⟨_, rfl, _, b, _, _, rfl, hu.sm s', hQ rfl _ (L2.Same.refl _)⟩
    intro H1 s1 h1
    rw [filter_all] at h1
    refine ⟨D, es.map (fun q => fromD q 0 24), rfl, .inl (.inl (by rw [List.map_map]; exact h1)), ?_⟩
    have z := k H1 s1
    have e : rowB m (.tuple es) = (es.map fun q => fromD q 0 24).all id := by
      show (decide (es.length = m) && _) = _
      rw [decide_eq_true (by omega), Bool.true_and, List.all_map]
      rfl
    rw [e] at z
    exact z
theorem scSettled : FnScope ["houses", "roads", "up", "fars", "row"] ["houses", "roads", "up", "fars"] (defScope sSettled) := ⟨rfl, rfl, rfl, by decide +kernel, rfl, by decide +kernel, by decide +kernel⟩
theorem ok_settledK {f : Addr} {fd : FuncData} (F : Fun K "is_settled" "is_settled" sSettled f fd) (B : StB mg) (cR : Cd P w K mg base 3 "is_row" ["houses", "thing"] (spIsRowK K)) (cN : Cd P w K mg base 1 "near_rows" ["houses", "roads", "up"] (spNear K)) (cA : Cd P w K mg base 2 "turned_all" ["near", "fars"] (spTAll K)) : FnOk P w K mg base CX0 4 f fd ["houses", "roads", "up", "fars"] (spSettledK K) := by
  obtain ⟨fR, fdR, GR, mR, kR, bR⟩ := cR
  obtain ⟨fN, fdN, GN, mN, kN, bN⟩ := cN
  obtain ⟨fA, fdA, GA, mA, kA, bA⟩ := cA
  refine F.ok scSettled (fun vs H Q E h => ?_) (fun cdv A outer s H vs Q E hr h => ?_)
  · obtain ⟨m, rs, bs, la, ua, v, d, rfl, _⟩ := h
    rfl
  · obtain ⟨m, rs, bs, la, ua, v, d, rfl, hL, hU, lb, R, hd, hw, k⟩ := h
    have hr3 : Room 3 _ := hr
    have hr2 : Room 2 _ := hr.mono (by decide)
    have hr1 : Room 1 _ := hr.mono (by decide)
    refine ⟨_, (pss_cons (ps_if (PW.pt (pw_or (pt_not (pt_val (pe_callB (isiK (K := K) rfl) (by rfl) B.isinstance (by decide +kernel) (pa_cons (pv 3) (pa_cons (pe_bltn (v := .ty "tuple") (by rfl) B.tuple PyProof.Rows.boot_tuple rfl) pa_nil))))) (pw_or (pt_cmpR op_ne (pe_callB (lenK (K := K) rfl) (by rfl) B.len PySem.boot_len (pa_cons (pv 3) pa_nil)) (pv 0) (nomark _)) (pw_or1 (pt_not (pt_val (pe_callB (crAllK (K := K) rfl rfl) (by rfl) B.all (by decide +kernel) (pa_cons (pe_lc (own := [("row", 4)]) (g := (gName 4)) (tt := tYes) rfl scSettled.nd (pi_tup (pv 3)) (blkOk_by (N := ["houses", "roads", "up", "fars", "row"]) (sc := defScope sSettled) (by decide +kernel))
       (fun _ _ _ _ _ => (pg_name (i := 4) scSettled.nd rfl (Or.inl rfl))) (fun _ _ _ _ _ => pts_nil) (fun _ _ _ _ _ => (pe_call GR hr3 rfl mR kR bR .nil pass0 (pa_cons (pv 0) (pa_cons (pv 4) pa_nil))))) pa_nil))))))))
       (pss_one (ps_ret pe_bl))
       pss_nil)
       (pss_one (ps_ret (pe_cmpR (eqDK (K := K) rfl hr.units) (pe_call GA hr2 rfl mA kA bA .nil pass0 (pa_cons (pe_call GN hr1 rfl mN kN bN .nil pass0 (pa_cons (pv 0) (pa_cons (pv 1) (pa_cons (pv 2) pa_nil)))) (pa_cons (pv 3) pa_nil))) (pv 3) (nomark _))))), ?_⟩
    have m8 := R.m8
    have lr := R.few
    have RI := rdsIn (bs := bs) R
    have lzip : (rs.zip bs).length ≤ 14 := by rw [List.length_zip]; omega
    have no : ∀ H', Same H H' → gridB m d = false → Q (.bl false) H' := fun H' s e => by
      have z := k H' s
      unfold setB at z
      rwa [e, Bool.false_and] at z
    refine ⟨_, rfl, _, _, _, _, _, rfl, .ty _, hd.ty, kit_tuple d, _, rfl, iteNP (fun c => no _ (L2.Same.refl _) ?_) (fun c => ?_)⟩
    · cases hd <;> first | rfl | exact absurd rfl c
    obtain ⟨es, rfl⟩ : ∃ es, d = .tuple es := by
      cases hd with
      | tup h1 h2 => exact ⟨_, rfl⟩
      | _ => simp [tyN] at c
    obtain ⟨ga, xs, rfl, ha, hx⟩ := hd.inv_tup
    have lx := hx.len
    have hwt := wid_t.mp hw
    refine ⟨_, rfl, _, xs.length, rfl, .inr ⟨_, ha, rfl⟩, _, rfl, rfl, _, rfl, iteNI (fun c => no _ (L2.Same.refl _) ?_) (fun c => ?_)⟩
    · show (decide (es.length = m) && _) = false
      rw [decide_eq_false (by omega), Bool.false_and]
    refine ⟨_, rfl, ga, rfl, ⟨_, ha⟩, fun D nD => ?_⟩
    refine comp_ls (L := es) ((walk_tup (K := K) (a := ga) (xs := xs)).cast lx) (fun H' s' => SqT.sm ha s') (fun _ => true) (fun q => .bl (rowB m q)) nD (by omega) ?_ ?_
    · rintro j b v H' H'' Q' N' hj s' ⟨rfl, hv⟩ hQ hN
      obtain ⟨u, eu, hu⟩ := hx.get hj
      rw [eu] at hv
      cases hv
      refine ⟨rfl, tYes_t (iteT ?_)⟩
      exact ⟨_, rfl, _, rfl, m, _, b, rfl, hu.sm s', hwt.2 b (List.mem_of_getElem? hj), fun H'' s'' => hQ rfl _ s''⟩
    intro H1 s1 h1
    rw [filter_all] at h1
    refine ⟨D, es.map (fun q => rowB m q), rfl, .inl (.inl (by rw [List.map_map]; exact h1)), _, rfl, ?_⟩
    have eg : gridB m (.tuple es) = (es.map fun q => rowB m q).all id := by
      show (decide (es.length = m) && _) = _
      rw [decide_eq_true (by omega), Bool.true_and, List.all_map]
      rfl
    cases ea : (es.map fun q => rowB m q).all id with
    | false => exact iteT (no _ s1 (eg.trans ea))
    | true =>
    refine iteF ?_
    obtain ⟨e, le⟩ := grid_of (eg.trans ea)
    generalize eX : matOf (.tuple es) = X at e le
    have hd1 := hd.sm s1
    rw [e] at hd1
    obtain ⟨_, e0, hg⟩ := Dk.tupAt hd1
    cases e0
    refine ⟨_, rfl, _, rfl, _, rfl, m, rs, bs, la, ua, rfl, hL.tk (TK.of s1), hU.tk (TK.of s1), lb, R, fun H2 na ls s2 lls N2 => ?_⟩
    refine ⟨_, rfl, m, rs.zip bs, X, na, ga, ls, rfl, N2, lls, m8, lzip, RI, hg.tk (TK.of s2), fun H3 b s3 r3 => ?_⟩
    refine ⟨_, rfl, .tuple (gridD (turn (rs.zip bs) X) m), .tuple (gridD X m), Rp.dp _ _ r3, Rp.dp _ _ (hg.tk (TK.of (s2.trans s3))), grid_shp _ _, grid_shp _ _, ?_⟩
    have z := k H3 (s1.trans (s2.trans s3))
    unfold setB at z
    rw [eg, ea, Bool.true_and, eX, e] at z
    exact z
end
end Wn

namespace Wn
open PySem L2
/-! ### terms that make data, all of it new -/
def nw (H H' : Hp) : Hp := fun a => if H a = none then H' a else none
theorem nw_sub {H H' : Hp} : Same (nw H H') H' := fun a o h => by
  unfold nw at h
  split at h
  · exact h
  · cases h
theorem nw_right {H H1 H2 : Hp} (s : Same H1 H2) : Same (nw H H1) (nw H H2) := fun a o h => by
  unfold nw at h ⊢
  split at h
  · rename_i n
    rw [if_pos n]
    exact s _ _ h
  · cases h
theorem nw_left {H H1 H2 : Hp} (s : Same H H1) : Same (nw H1 H2) (nw H H2) := fun a o h => by
  unfold nw at h ⊢
  split at h
  · rename_i n
    have n0 : H a = none := by
      cases e : H a with
      | none => rfl
      | some x => rw [s _ _ e] at n; cases n
    rw [if_pos n0]
    exact h
  · cases h
theorem nw_at {H H1 H2 : Hp} {a : Addr} {o : HO} (s : Same H H1) (n : H1 a = none) (h : H2 a = some o) : nw H H2 a = some o := by
  have n0 : H a = none := by
    cases e : H a with
    | none => rfl
    | some x => rw [s _ _ e] at n; cases n
  unfold nw
  rw [if_pos n0]
  exact h
theorem nw_hid {M : List Addr} {H H' : Hp} (n : ∀ d ∈ M, H d ≠ none) : Same (nw H H') (hid M H') := fun a o h => by
  unfold nw at h
  split at h
  · rename_i z
    exact hid_at (fun e => n a e z) h
  · cases h
def Mk (K : PySem.W.Frag) (t : TE) (D : PyData) : Prop := ∀ σ H Q, (∀ H' v, Same H H' → Dk K (nw H H') v D → Q v H') → t σ H Q
def MkA (K : PySem.W.Frag) (t : TA) (Ds : List PyData) : Prop := ∀ σ H Q, (∀ H' vs, Same H H' → DkAll K (nw H H') vs Ds → Q vs H') → t σ H Q
theorem Mk.non {K : PySem.W.Frag} : Mk K (tC .non) .none := fun σ H Q h => h H .non (L2.Same.refl _) .non
theorem Mk.bl {K : PySem.W.Frag} {b : Bool} : Mk K (tC (.bl b)) (.bool b) := fun σ H Q h => h H (.bl b) (L2.Same.refl _) (.bl b)
theorem Mk.int {K : PySem.W.Frag} {i : Int} : Mk K (tC (.int i)) (.int i) := fun σ H Q h => h H (.int i) (L2.Same.refl _) (.int i)
theorem Mk.str {K : PySem.W.Frag} {x : Str} : Mk K (tC (.str x)) (.str x) := fun σ H Q h => h H (.str x) (L2.Same.refl _) (.str x)
theorem Mk.neg {K : PySem.W.Frag} {i : Int} : Mk K (tUn (rU fun i => V.int (-i)) (tC (.int i))) (.int (-i)) := fun σ H Q h => ⟨i, rfl, h H (.int (-i)) (L2.Same.refl _) (.int _)⟩
theorem Mk.pow {K : PySem.W.Frag} {i j : Int} (c : CPow i j) : Mk K (tOp (rI CPow fun i j => V.int (i ^ j.toNat)) (tC (.int i)) (tC (.int j))) (.int (i ^ j.toNat)) := fun σ H Q h => ⟨i, j, rfl, rfl, c, h H _ (L2.Same.refl _) (.int _)⟩
theorem Mk.dnew {K : PySem.W.Frag} : Mk K tDNewK (.dict []) := fun σ H Q h p np => h _ _ ((L2.Same.refl _).new np) (.dct (nw_at (L2.Same.refl _) np upd_same) .nil)
theorem MkA.nil {K : PySem.W.Frag} : MkA K tNil [] := fun σ H Q h => h H [] (L2.Same.refl _) .nil
theorem MkA.cons {K : PySem.W.Frag} {t : TE} {r : TA} {D : PyData} {Ds : List PyData} (h1 : Mk K t D) (h2 : MkA K r Ds) : MkA K (tCons t r) (D :: Ds) := fun σ H Q h =>
  h1 σ H _ fun H1 v s1 d1 => h2 σ H1 _ fun H2 vs s2 d2 => h H2 _ (s1.trans s2) (.cons (d1.sm (nw_right s2)) (d2.sm (nw_left s1)))
theorem Mk.tup {K : PySem.W.Frag} {r : TA} {Ds : List PyData} (h1 : MkA K r Ds) (l : Ds.length ≤ 100000) : Mk K (tTup r) (.tuple Ds) := fun σ H Q h =>
  h1 σ H _ fun H1 vs s1 d1 => ⟨by rw [d1.len]; exact Nat.le_trans l (by decide), fun p np => by
    have s2 : Same H1 (upd H1 p (.tup vs)) := (L2.Same.refl _).new np
    exact h _ _ (s1.trans s2) (.tup (SqT.of (nw_at s1 np upd_same)) (d1.sm (nw_right s2)))⟩
theorem Mk.lst {K : PySem.W.Frag} {r : TA} {Ds : List PyData} (h1 : MkA K r Ds) (l : Ds.length ≤ 100000) : Mk K (tLst r) (.list Ds) := fun σ H Q h =>
  h1 σ H _ fun H1 vs s1 d1 => ⟨by rw [d1.len]; exact Nat.le_trans l (by decide), fun p np => by
    have s2 : Same H1 (upd H1 p (.lst vs)) := (L2.Same.refl _).new np
    exact h _ _ (s1.trans s2) (.lst (SqL.of (nw_at s1 np upd_same)) (d1.sm (nw_right s2)))⟩
/-- a dict of texts with data -/
theorem Mk.disp1 {K : PySem.W.Frag} {x : Str} {i : Int} : Mk K (tDisp [(tC (.str x), tC (.int i))]) (.dict [(.str x, .int i)]) := fun σ H Q h p np => by
  have s1 : Same H (upd H p (.dK [])) := (L2.Same.refl _).new np
  refine ⟨upd_same, [(.inr x, .int i)], rfl, Nat.le_of_ble_eq_true rfl, ?_⟩
  have s2 : ∀ o, Same H (upd (upd H p (.dK [])) p o) := fun o => s1.wrn np
  exact h _ _ (s2 _) (.dct (nw_at (L2.Same.refl _) np upd_same) (.cons (.int i) .nil))
end Wn

namespace L2
open PySem PySem.Spec PyProof.Rows
/-! ### truths among numbers; tuples: == (), >= -/
def numI (x : V) (i : Int) : Prop := x = .int i ∨ ∃ b : Bool, x = .bl b ∧ i = if b = true then 1 else 0
section
variable {X : Cx}
theorem op_addN : OpR X (binaryOp .Add) (fun x y H Q => ∃ i j, numI x i ∧ y = .int j ∧ Q (.int (i + j)) H) := by
  intro pins s σ H x y v u Q I rx ry h
  obtain ⟨i, j, hx, rfl, q⟩ := h
  obtain ⟨t', rfl⟩ : ∃ t, u = .int j t := ry
  rcases hx with rfl | ⟨b, rfl, rfl⟩
  · obtain ⟨t, rfl⟩ : ∃ t, v = .int i t := rx
    exact add_int ⟨.int (i + j), H, I.tok _, ⟨_, rfl⟩, q⟩
  · obtain rfl : v = .bool b := rx
    exact PySem.IntBool.add_bool_int ⟨.int _, H, I.tok _, ⟨_, rfl⟩, q⟩
theorem op_subN : OpR X (binaryOp .Sub) (fun x y H Q => ∃ i j, numI x i ∧ y = .int j ∧ Q (.int (i - j)) H) := by
  intro pins s σ H x y v u Q I rx ry h
  obtain ⟨i, j, hx, rfl, q⟩ := h
  obtain ⟨t', rfl⟩ : ∃ t, u = .int j t := ry
  rcases hx with rfl | ⟨b, rfl, rfl⟩
  · obtain ⟨t, rfl⟩ : ∃ t, v = .int i t := rx
    exact sub_int ⟨.int (i - j), H, I.tok _, ⟨_, rfl⟩, q⟩
  · obtain rfl : v = .bool b := rx
    exact PySem.IntBool.sub_bool_int ⟨.int _, H, I.tok _, ⟨_, rfl⟩, q⟩
theorem un_negN : UnR X (unaryOp .USub) (fun x H Q => ∃ i, numI x i ∧ Q (.int (-i)) H) := by
  intro pins s σ H x v Q I rx h
  obtain ⟨i, hx, q⟩ := h
  rcases hx with rfl | ⟨b, rfl, rfl⟩
  · obtain ⟨t, rfl⟩ : ∃ t, v = .int i t := rx
    exact neg_int ⟨.int (-i), H, I.tok _, ⟨_, rfl⟩, q⟩
  · obtain rfl : v = .bool b := rx
    have g : Gives (Builtin.«int.__neg__» ⟨[.bool b], []⟩) (.int (-(if b = true then (1 : Int) else 0))) := by cases b <;> exact .of_eq rfl
    exact unaryOp_gives (op := .USub) (typeIs_bool' s b) rfl F.slot_bool_neg F.entry_int_neg (F.args_int_neg_1 _) g ⟨.int _, H, I.tok _, ⟨_, rfl⟩, q⟩
theorem op_eqN (hu : X.A.units + 64 < cLine) : OpR X (compareOp .Eq) (fun x y H Q => ∃ i j, numI x i ∧ y = .int j ∧ Q (.bl (decide (i = j))) H) := by
  intro pins s σ H x y v u Q I rx ry h
  obtain ⟨i, j, hx, rfl, q⟩ := h
  obtain ⟨t', rfl⟩ : ∃ t, u = .int j t := ry
  rcases hx with rfl | ⟨b, rfl, rfl⟩
  · obtain ⟨t, rfl⟩ : ∃ t, v = .int i t := rx
    refine SeqAt.compareEq_shaped (Reads.int i t) (Reads.int j t') rfl rfl hu ⟨.bl (decide (i = j)), H, I, ?_, q⟩
    show Value.bool (i == j) = Value.bool (decide (i = j))
    by_cases e : i = j <;> simp [e]
  · obtain rfl : v = .bool b := rx
    refine SeqAt.compareEq_shaped (Reads.bool b) (Reads.int j t') rfl rfl hu ⟨.bl (decide ((if b = true then (1 : Int) else 0) = j)), H, I, ?_, q⟩
    show Value.bool (PyData.eqv (.bool b) (.int j)) = Value.bool (decide _)
    cases b <;> simp [PyData.eqv, eq_comm] <;> (rw [Bool.eq_iff_iff, beq_iff_eq, decide_eq_true_iff]; exact eq_comm)
theorem op_eqT0 (hu : X.A.units + 64 < cLine) : OpR X (compareOp .Eq) (fun x y H Q => ∃ a b xs, x = .ref a ∧ y = .ref b ∧ SqT X.K H a xs ∧ SqT X.K H b [] ∧ Q (.bl (decide (xs = []))) H) := by
  intro pins s σ H x y v u Q I rx ry h
  obtain ⟨a, b, xs, rfl, rfl, ha, hb, q⟩ := h
  obtain rfl : v = .ref a := rx
  obtain rfl : u = .ref b := ry
  obtain ⟨i1, r1, p1, _⟩ := I.tuple ha
  obtain ⟨i2, r2, p2, _⟩ := I.tuple hb
  cases r2
  refine SeqAt.eq_tupleAt (e := fun _ => true) p1 p2 (by omega) (fun j h1 h2 => absurd h2 (by simp)) ⟨.bl (decide (xs = [])), H, I, ?_, q⟩
  show Value.bool _ = Value.bool _
  congr 1
  have l1 := r1.length
  cases i1 with
  | nil =>
    have : xs = [] := List.length_eq_zero_iff.mp l1
    simp [this]
  | cons z zs =>
    have : xs ≠ [] := fun e => by rw [e] at l1; cases l1
    simp [this]
/-- t >= u of two pairs of numbers -/
def pGe (p q : Int × Int) : Bool := if p.1 = q.1 then decide (q.2 ≤ p.2) else decide (q.1 ≤ p.1)
theorem op_geP (hu : X.A.units < cLine) : OpR X (compareOp .GtE) (fun x y H Q => ∃ (a b : Addr) (p q : Int × Int), x = .ref a ∧ y = .ref b ∧ SqT X.K H a [.int p.1, .int p.2] ∧ SqT X.K H b [.int q.1, .int q.2] ∧ Q (.bl (pGe p q)) H) := by
  intro pins s σ H x y v u Q I rx ry h
  obtain ⟨a, b, p, q, rfl, rfl, ha, hb, k⟩ := h
  cases rx
  cases ry
  obtain ⟨its, r1, p1, _⟩ := I.tuple ha
  obtain ⟨its2, r2, p2, _⟩ := I.tuple hb
  obtain ⟨x1, x2, rfl, hx1, hx2⟩ := vals2 r1
  obtain ⟨y1, y2, rfl, hy1, hy2⟩ := vals2 r2
  obtain ⟨t1, rfl⟩ : ∃ t, x1 = .int p.1 t := hx1
  obtain ⟨t2, rfl⟩ : ∃ t, x2 = .int p.2 t := hx2
  obtain ⟨t3, rfl⟩ : ∃ t, y1 = .int q.1 t := hy1
  obtain ⟨t4, rfl⟩ : ∃ t, y2 = .int q.2 t := hy2
  let ns := [p.1, p.2]
  let ms := [q.1, q.2]
  have R := Ob.RcOp.tuples_ge (A := X.A) (s := s) (e := fun j => ns.getD j 0 == ms.getD j 0) (r := fun j => decide (ms.getD j 0 ≤ ns.getD j 0)) p1 p2 hu (fun j h1 h2 => by
    match j, h1 with
    | 0, _ => exact SeqAt.EqAt.int_int _ _ _ _
    | 1, _ => exact SeqAt.EqAt.int_int _ _ _ _) (fun j h1 h2 _ => by
    match j, h1 with
    | 0, _ => exact Ob.RcOp.ge_int _ _ _ _
    | 1, _ => exact Ob.RcOp.ge_int _ _ _ _)
  have e : Ob.lexAt (fun j => ns.getD j 0 == ms.getD j 0) (fun j => decide (ms.getD j 0 ≤ ns.getD j 0)) (decide (2 ≥ 2)) 0 2 = pGe p q := by
    show (if (p.1 == q.1) = true then (if (p.2 == q.2) = true then _ else decide (q.2 ≤ p.2)) else decide (q.1 ≤ p.1)) = _
    unfold pGe
    by_cases e1 : p.1 = q.1
    · rw [if_pos (beq_iff_eq.mpr e1), if_pos e1]
      by_cases e2 : p.2 = q.2
      · rw [if_pos (beq_iff_eq.mpr e2), e2]
        simp [Ob.lexAt]
      · rw [if_neg (fun z => e2 (beq_iff_eq.mp z))]
    · rw [if_neg (fun z => e1 (beq_iff_eq.mp z)), if_neg e1]
  have z : wpAny (model X.prog X.w) X.A (compareOp .GtE (.ref a) (.ref b)) (EP X pins σ Q) X.xe s := R X.prog X.w X.xe (EP X pins σ Q) ⟨.bl (pGe p q), H, I, by
    show Value.bool (Ob.lexAt _ _ _ 0 _) = Value.bool _
    exact congrArg _ e, k⟩
  exact z
theorem op_eqT0K {K : PySem.W.Frag} (hK : X.K = K) (hu : X.A.units + 64 < cLine) : OpR X (compareOp .Eq) (fun x y H Q => ∃ a b xs, x = .ref a ∧ y = .ref b ∧ SqT K H a xs ∧ SqT K H b [] ∧ Q (.bl (decide (xs = []))) H) := hK ▸ op_eqT0 hu
theorem op_gePK {K : PySem.W.Frag} (hK : X.K = K) (hu : X.A.units < cLine) : OpR X (compareOp .GtE) (fun x y H Q => ∃ (a b : Addr) (p q : Int × Int), x = .ref a ∧ y = .ref b ∧ SqT K H a [.int p.1, .int p.2] ∧ SqT K H b [.int q.1, .int q.2] ∧ Q (.bl (pGe p q)) H) := hK ▸ op_geP hu
end
end L2

set_option maxHeartbeats 800000
namespace Wn
open PySem L2
set_option pp.maxSteps 700
set_option pp.deepTerms false
local macro_rules | `(tactic| walk_at "h") => `(tactic| first | with_reducible assumption | (with_reducible exact upd_same) | (with_reducible apply g_upd; (walk_at "neq"); (walk_at "h")) | (with_reducible apply g_same; (with_reducible assumption); (walk_at "h")) | (with_reducible apply g_kp; (with_reducible assumption); (walk_at "nin"); (walk_at "h")) | (with_reducible apply g_tk; (with_reducible assumption); (walk_at "h")))
local macro_rules | `(tactic| walk_at "neq") => `(tactic| first | with_reducible assumption | (with_reducible apply Ne.symm; with_reducible assumption) | (with_reducible apply ne_upd; (with_reducible assumption)) | (with_reducible apply Ne.symm; with_reducible apply ne_upd; with_reducible assumption) | (with_reducible apply ne_fr; (with_reducible assumption); (walk_at "h")) | (with_reducible apply ne_fr'; (with_reducible assumption); (walk_at "h")) | (with_reducible apply ne_kd; (walk_at "h"); (walk_at "h"); (with_unfolding_all (intro z; cases z))))
local macro_rules | `(tactic| walk_at "nin") => `(tactic| first | (with_reducible exact nin0) | with_reducible assumption | (with_reducible apply ninc; (walk_at "neq"); (walk_at "nin")))
local macro_rules | `(tactic| walk_at "none") => `(tactic| first | with_reducible assumption | (with_reducible apply n_upd; (with_reducible assumption)) | (with_reducible apply n_same; (with_reducible assumption); (walk_at "none")) | (with_reducible apply n_kp; (with_reducible assumption); (walk_at "nin"); (walk_at "none")))
local macro_rules | `(tactic| walk_at "mem") => `(tactic| first | (with_reducible exact List.mem_cons_self) | (with_reducible apply List.mem_cons_of_mem; (walk_at "mem")))
local macro_rules | `(tactic| walk_at "am") => `(tactic| first | (with_reducible exact am0) | (with_reducible apply am1; (first | (apply Or.inl; walk_at "mem") | (apply Or.inr; walk_at "none")); (walk_at "am")))
local macro_rules | `(tactic| walk_at "tk") => `(tactic| first | (with_reducible exact TK.refl _) | with_reducible assumption | (with_reducible apply t_tk; (with_reducible assumption); (walk_at "tk")) | (with_reducible apply t_same; (with_reducible assumption); (walk_at "tk")) | (with_reducible apply t_new; (with_reducible assumption); (walk_at "tk")) | (with_reducible apply t_wr; (walk_at "h"); (with_unfolding_all rfl); (walk_at "tk")))
local macro_rules | `(tactic| walk_at "same") => `(tactic| first | (with_reducible exact L2.Same.refl _) | with_reducible assumption | (with_reducible apply s_same; (with_reducible assumption); (walk_at "same")) | (with_reducible apply s_new; (with_reducible assumption); (walk_at "same")) | (with_reducible apply s_wrn; (walk_at "none"); (walk_at "same")))
local macro_rules | `(tactic| walk_at "kp") => `(tactic| first | (with_reducible exact Kp.refl _ _) | with_reducible assumption | (with_reducible apply k_same; (with_reducible assumption); (walk_at "kp")) | (with_reducible apply k_kp; (with_reducible assumption); (walk_at "kp")) | (with_reducible apply k_kpm; (with_reducible assumption); (walk_at "am"); (walk_at "kp")) | (with_reducible apply k_new; (with_reducible assumption); (walk_at "kp")) | (with_reducible apply k_wr; (walk_at "mem"); (walk_at "kp")) | (with_reducible apply k_wrn; (walk_at "none"); (walk_at "kp")))
local macro_rules | `(tactic| walk_at "rp") => `(tactic| first | with_reducible assumption | (with_reducible exact Rp.int) | (with_reducible exact Rp.str) | (with_reducible exact Rp.none) | (with_reducible exact Rp.bool) | (with_reducible apply Rp.tk'; (with_reducible assumption); (walk_at "tk")) | (with_reducible apply Rp.tup; (walk_at "h"); (walk_at "rpl")))
local macro_rules | `(tactic| walk_at "rpl") => `(tactic| first | with_reducible assumption | (with_reducible exact RpL.nil) | (with_reducible apply RpL.tk'; (with_reducible assumption); (walk_at "tk")) | (with_reducible apply RpL.cons; (walk_at "rp"); (walk_at "rpl")))
local macro_rules | `(tactic| walk_at "g") => `(tactic| repeat (first | refine ⟨_, rfl, ?_⟩ | refine ⟨_, _, rfl, rfl, ?_⟩ | refine ⟨rfl, _, rfl, ?_⟩ | refine ⟨_, _, rfl, rfl, (by first | decide | omega), ?_⟩))
abbrev sDeck : Stmt := top 11
abbrev sDraw : Stmt := top 12
/-- a deck at d: its cells at cs; n draws were taken at most -/
def Deck3 (H : Hp) (d cs : Addr) (n : Int) : Prop :=
  ∃ (a : Int) (xs : List Int), H d = some (.lst [.ref cs, .int a]) ∧ H cs = some (.lst (xs.map V.int)) ∧ 0 ≤ a ∧ a ≤ n ∧ xs.length ≤ 63 ∧ cs ≠ d
def spDraw : Sp := fun vs H Q _ => ∃ (d cs : Addr) (m n : Int), vs = [.ref d, .int m] ∧ 0 < m ∧ m < 1000000000 ∧ n < 2 ^ 48 ∧ Deck3 H d cs n ∧
  ∀ (r : Int) (H' : Hp), 0 ≤ r → r < m → Kp [d, cs] H H' → Deck3 H' d cs (n + 1) → Q (.int r) H'
def spDeck3 (K : PySem.W.Frag) : Sp := fun vs H Q _ => ∃ (a : Addr) (ns : List Int), vs = [.ref a] ∧ SqL K H a (ns.map V.int) ∧ ns.length ≤ 63 ∧
  ∀ (H' : Hp) (d cs : Addr), H d = none → H cs = none → Same H H' → Deck3 H' d cs 0 → Q (.ref d) H'
section
variable {H H' : Hp} {d cs : Addr} {n : Int}
theorem Deck3.kp {M : List Addr} (h : Deck3 H d cs n) (k : Kp M H H') (n1 : d ∉ M) (n2 : cs ∉ M) : Deck3 H' d cs n := by
  obtain ⟨a, xs, h1, h2, r⟩ := h
  exact ⟨a, xs, k _ _ n1 h1, k _ _ n2 h2, r⟩
theorem Deck3.mono {m : Int} (h : Deck3 H d cs n) (hm : n ≤ m) : Deck3 H d cs m := by
  obtain ⟨a, xs, h1, h2, h3, h4, r⟩ := h
  exact ⟨a, xs, h1, h2, h3, by omega, r⟩
theorem Deck3.same (h : Deck3 H d cs n) (s : Same H H') : Deck3 H' d cs n := h.kp (M := []) (Kp.of s) nin0 nin0
theorem Deck3.l1 (h : Deck3 H d cs n) : ∃ zs, H d = some (.lst zs) := by
  obtain ⟨a, xs, h1, h2, r⟩ := h
  exact ⟨_, h1⟩
theorem Deck3.l2 (h : Deck3 H d cs n) : ∃ zs, H cs = some (.lst zs) := by
  obtain ⟨a, xs, h1, h2, r⟩ := h
  exact ⟨_, h2⟩
/-- a new thing is none of the deck's -/
theorem Deck3.new {p : Addr} (h : Deck3 H d cs n) (hp : H p = none) : p ≠ d ∧ p ≠ cs :=
  ⟨(ne_of_none h.l1.choose_spec hp).symm, (ne_of_none h.l2.choose_spec hp).symm⟩
end
theorem atInt {xs : List Int} {r : Int} (h0 : 0 ≤ r) (h1 : r < xs.length) : ∃ x, xs[r.toNat]? = some x ∧ atI (xs.map V.int) r = some (.int x) := by
  have hl : r.toNat < xs.length := by omega
  refine ⟨xs[r.toNat], List.getElem?_eq_getElem hl, ?_⟩
  have e : ((r.toNat : Nat) : Int) = r := by omega
  have := atI_nat (xs := xs.map V.int) (j := r.toNat) (v := .int xs[r.toNat]) (by rw [List.getElem?_map, List.getElem?_eq_getElem hl]; rfl)
  rw [e] at this
  exact this
theorem ixN_at {n : Nat} {r : Int} (h0 : 0 ≤ r) (h1 : r < n) : ixN n r = some r.toNat := by
  unfold ixN
  rw [if_pos h0, if_pos h1]
theorem rpl_ints {K : PySem.W.Frag} {H : Hp} (xs : List Int) : RpL K H (xs.map PyData.int) (xs.map V.int) := by
  induction xs with
  | nil => exact RpL.nil
  | cons n ns ih => exact RpL.cons Rp.int ih

section
variable {P : Program} {w : World} {K : PySem.W.Frag} {mg : Str → Option Value} {base : Heap}
theorem scDraw : FnScope ["_law_deck_here", "_law_many", "_law_cell", "_law_place"] ["_law_deck_here", "_law_many"] (defScope sDraw) := ⟨rfl, rfl, rfl, by decide +kernel, rfl, by decide +kernel, by decide +kernel⟩
theorem ok_draw {f : Addr} {fd : FuncData} (F : Fun K "_law_draw" "_law_draw" sDraw f fd) (mLen : mg "len" = none) : FnOk P w K mg base CX0 1 f fd ["_law_deck_here", "_law_many"] spDraw := by
  refine F.ok scDraw (fun vs H Q E h => ?_) (fun cdv A outer s H vs Q E hr h => ?_)
  · obtain ⟨d, cs, m, n, rfl, _⟩ := h
    rfl
  · obtain ⟨d, cs, m, n, rfl, m0, m1, hn, ⟨a, xs, h1, h2, a0, a1, lx, ncd⟩, k⟩ := h
    refine ⟨_, (pss_cons (ps_asg (pe_op op_add (pe_ix (ixL (K := K) rfl) (pv 0) pe_int (fun _ _ => rfl)) pe_int) (pg_sub (pv 0) pe_int set_list))
       (pss_cons (ps_set (i := 2) scDraw.nd rfl (Or.inl rfl) pe_int)
       (pss_cons (ps_if (pt_cmpR op_gt (pe_callB (lenK (K := K) rfl) (by rfl) mLen PySem.boot_len (pa_cons (pe_ix (ixL (K := K) rfl) (pv 0) pe_int (fun _ _ => rfl)) pa_nil)) pe_int (nomark _))
       (pss_cons (ps_set (i := 3) scDraw.nd rfl (Or.inl rfl) (pe_op op_mod (pe_ix (ixL (K := K) rfl) (pv 0) pe_int (fun _ _ => rfl)) (pe_callB (lenK (K := K) rfl) (by rfl) mLen PySem.boot_len (pa_cons (pe_ix (ixL (K := K) rfl) (pv 0) pe_int (fun _ _ => rfl)) pa_nil))))
       (pss_cons (ps_set (i := 2) scDraw.nd rfl (Or.inl rfl) (pe_ix (ixL (K := K) rfl) (pe_ix (ixL (K := K) rfl) (pv 0) pe_int (fun _ _ => rfl)) (pv 3) (fun _ _ => rfl)))
       (pss_one (ps_if (pt_cmpR op_ge (pv 2) (pe_op op_pow pe_int pe_int) (nomark _))
       (pss_cons (ps_asg (pe_op op_fdiv (pv 2) (pv 1)) (pg_sub (pe_ix (ixL (K := K) rfl) (pv 0) pe_int (fun _ _ => rfl)) (pv 3) set_list))
       (pss_one (ps_ret (pe_op op_mod (pv 2) (pv 1)))))
       pss_nil))))
       pss_nil)
       (pss_one (ps_ret (pe_op op_mod (pe_op op_mod (pe_op op_pow (pe_op op_add (pe_op op_add (pe_op op_mod (pv 2) pe_int) (pe_op op_mul pe_int (pe_ix (ixL (K := K) rfl) (pv 0) pe_int (fun _ _ => rfl)))) pe_int) pe_int) pe_int) (pv 1))))))), ?_⟩
    refine ⟨_, rfl, d, _, _, _, rfl, rfl, SqL.of h1, rfl, _, _, rfl, rfl, _, rfl, d, _, _, 1, rfl, rfl, h1, rfl, ?_⟩
    rw [show [V.ref cs, .int a].set 1 (.int (a + 1)) = [V.ref cs, .int (a + 1)] from rfl]
    obtain ⟨H1, e_H1, k1, t1, g1⟩ := wr_any h1 rfl
    rw [← e_H1]
    clear e_H1
    have g2 : H1 cs = some (.lst (xs.map V.int)) := k1 _ _ (nin1 ncd) h2
    have gk : Kp [d, cs] H H1 := k1.mono fun x hx => List.mem_cons.mpr (.inl (List.mem_singleton.mp hx))
    dsimp only [tNext]
    refine seq_set ?_
    dsimp only [tC, gName, List.set, tNext]
    refine seq_if (fun σ' H' => H' = H1 ∧ ∃ c v3, σ' = [some (.ref d), some (.int m), some (.int c), v3]) ?rest (fun rest => ?_)
    case rest =>
      rintro σ' _ ⟨rfl, c, v3, rfl⟩
      have z0 := Int.emod_nonneg c (show (2147483587 : Int) ≠ 0 by decide)
      have z1 := Int.emod_lt_of_pos c (show (0 : Int) < 2147483587 by decide)
      refine ⟨_, rfl, _, _, rfl, rfl, (by show (0 : Int) < 2147483587; decide), _, rfl, d, _, _, _, rfl, rfl, SqL.of g1, rfl, _, _, rfl, rfl, .inl ⟨by decide, by decide⟩, _, _, rfl, rfl, _, _, rfl, rfl, _, _, rfl, rfl, ⟨by decide, by decide, by omega⟩, _, _, rfl, rfl, (by show (0 : Int) < 2147483647; decide), _, rfl, _, _, rfl, rfl, m0, ?_⟩
      exact k _ _ (Int.emod_nonneg _ (by omega)) (Int.emod_lt_of_pos _ m0) gk ⟨a + 1, xs, g1, g2, by omega, by omega, lx, ncd⟩
    refine ⟨_, rfl, d, _, _, _, rfl, rfl, SqL.of g1, rfl, _, xs.length, rfl, .inl ⟨_, SqL.of g2, (List.length_map _).symm⟩, _, _, rfl, rfl, _, rfl, iteP (fun c => ?_) (fun c => ?_)⟩
    · have lx0 : (0 : Int) < (xs.length : Int) := c
      refine ⟨_, rfl, d, _, _, _, rfl, rfl, SqL.of g1, rfl, _, rfl, d, _, _, _, rfl, rfl, SqL.of g1, rfl, _, xs.length, rfl, .inl ⟨_, SqL.of g2, (List.length_map _).symm⟩, _, _, rfl, rfl, lx0, ?_⟩
      obtain ⟨sp, esp, sp0, sp1⟩ : ∃ sp : Int, (a + 1) % (xs.length : Int) = sp ∧ 0 ≤ sp ∧ sp < xs.length := ⟨_, rfl, Int.emod_nonneg _ (by omega), Int.emod_lt_of_pos _ lx0⟩
      rw [show (fun i j => V.int (i % j)) (a + 1) (xs.length : Int) = V.int sp from congrArg V.int esp]
      obtain ⟨x, ex, ax⟩ := atInt (xs := xs) sp0 sp1
      refine ⟨_, rfl, d, _, _, _, rfl, rfl, SqL.of g1, rfl, _, rfl, cs, _, _, _, rfl, rfl, SqL.of g2, ax, ?_⟩
      refine ⟨_, rfl, _, _, rfl, rfl, ⟨by decide, by decide, by decide⟩, ?_⟩
      refine ⟨_, _, rfl, rfl, _, rfl, iteP (fun c2 => ?_) (fun c2 => ?_)⟩
      · refine ⟨_, rfl, _, rfl, _, _, rfl, rfl, ⟨m0, by omega⟩, _, rfl, d, _, _, _, rfl, rfl, SqL.of g1, rfl, _, rfl, cs, _, _, sp.toNat, rfl, rfl, g2, ixN_at sp0 (by rw [List.length_map]; exact sp1), ?_⟩
        rw [← List.map_set (f := V.int)]
        obtain ⟨H2, e_H2, k2, t2, g3⟩ := wr_any g2 rfl
        rw [← e_H2]
        clear e_H2
        have g4 : H2 d = some (.lst [.ref cs, .int (a + 1)]) := k2 _ _ (nin1 ncd.symm) g1
        refine ⟨_, rfl, _, rfl, _, _, rfl, rfl, m0, ?_⟩
        exact k _ _ (Int.emod_nonneg _ (by omega)) (Int.emod_lt_of_pos _ m0) (by walk_at "kp") ⟨a + 1, _, g4, g3, by omega, by omega, by rw [List.length_set]; exact lx, ncd⟩
      · exact rest _ _ ⟨rfl, x, _, rfl⟩
    · exact rest _ _ ⟨rfl, 0, _, rfl⟩
theorem scDeck : FnScope ["_law_script", "_law_cell"] ["_law_script"] (defScope sDeck) := ⟨rfl, rfl, rfl, by decide +kernel, rfl, by decide +kernel, by decide +kernel⟩
theorem ok_deck3 {f : Addr} {fd : FuncData} (F : Fun K "_law_deck" "_law_deck" sDeck f fd) (mAbs : mg "abs" = none) : FnOk P w K mg base CX0 1 f fd ["_law_script"] (spDeck3 K) := by
  refine F.ok scDeck (fun vs H Q E h => ?_) (fun cdv A outer s H vs Q E hr h => ?_)
  · obtain ⟨a, ns, rfl, _⟩ := h
    rfl
  · obtain ⟨a, ns, rfl, hS, hl, k⟩ := h
    refine ⟨_, (pss_one (ps_ret (pe_lst (pa_cons (pe_lc (own := [("_law_cell", 1)]) (g := (gName 1)) (tt := tYes) rfl scDeck.nd (pi_list (pe_slice (slL (K := K) rfl) (pv 0) po_none (po_some pe_int))) (blkOk_by (N := ["_law_script", "_law_cell"]) (sc := defScope sDeck) (by decide +kernel))
       (fun _ _ _ _ _ => (pg_name (i := 1) scDeck.nd rfl (Or.inl rfl))) (fun _ _ _ _ _ => pts_nil) (fun _ _ _ _ _ => (pe_callB call_abs (by rfl) mAbs (by decide +kernel) (pa_cons (pv 1) pa_nil)))) (pa_cons pe_int pa_nil))))), ?_⟩
    refine ⟨_, rfl, _, rfl, a, _, rfl, hS, fun l1 n_l1 => ?_⟩
    have ems : cutV (ns.map V.int) none (some 63) = ns.map V.int := by
      unfold cutV
      have e : HT.sIx (ns.map V.int).length (ns.map V.int).length (some 63) = min 63 (ns.map V.int).length := HT.sIx_nat _ _ 63
      rw [e, HT.sIx_none, List.drop_zero, Nat.sub_zero, List.length_map, Nat.min_eq_right hl]
      exact List.take_of_length_le (by rw [List.length_map]; exact Nat.le_refl _)
    rw [ems]
    obtain ⟨H1, e_H1, s1, e1⟩ := new_any n_l1
    rw [← e_H1]
    clear e_H1
    refine ⟨l1, rfl, ⟨_, SqL.of e1⟩, fun cs n_cs => ?_⟩
    refine mapI_lc (K := K) (i := 1) (enc := PyData.int) (fun x => if x < 0 then -x else x) e1 (rpl_ints ns) n_cs (by omega) ?_ ?_
    · intro b x H' Q' hb rx s' hQ
      have ex := Rp.int_eq rx
      subst ex
      exact ⟨_, rfl, _, rfl, hQ⟩
    · intro H2 s2 e2
      refine ⟨(by show 2 ≤ sizeLine; decide), fun d n_d => ?_⟩
      obtain ⟨H3, e_H3, s3, e3⟩ := new_any n_d
      rw [← e_H3]
      clear e_H3
      exact k _ d cs (by walk_at "none") (by walk_at "none") (by walk_at "same") ⟨0, _, e3, s3 _ _ e2, by omega, by omega, by rw [List.length_map]; exact hl, by walk_at "neq"⟩
end
end Wn

set_option maxHeartbeats 1600000
namespace Wn
open PySem L2
set_option pp.maxSteps 700
set_option pp.deepTerms false
local macro_rules | `(tactic| walk_at "h") => `(tactic| first | with_reducible assumption | (with_reducible exact upd_same) | (with_reducible apply g_upd; (walk_at "neq"); (walk_at "h")) | (with_reducible apply g_same; (with_reducible assumption); (walk_at "h")) | (with_reducible apply g_kp; (with_reducible assumption); (walk_at "nin"); (walk_at "h")) | (with_reducible apply g_tk; (with_reducible assumption); (walk_at "h")))
local macro_rules | `(tactic| walk_at "neq") => `(tactic| first | with_reducible assumption | (with_reducible apply Ne.symm; with_reducible assumption) | (with_reducible apply ne_upd; (with_reducible assumption)) | (with_reducible apply Ne.symm; with_reducible apply ne_upd; with_reducible assumption) | (with_reducible apply ne_fr; (with_reducible assumption); (walk_at "h")) | (with_reducible apply ne_fr'; (with_reducible assumption); (walk_at "h")) | (with_reducible apply ne_kd; (walk_at "h"); (walk_at "h"); (with_unfolding_all (intro z; cases z))))
local macro_rules | `(tactic| walk_at "nin") => `(tactic| first | (with_reducible exact nin0) | with_reducible assumption | (with_reducible apply ninc; (walk_at "neq"); (walk_at "nin")))
local macro_rules | `(tactic| walk_at "none") => `(tactic| first | with_reducible assumption | (with_reducible apply n_upd; (with_reducible assumption)) | (with_reducible apply n_same; (with_reducible assumption); (walk_at "none")) | (with_reducible apply n_kp; (with_reducible assumption); (walk_at "nin"); (walk_at "none")))
local macro_rules | `(tactic| walk_at "mem") => `(tactic| first | (with_reducible exact List.mem_cons_self) | (with_reducible apply List.mem_cons_of_mem; (walk_at "mem")))
local macro_rules | `(tactic| walk_at "am") => `(tactic| first | (with_reducible exact am0) | (with_reducible apply am1; (first | (apply Or.inl; walk_at "mem") | (apply Or.inr; walk_at "none")); (walk_at "am")))
local macro_rules | `(tactic| walk_at "tk") => `(tactic| first | (with_reducible exact TK.refl _) | with_reducible assumption | (with_reducible apply t_tk; (with_reducible assumption); (walk_at "tk")) | (with_reducible apply t_same; (with_reducible assumption); (walk_at "tk")) | (with_reducible apply t_new; (with_reducible assumption); (walk_at "tk")) | (with_reducible apply t_wr; (walk_at "h"); (with_unfolding_all rfl); (walk_at "tk")))
local macro_rules | `(tactic| walk_at "same") => `(tactic| first | (with_reducible exact L2.Same.refl _) | with_reducible assumption | (with_reducible apply s_same; (with_reducible assumption); (walk_at "same")) | (with_reducible apply s_new; (with_reducible assumption); (walk_at "same")) | (with_reducible apply s_wrn; (walk_at "none"); (walk_at "same")))
local macro_rules | `(tactic| walk_at "kp") => `(tactic| first | (with_reducible exact Kp.refl _ _) | with_reducible assumption | (with_reducible apply k_same; (with_reducible assumption); (walk_at "kp")) | (with_reducible apply k_kp; (with_reducible assumption); (walk_at "kp")) | (with_reducible apply k_kpm; (with_reducible assumption); (walk_at "am"); (walk_at "kp")) | (with_reducible apply k_new; (with_reducible assumption); (walk_at "kp")) | (with_reducible apply k_wr; (walk_at "mem"); (walk_at "kp")) | (with_reducible apply k_wrn; (walk_at "none"); (walk_at "kp")))
local macro_rules | `(tactic| walk_at "rp") => `(tactic| first | with_reducible assumption | (with_reducible exact Rp.int) | (with_reducible exact Rp.str) | (with_reducible exact Rp.none) | (with_reducible exact Rp.bool) | (with_reducible apply Rp.tk'; (with_reducible assumption); (walk_at "tk")) | (with_reducible apply Rp.tup; (walk_at "h"); (walk_at "rpl")))
local macro_rules | `(tactic| walk_at "rpl") => `(tactic| first | with_reducible assumption | (with_reducible exact RpL.nil) | (with_reducible apply RpL.tk'; (with_reducible assumption); (walk_at "tk")) | (with_reducible apply RpL.cons; (walk_at "rp"); (walk_at "rpl")))
local macro_rules | `(tactic| walk_at "g") => `(tactic| repeat (first | refine ⟨_, rfl, ?_⟩ | refine ⟨_, _, rfl, rfl, ?_⟩ | refine ⟨rfl, _, rfl, ?_⟩ | refine ⟨_, _, rfl, rfl, (by first | decide | omega), ?_⟩))
abbrev sOddB : Stmt := top 15
abbrev sBentB : Stmt := top 16
abbrev sNumB : Stmt := top 17
structure KBo (mg : Str → Option Value) : Prop where
  isinstance : mg "isinstance" = none
  str : mg "str" = none
  int : mg "int" = none
  bool : mg "bool" = none
  tuple : mg "tuple" = none
  list : mg "list" = none
  range : mg "range" = none
  len : mg "len" = none
theorem gq_sub {M : Nat} {ds es : List PyData} (g : gq M (.tuple ds) = true) (h : ∀ x ∈ es, x ∈ ds) : gq (M + 2) (.tuple es) = true :=
  gqs_all.mpr fun x hx => gq_mono (Nat.le_add_right _ 2) (gqs_all.mp (show gqs M ds = true from g) x (h x hx))
theorem dep_sub {ds es : List PyData} (h : ∀ x ∈ es, x ∈ ds) : (PyData.tuple es).depth ≤ (PyData.tuple ds).depth + 3 := by
  rw [depth_tup, depth_tup]
  have : PyData.depthAll es ≤ PyData.depthAll ds := depthAll_le.mpr fun x hx => depthAll_le.mp (Nat.le_refl _) x (h x hx)
  omega
theorem bulk_t {ds : List PyData} : (PyData.tuple ds).bulk = PyData.bulkAll ds := by simp only [PyData.bulk]
theorem bulk_l {ds : List PyData} : (PyData.list ds).bulk = PyData.bulkAll ds := by simp only [PyData.bulk]
theorem bulk_c {d : PyData} {ds : List PyData} : PyData.bulkAll (d :: ds) = d.bulk + 1 + PyData.bulkAll ds := by simp only [PyData.bulkAll]
theorem bulk_n : PyData.bulkAll [] = 0 := rfl
theorem sp_drop {M W i : Nat} {ds : List PyData} (g : gq M (.tuple ds) = true) (hW : wid (.tuple ds) ≤ W) : GQ (M + 2) ((PyData.tuple ds).depth + 3) (2 * (PyData.tuple ds).bulk + 20) (W + 1) (.tuple (ds.take i ++ ds.drop (i + 1))) := by
  have hs : ∀ x ∈ ds.take i ++ ds.drop (i + 1), x ∈ ds := fun x hx => (List.mem_append.mp hx).elim List.mem_of_mem_take List.mem_of_mem_drop
  have hW := wid_t.mp hW
  have wx : ∀ x ∈ _, wid x ≤ W + 1 := fun x hx => Nat.le_succ_of_le (hW.2 x (hs x hx))
  refine ⟨gq_sub g hs, dep_sub hs, ?_, wid_t.mpr ⟨?_, wx⟩⟩
  rotate_left
  · simp only [List.length_append, List.length_take, List.length_drop, List.length_reverse]
    have := hW.1
    omega
  rw [bulk_t, bulk_t, bulk_app]
  have h1 := bulk_split ds i
  have h2 := bulk_split (ds.drop i) 1
  rw [List.drop_drop] at h2
  omega
theorem sp_two {M W i : Nat} {ds : List PyData} (g : gq M (.tuple ds) = true) (hW : wid (.tuple ds) ≤ W) : GQ (M + 2) ((PyData.tuple ds).depth + 3) (2 * (PyData.tuple ds).bulk + 20) (W + 1) (.tuple (ds.take i ++ (ds.drop i).take 1 ++ ds.drop i)) := by
  have hs : ∀ x ∈ ds.take i ++ (ds.drop i).take 1 ++ ds.drop i, x ∈ ds := fun x hx => (List.mem_append.mp hx).elim (fun z => (List.mem_append.mp z).elim List.mem_of_mem_take fun z => List.mem_of_mem_drop (List.mem_of_mem_take z)) List.mem_of_mem_drop
  have hW := wid_t.mp hW
  have wx : ∀ x ∈ _, wid x ≤ W + 1 := fun x hx => Nat.le_succ_of_le (hW.2 x (hs x hx))
  refine ⟨gq_sub g hs, dep_sub hs, ?_, wid_t.mpr ⟨?_, wx⟩⟩
  rotate_left
  · simp only [List.length_append, List.length_take, List.length_drop, List.length_reverse]
    have := hW.1
    omega
  rw [bulk_t, bulk_t, bulk_app, bulk_app]
  have h1 := bulk_split ds i
  have h2 := bulk_split (ds.drop i) 1
  omega
theorem sp_rev {M W : Nat} {ds : List PyData} (g : gq M (.tuple ds) = true) (hW : wid (.tuple ds) ≤ W) : GQ (M + 2) ((PyData.tuple ds).depth + 3) (2 * (PyData.tuple ds).bulk + 20) (W + 1) (.tuple ds.reverse) := by
  have hs : ∀ x ∈ ds.reverse, x ∈ ds := fun x hx => List.mem_reverse.mp hx
  have hW := wid_t.mp hW
  have wx : ∀ x ∈ _, wid x ≤ W + 1 := fun x hx => Nat.le_succ_of_le (hW.2 x (hs x hx))
  refine ⟨gq_sub g hs, dep_sub hs, ?_, wid_t.mpr ⟨?_, wx⟩⟩
  rotate_left
  · simp only [List.length_append, List.length_take, List.length_drop, List.length_reverse]
    have := hW.1
    omega
  rw [bulk_t, bulk_t, bulk_rev]
  omega
theorem sp_put {M W i : Nat} {ds : List PyData} (g : gq M (.tuple ds) = true) (hW : wid (.tuple ds) ≤ W) (hi : i < ds.length) {e : PyData} (h : GQ (M + 2) (ds[i].depth + 3) (2 * ds[i].bulk + 20) (W + 1) e) : GQ (M + 2) ((PyData.tuple ds).depth + 3) (2 * (PyData.tuple ds).bulk + 20) (W + 1) (.tuple (ds.take i ++ [e] ++ ds.drop (i + 1))) := by
  have hm : ∀ x ∈ ds.take i ++ [e] ++ ds.drop (i + 1), x ∈ ds ∨ x = e := fun x hx => (List.mem_append.mp hx).elim (fun z => (List.mem_append.mp z).elim (fun z => .inl (List.mem_of_mem_take z)) fun z => .inr (List.mem_singleton.mp z)) fun z => .inl (List.mem_of_mem_drop z)
  have hd : ∀ x ∈ ds, x.depth ≤ PyData.depthAll ds := depthAll_le.mp (Nat.le_refl _)
  have hW := wid_t.mp hW
  refine ⟨gqs_all.mpr fun x hx => ?_, ?_, ?_, wid_t.mpr ⟨?_, fun x hx => ?_⟩⟩
  rotate_right 2
  · simp only [List.length_append, List.length_take, List.length_drop, List.length_singleton]
    have := hW.1
    omega
  · rcases hm x hx with z | rfl
    · exact Nat.le_succ_of_le (hW.2 x z)
    · exact h.w
  · rcases hm x hx with z | rfl
    · exact gq_mono (Nat.le_add_right _ 2) (gqs_all.mp (show gqs M ds = true from g) x z)
    · exact h.g
  · rw [depth_tup, depth_tup]
    have : PyData.depthAll (ds.take i ++ [e] ++ ds.drop (i + 1)) ≤ PyData.depthAll ds + 3 := depthAll_le.mpr fun x hx => by
      rcases hm x hx with z | rfl
      · have := hd x z
        omega
      · have := hd _ (List.getElem_mem hi)
        have := h.n
        omega
    omega
  · rw [bulk_t, bulk_t, bulk_app, bulk_app, bulk_c, bulk_n]
    have h1 := bulk_split ds i
    rw [List.drop_eq_getElem_cons hi, bulk_c] at h1
    have := h.b
    omega
theorem bulk_at {ds : List PyData} {i : Nat} (hi : i < ds.length) : ds[i].bulk ≤ (PyData.tuple ds).bulk := by
  rw [bulk_t]
  have h1 := bulk_split ds i
  rw [List.drop_eq_getElem_cons hi, bulk_c] at h1
  omega
theorem sp_of {M N B W' W : Nat} {e : PyData} (h : GQ M N B W' e) (D : PyData) (h1 : N ≤ 3) (h2 : B ≤ 20) {M' : Nat} (h3 : M ≤ M' + 2) (h4 : W' ≤ W + 1) : GQ (M' + 2) (D.depth + 3) (2 * D.bulk + 20) (W + 1) e := h.mono h3 (by omega) (by omega) h4
theorem sp_app {M W : Nat} {ds : List PyData} {e : PyData} (g : gq M (.tuple ds) = true) (hW : wid (.tuple ds) ≤ W) (h : GQ M 2 10 4 e) (h4 : 4 ≤ W) : GQ (M + 2) ((PyData.tuple ds).depth + 3) (2 * (PyData.tuple ds).bulk + 20) (W + 1) (.tuple (ds ++ [e])) := by
  have hW := wid_t.mp hW
  have hm : ∀ x ∈ ds ++ [e], x ∈ ds ∨ x = e := fun x hx => (List.mem_append.mp hx).imp id List.mem_singleton.mp
  have hd : ∀ x ∈ ds, x.depth ≤ PyData.depthAll ds := depthAll_le.mp (Nat.le_refl _)
  refine ⟨gqs_all.mpr fun x hx => ?_, ?_, ?_, wid_t.mpr ⟨?_, fun x hx => ?_⟩⟩
  · rcases hm x hx with z | rfl
    · exact gq_mono (Nat.le_add_right _ 2) (gqs_all.mp (show gqs M ds = true from g) x z)
    · exact gq_mono (Nat.le_add_right _ 2) h.g
  · rw [depth_tup, depth_tup]
    have : PyData.depthAll (ds ++ [e]) ≤ PyData.depthAll ds + 2 := depthAll_le.mpr fun x hx => by
      rcases hm x hx with z | rfl
      · have := hd x z
        omega
      · have := h.n
        omega
    omega
  · rw [bulk_t, bulk_t, bulk_app, bulk_c, bulk_n]
    have := h.b
    omega
  · rw [List.length_append, List.length_singleton]
    have := hW.1
    omega
  · rcases hm x hx with z | rfl
    · exact Nat.le_succ_of_le (hW.2 x z)
    · have := h.w
      omega
theorem sp_dup {M W i : Nat} {ds : List PyData} (g : gq M (.tuple ds) = true) (hW : wid (.tuple ds) ≤ W) : GQ (M + 2) ((PyData.tuple ds).depth + 3) (2 * (PyData.tuple ds).bulk + 20) (W + 1) (.tuple (ds ++ ds.drop (ds.length - 1))) := by
  have hs : ∀ x ∈ ds ++ ds.drop (ds.length - 1), x ∈ ds := fun x hx => (List.mem_append.mp hx).elim id List.mem_of_mem_drop
  have hW := wid_t.mp hW
  refine ⟨gq_sub g hs, dep_sub hs, ?_, wid_t.mpr ⟨?_, fun x hx => Nat.le_succ_of_le (hW.2 x (hs x hx))⟩⟩
  · rw [bulk_t, bulk_t, bulk_app]
    have h1 := bulk_split ds (ds.length - 1)
    omega
  · rw [List.length_append, List.length_drop]
    have := hW.1
    omega
theorem sp_sub {M W : Nat} {ds es : List PyData} (g : gq M (.tuple ds) = true) (hW : wid (.tuple ds) ≤ W) (hs : ∀ x ∈ es, x ∈ ds) (hl : es.length ≤ ds.length) (hb : PyData.bulkAll es ≤ PyData.bulkAll ds) : GQ (M + 2) ((PyData.tuple ds).depth + 3) (2 * (PyData.tuple ds).bulk + 20) (W + 1) (.tuple es) := by
  have hW := wid_t.mp hW
  refine ⟨gq_sub g hs, dep_sub hs, by rw [bulk_t, bulk_t]; omega, wid_t.mpr ⟨by have := hW.1; omega, fun x hx => Nat.le_succ_of_le (hW.2 x (hs x hx))⟩⟩
theorem bulk_drop (ds : List PyData) (i : Nat) : PyData.bulkAll (ds.drop i) ≤ PyData.bulkAll ds := by
  have := bulk_split ds i
  omega
theorem bulk_take (ds : List PyData) (i : Nat) : PyData.bulkAll (ds.take i) ≤ PyData.bulkAll ds := by
  have := bulk_split ds i
  omega
theorem DkAll.rev {K : PySem.W.Frag} {H : Hp} : ∀ {xs : List V} {ds : List PyData}, DkAll K H xs ds → DkAll K H xs.reverse ds.reverse
  | _, _, .nil => .nil
  | _, _, .cons h1 h2 => by
    rw [List.reverse_cons, List.reverse_cons]
    exact (DkAll.rev h2).app (.cons h1 .nil)
theorem Dk.of_hid {K : PySem.W.Frag} {M : List Addr} {H : Hp} {v : V} {D : PyData} (h : Dk K (hid M H) v D) : Dk K H v D := h.sm hid_sub
theorem Deck3.lm {d cs : Addr} {n : Int} {H : Hp} (D : Deck3 H d cs n) : LstM [d, cs] H := fun x hx => by
  simp only [List.mem_cons, List.not_mem_nil, or_false] at hx
  rcases hx with rfl | rfl
  · exact D.l1
  · exact D.l2
theorem Deck3.nn {d cs : Addr} {n : Int} {H : Hp} (D : Deck3 H d cs n) : ∀ x ∈ [d, cs], H x ≠ none := fun x hx e => by
  obtain ⟨zs, z⟩ := D.lm x hx
  rw [e] at z
  cases z
theorem Deck3.nm {d cs x : Addr} {n : Int} {H : Hp} (D : Deck3 H d cs n) (h : H x = none) : x ∉ [d, cs] := fun z => D.nn x z h
theorem sqt_kp {K : PySem.W.Frag} {M : List Addr} {H H' : Hp} {a : Addr} {xs : List V} (l : LstM M H) (h : SqT K H a xs) (k : Kp M H H') : SqT K H' a xs := SqT.sm (SqT.sm (SqT.hid h l) (hid_kp k)) hid_sub
def odd1 : List PyData := [.none, .bool true, .bool false, .int (-1), .int 0, .int 1, .int 2, .int 16, .int (10 ^ (25 : Int).toNat), .str "", .str "a", .tuple [], .tuple [.int 0], .list [.int 0], .dict [], .dict [(.str "a", .int 1)], .tuple [.int 0, .int 1], .tuple [.int 0, .int 1, .int 1]]
def odd2 : List PyData := [.tuple [.int 0, .int 1, .int 1, .int 16], .list [.int 0, .int 1, .int 1, .int 16], .tuple [.bool true, .int 1, .int 1, .int 16], .tuple [.tuple [.int 0, .int 1, .int 1, .int 16]]]
theorem odd_ok : ∀ D ∈ odd1 ++ odd2, GQ (10 ^ 25) 2 10 4 D := by
  have h : ∀ D ∈ odd1 ++ odd2, gq (10 ^ 25) D = true ∧ D.depth ≤ 2 ∧ D.bulk ≤ 10 ∧ wid D ≤ 4 := by decide +kernel
  exact fun D hD => ⟨(h D hD).1, (h D hD).2.1, (h D hD).2.2.1, (h D hD).2.2.2⟩
theorem lst_mk {K : PySem.W.Frag} {t : TA} {Ds : List PyData} {σ : L2.St} {H : Hp} {Q : VK} (h : MkA K t Ds) (k : ∀ H' xs, Same H H' → DkAll K (nw H H') xs Ds → xs.length ≤ sizeLine ∧ ∀ p, H' p = none → Q (.ref p) (upd H' p (.lst xs))) : tLst t σ H Q := h σ H _ k
def spOddB (K : PySem.W.Frag) : Sp := fun vs H Q _ => ∃ (d cs : Addr) (n : Int), vs = [.ref d] ∧ Deck3 H d cs n ∧ n < 2 ^ 47 ∧
  ∀ (H' : Hp) (v : V) (D : PyData), Kp [d, cs] H H' → Deck3 H' d cs (n + 1) → Dk K (hid [d, cs] H') v D → GQ (10 ^ 25) 2 10 4 D → Q v H'
def spBentB (K : PySem.W.Frag) (m : Nat) : Sp := fun vs H Q _ => ∃ (d cs : Addr) (n : Int) (v : V) (D : PyData) (M W : Nat), vs = [.ref d, v, .int m] ∧ Deck3 H d cs n ∧ n < 2 ^ 46 - 10 * m ∧ Dk K (hid [d, cs] H) v D ∧ gq M D = true ∧ 10 ^ 25 ≤ M ∧ D.bulk ≤ 300000 ∧ wid D ≤ W ∧ 4 ≤ W ∧
  ∀ (H' : Hp) (v' : V) (D' : PyData), Kp [d, cs] H H' → Deck3 H' d cs (n + 10 * (m + 1)) → Dk K (hid [d, cs] H') v' D' → GQ (M + 2) (D.depth + 3) (2 * D.bulk + 20) (W + 1) D' → Q v' H'
/-- a number of given bounds -/
def numB (d : PyData) (lo hi : Int) : Bool := match d with
  | .int i => decide (lo ≤ i) && decide (i ≤ hi)
  | _ => false
def spNumB (K : PySem.W.Frag) : Sp := fun vs H Q _ => ∃ (v : V) (d : PyData) (lo hi : Int), vs = [v, .int lo, .int hi] ∧ Dk K H v d ∧ Q (.bl (numB d lo hi)) H

section
variable {P : Program} {w : World} {K : PySem.W.Frag} {mg : Str → Option Value} {base : Heap}
theorem scNumB : FnScope ["_law_thing_here", "_law_low", "_law_high"] ["_law_thing_here", "_law_low", "_law_high"] (defScope sNumB) := ⟨rfl, rfl, rfl, by decide +kernel, rfl, by decide +kernel, by decide +kernel⟩
theorem ok_numB {f : Addr} {fd : FuncData} (F : Fun K "_law_number" "_law_number" sNumB f fd) (B : KBo mg) : FnOk P w K mg base CX0 1 f fd ["_law_thing_here", "_law_low", "_law_high"] (spNumB K) := by
  refine F.ok scNumB (fun vs H Q E h => ?_) (fun cdv A outer s H vs Q E hr h => ?_)
  · obtain ⟨v, d, lo, hi, rfl, _⟩ := h
    rfl
  · obtain ⟨v, d, lo, hi, rfl, hd, k⟩ := h
    refine ⟨_, (pss_one (ps_ret (pe_and (pe_callB (isiK (K := K) rfl) (by rfl) B.isinstance (by decide +kernel) (pa_cons (pv 0) (pa_cons (pe_bltn (v := .ty "int") (by rfl) B.int PyProof.Rows.boot_int rfl) pa_nil))) (pe_and (pe_not (pe_callB (isiK (K := K) rfl) (by rfl) B.isinstance (by decide +kernel) (pa_cons (pv 0) (pa_cons (pe_bltn (v := .ty "bool") (by rfl) B.bool PyProof.Rows.boot_bool rfl) pa_nil)))) (pe_one (pe_chain op_le op_le (pv 1) (pv 0) (pv 2))))))), ?_⟩
    have no : numB d lo hi = false → Q (.bl false) H := fun e => by
      rw [e] at k
      exact k
    refine ⟨_, rfl, _, _, _, _, _, rfl, .ty _, hd.ty, kit_int d, _, rfl, iteP (fun c => ?_) (fun c => ?_)⟩
    · refine ⟨_, rfl, _, _, _, _, _, rfl, .ty _, hd.ty, kit_bool d, _, rfl, _, rfl, iteNP (fun c2 => ?_) (fun c2 => ?_)⟩
      · obtain ⟨i, rfl⟩ : ∃ i, d = .int i := by
          cases hd with
          | int i => exact ⟨i, rfl⟩
          | bl b => exact absurd rfl c2
          | _ => simp [tyN] at c
        cases hd
        have k : Q (.bl (decide (lo ≤ i) && decide (i ≤ hi))) H := k
        refine ⟨_, rfl, _, rfl, _, _, rfl, rfl, _, rfl, iteP (fun c1 => ?_) (fun c1 => ?_)⟩
        · rw [decide_eq_true c1, Bool.true_and] at k
          exact ⟨_, rfl, _, _, rfl, rfl, k⟩
        · rw [decide_eq_false c1, Bool.false_and] at k
          exact k
      · refine no ?_
        cases hd <;> first | rfl | (simp [tyN] at c2)
    · refine no ?_
      cases hd with
      | int i => exact absurd (.inl rfl) c
      | _ => rfl
theorem scOddB : FnScope ["_law_deck_here", "_law_some"] ["_law_deck_here"] (defScope sOddB) := ⟨rfl, rfl, rfl, by decide +kernel, rfl, by decide +kernel, by decide +kernel⟩
theorem ok_oddB {f : Addr} {fd : FuncData} (F : Fun K "_law_odd" "_law_odd" sOddB f fd) (B : KBo mg) (cN : Cd P w K mg base 1 "_law_draw" ["_law_deck_here", "_law_many"] spDraw) : FnOk P w K mg base CX0 2 f fd ["_law_deck_here"] (spOddB K) := by
  obtain ⟨fN, fdN, GN, mN, kN, bN⟩ := cN
  refine F.ok scOddB (fun vs H Q E h => ?_) (fun cdv A outer s H vs Q E hr h => ?_)
  · obtain ⟨d, cs, n, rfl, _⟩ := h
    rfl
  · obtain ⟨d, cs, n, rfl, D, hn, k⟩ := h
    have hr1 : Room 1 _ := hr.mono (by decide)
    refine ⟨_, (pss_cons (ps_set (i := 1) scOddB.nd rfl (Or.inl rfl) (pe_lst (pa_cons pe_non (pa_cons pe_bl (pa_cons pe_bl (pa_cons (pe_un un_neg pe_int) (pa_cons pe_int (pa_cons pe_int (pa_cons pe_int (pa_cons pe_int (pa_cons (pe_op op_pow pe_int pe_int) (pa_cons pe_str (pa_cons pe_str (pa_cons (pe_tup pa_nil) (pa_cons (pe_tup (pa_cons pe_int pa_nil)) (pa_cons (pe_lst (pa_cons pe_int pa_nil)) (pa_cons pe_dnewK (pa_cons (pe_disp (pps_cons pe_str pe_int pps_nil) rfl rfl (List.cons_ne_nil _ _) (by decide)) (pa_cons (pe_tup (pa_cons pe_int (pa_cons pe_int pa_nil))) (pa_cons (pe_tup (pa_cons pe_int (pa_cons pe_int (pa_cons pe_int pa_nil)))) pa_nil))))))))))))))))))))
       (pss_cons (ps_set (i := 1) scOddB.nd rfl (Or.inl rfl) (pe_op op_cat (pv 1) (pe_lst (pa_cons (pe_tup (pa_cons pe_int (pa_cons pe_int (pa_cons pe_int (pa_cons pe_int pa_nil))))) (pa_cons (pe_lst (pa_cons pe_int (pa_cons pe_int (pa_cons pe_int (pa_cons pe_int pa_nil))))) (pa_cons (pe_tup (pa_cons pe_bl (pa_cons pe_int (pa_cons pe_int (pa_cons pe_int pa_nil))))) (pa_cons (pe_tup (pa_cons (pe_tup (pa_cons pe_int (pa_cons pe_int (pa_cons pe_int (pa_cons pe_int pa_nil))))) pa_nil)) pa_nil)))))))
       (pss_one (ps_ret (pe_ix (ixL (K := K) rfl) (pv 1) (pe_call GN hr1 rfl mN kN bN .nil pass0 (pa_cons (pv 0) (pa_cons pe_int pa_nil))) (fun _ _ => rfl)))))), ?_⟩
    refine seq_set (lst_mk (K := K) (Ds := odd1) (by repeat first | exact Mk.non | exact Mk.bl | exact Mk.int | exact Mk.str | exact Mk.neg | exact Mk.dnew | exact Mk.disp1 | exact MkA.nil | refine MkA.cons ?_ ?_ | refine Mk.tup ?_ (by decide) | refine Mk.lst ?_ (by decide) | refine Mk.pow ⟨by decide, by decide, by decide⟩) fun H1 xs1 s1 d1 => ?_)
    have x1 : xs1.length = 18 := d1.len
    refine ⟨by rw [x1]; decide, fun l1 n_l1 => ?_⟩
    obtain ⟨H2, e_H2, s2, r2⟩ := new_any n_l1
    rw [← e_H2]
    clear e_H2
    refine ⟨_, rfl, lst_mk (K := K) (Ds := odd2) (by repeat first | exact Mk.non | exact Mk.bl | exact Mk.int | exact Mk.str | exact Mk.neg | exact Mk.dnew | exact Mk.disp1 | exact MkA.nil | refine MkA.cons ?_ ?_ | refine Mk.tup ?_ (by decide) | refine Mk.lst ?_ (by decide) | refine Mk.pow ⟨by decide, by decide, by decide⟩) fun H3 xs2 s3 d3 => ?_⟩
    have x2 : xs2.length = 4 := d3.len
    refine ⟨by rw [x2]; decide, fun l2 n_l2 => ?_⟩
    obtain ⟨H4, e_H4, s4, r4⟩ := new_any n_l2
    rw [← e_H4]
    clear e_H4
    have D2 := (D.same s1).same s2
    have D4 := (D2.same s3).same s4
    have q1 := (d1.sm (nw_hid D.nn)).sm (hid_same (s2.trans (s3.trans s4)))
    have q2 := (d3.sm (nw_hid D2.nn)).sm (hid_same s4)
    refine ⟨l1, l2, xs1, xs2, rfl, rfl, s4 _ _ (s3 _ _ r2), r4, by rw [x1, x2]; decide, fun l5 n_l5 => ?_⟩
    obtain ⟨H5, e_H5, s5, r5⟩ := new_any n_l5
    rw [← e_H5]
    clear e_H5
    have D5 := D4.same s5
    have n5 := D4.nm n_l5
    have x3 : (xs1 ++ xs2).length = 22 := by rw [List.length_append, x1, x2]
    refine ⟨_, rfl, _, rfl, d, cs, 22, n, rfl, by omega, by omega, by omega, D5, fun c H6 c0 c1 k6 D6 => ?_⟩
    have q5 := ((q1.app q2).sm (hid_same s5)).sm (hid_kp k6)
    obtain ⟨i, rfl⟩ : ∃ i : Nat, c = (i : Int) := ⟨c.toNat, by omega⟩
    have hi : i < (odd1 ++ odd2).length := by show i < 22; omega
    obtain ⟨v, ev, dv⟩ := q5.get (List.getElem?_eq_getElem hi)
    refine ⟨l5, _, i, v, rfl, rfl, SqL.of (k6 _ _ n5 r5), atI_nat ev, ?_⟩
    exact k H6 v _ (Kp.trans (Kp.of (s1.trans (s2.trans (s3.trans (s4.trans s5))))) k6) D6 dv (odd_ok _ (List.getElem_mem hi))
theorem scBentB : FnScope ["_law_deck_here", "_law_thing_here", "_law_deep", "_law_at", "_law_way", "_law_turn"] ["_law_deck_here", "_law_thing_here", "_law_deep"] (defScope sBentB) := ⟨rfl, rfl, rfl, by decide +kernel, rfl, by decide +kernel, by decide +kernel⟩
theorem st_bentB {f : Addr} {fd : FuncData} (m : Nat) (S : Sp) (hS : ∀ m', m = m' + 1 → S = spBentB K m') (F : Fun K "_law_bent" "_law_bent" sBentB f fd) (B : KBo mg) (cN : Cd P w K mg base 1 "_law_draw" ["_law_deck_here", "_law_many"] spDraw) (cO : Cd P w K mg base 2 "_law_odd" ["_law_deck_here"] (spOddB K))
    (cS : Cd P w K mg base (m + 2) "_law_bent" ["_law_deck_here", "_law_thing_here", "_law_deep"] S) : FnOk P w K mg base CX0 (m + 3) f fd ["_law_deck_here", "_law_thing_here", "_law_deep"] (spBentB K m) := by
  obtain ⟨fN, fdN, GN, mN, kN, bN⟩ := cN
  obtain ⟨fO, fdO, GO, mO, kO, bO⟩ := cO
  obtain ⟨fS, fdS, GS, mS, kS, bS⟩ := cS
  refine F.ok scBentB (fun vs H Q E h => ?_) (fun cdv A outer s H vs Q E hr h => ?_)
  · obtain ⟨d, cs, n, v, D, M, W, rfl, _⟩ := h
    rfl
  · obtain ⟨d, cs, n, v, D, M, W, rfl, Dk0, hn, hD, g, hM, hb, hW, hW4, k⟩ := h
    have hr1 : Room 1 _ := hr.mono (by omega)
    have hr2 : Room 2 _ := hr.mono (by omega)
    have hrS : Room (m + 2) _ := hr.mono (by omega)
    refine ⟨_, (pss_cons (ps_if (PW.pt (pw_and (pt_val (pe_callB (isiK (K := K) rfl) (by rfl) B.isinstance (by decide +kernel) (pa_cons (pv 1) (pa_cons (pe_bltn (v := .ty "tuple") (by rfl) B.tuple PyProof.Rows.boot_tuple rfl) pa_nil)))) (pw_and (pt_cmpR op_gt (pe_callB (lenK (K := K) rfl) (by rfl) B.len PySem.boot_len (pa_cons (pv 1) pa_nil)) pe_int (nomark _)) (pw_and (pt_cmpR op_gt (pv 2) pe_int (nomark _)) (pw_and1 (pt_cmpR op_gt (pe_call GN hr1 rfl mN kN bN .nil pass0 (pa_cons (pv 0) (pa_cons pe_int pa_nil))) pe_int (nomark _)))))))
       (pss_cons (ps_set (i := 3) scBentB.nd rfl (Or.inl rfl) (pe_call GN hr1 rfl mN kN bN .nil pass0 (pa_cons (pv 0) (pa_cons (pe_callB (lenK (K := K) rfl) (by rfl) B.len PySem.boot_len (pa_cons (pv 1) pa_nil)) pa_nil))))
       (pss_one (ps_ret (pe_op (opCatA (K := K) rfl) (pe_op (opCatA (K := K) rfl) (pe_slice (slA (K := K) rfl) (pv 1) po_none (po_some (pv 3))) (pe_tup (pa_cons (pe_call GS hrS rfl mS kS bS .nil pass0 (pa_cons (pv 0) (pa_cons (pe_ix (ixT (K := K) rfl) (pv 1) (pv 3) (fun _ _ => rfl)) (pa_cons (pe_op op_sub (pv 2) pe_int) pa_nil)))) pa_nil))) (pe_slice (slA (K := K) rfl) (pv 1) (po_some (pe_op op_add (pv 3) pe_int)) po_none)))))
       pss_nil)
       (pss_cons (ps_set (i := 4) scBentB.nd rfl (Or.inl rfl) (pe_call GN hr1 rfl mN kN bN .nil pass0 (pa_cons (pv 0) (pa_cons pe_int pa_nil))))
       (pss_cons (ps_if (PW.pt (pw_and (pt_val (pe_callB (isiK (K := K) rfl) (by rfl) B.isinstance (by decide +kernel) (pa_cons (pv 1) (pa_cons (pe_bltn (v := .ty "tuple") (by rfl) B.tuple PyProof.Rows.boot_tuple rfl) pa_nil)))) (pw_and1 (pt_cmpR op_gt (pv 4) pe_int (nomark _)))))
       (pss_cons (ps_set (i := 5) scBentB.nd rfl (Or.inl rfl) (pe_call GN hr1 rfl mN kN bN .nil pass0 (pa_cons (pv 0) (pa_cons pe_int pa_nil))))
       (pss_cons (ps_if (pt_cmpR op_eq (pv 5) pe_int (nomark _))
       (pss_one (ps_ret (pe_callTy (lstOfK (K := K) rfl) (by rfl) B.list (by decide +kernel) (pa_cons (pv 1) pa_nil))))
       pss_nil)
       (pss_cons (ps_if (pt_cmpR op_eq (pv 5) pe_int (nomark _))
       (pss_one (ps_ret (pe_op (opCatA (K := K) rfl) (pv 1) (pe_tup (pa_cons (pe_call GO hr2 rfl mO kO bO .nil pass0 (pa_cons (pv 0) pa_nil)) pa_nil)))))
       pss_nil)
       (pss_one (ps_ret (pe_ix (ixL (K := K) rfl) (pe_lst (pa_cons (pe_slice (slA (K := K) rfl) (pv 1) po_none (po_some (pe_un un_neg pe_int))) (pa_cons (pe_revT (K := K) rfl (pv 1) po_none) (pa_cons (pe_op (opCatA (K := K) rfl) (pv 1) (pe_slice (slA (K := K) rfl) (pv 1) (po_some (pe_un un_neg pe_int)) po_none)) (pa_cons (pe_slice (slA (K := K) rfl) (pv 1) (po_some pe_int) po_none) pa_nil))))) (pe_op op_sub (pv 5) pe_int) (fun _ _ => rfl)))))))
       pss_nil)
       (pss_cons (ps_if (PW.pt (pw_and (pt_val (pe_callB (isiK (K := K) rfl) (by rfl) B.isinstance (by decide +kernel) (pa_cons (pv 1) (pa_cons (pe_bltn (v := .ty "int") (by rfl) B.int PyProof.Rows.boot_int rfl) pa_nil)))) (pw_and (pt_not (pt_val (pe_callB (isiK (K := K) rfl) (by rfl) B.isinstance (by decide +kernel) (pa_cons (pv 1) (pa_cons (pe_bltn (v := .ty "bool") (by rfl) B.bool PyProof.Rows.boot_bool rfl) pa_nil))))) (pw_and1 (pt_cmpR op_gt (pv 4) pe_int (nomark _))))))
       (pss_one (ps_ret (pe_op op_add (pv 1) (pe_ix (ixL (K := K) rfl) (pe_lst (pa_cons pe_int (pa_cons (pe_un un_neg pe_int) (pa_cons pe_int (pa_cons (pe_op op_sub pe_int (pv 1)) pa_nil))))) (pe_call GN hr1 rfl mN kN bN .nil pass0 (pa_cons (pv 0) (pa_cons pe_int pa_nil))) (fun _ _ => rfl)))))
       pss_nil)
       (pss_one (ps_ret (pe_call GO hr2 rfl mO kO bO .nil pass0 (pa_cons (pv 0) pa_nil)))))))), ?_⟩
    refine seq_if (fun σ' H' => σ' = [some (.ref d), some v, some (.int (m : Int)), none, none, none] ∧ Kp [d, cs] H H' ∧ Deck3 H' d cs (n + 1)) ?rest (fun rest => ?_)
    case rest =>
      rintro σ' H1 ⟨rfl, k1, D1⟩
      have q1 := hD.sm (hid_kp k1)
      refine ⟨_, rfl, d, cs, 3, _, rfl, by decide, by decide, by omega, D1, fun way H2 w0 w1 k2 D2 => ?_⟩
      have q2 := q1.sm (hid_kp k2)
      have k02 := Kp.trans k1 k2
      have oddE : ∀ (v5 : Option V) (H3 : Hp), Kp [d, cs] H H3 → Deck3 H3 d cs (n + 2) → tRet (tCall (spOddB K) [] E0 (tCons (tVar 0) tNil)) { nx := fun _ _ => False, rt := Q } [some (.ref d), some v, some (.int (m : Int)), none, some (.int way), v5] H3 := fun v5 H3 k3 D3 =>
        ⟨_, rfl, d, cs, _, rfl, D3, by omega, fun H4 v4 E4 k4 D4 q4 g4 => k H4 v4 E4 (Kp.trans k3 k4) (D4.mono (by omega)) q4 (sp_of g4 D (by decide) (by decide) (by omega) (by omega))⟩
      dsimp only [gName, List.set]
      by_cases ht : tyN D = "tuple"
      · obtain ⟨ds, rfl⟩ : ∃ ds, D = .tuple ds := by
          cases hD with
          | tup h1 h2 => exact ⟨_, rfl⟩
          | _ => simp [tyN] at ht
        obtain ⟨a, xs, rfl, ha, hx⟩ := q2.inv_tup
        have ha2 := SqT.sm ha hid_sub
        have lx := hx.len
        have lb : xs.length ≤ 300000 := by
          have := bulk_len ds
          rw [bulk_t] at hb
          omega
        refine ⟨_, rfl, _, _, _, _, _, rfl, .ty _, q2.of_hid.ty, kit_tuple _, true, rfl, iteT ?_⟩
        refine ⟨_, rfl, _, _, rfl, rfl, _, rfl, iteP (fun _ => ?_) fun _ => ?_⟩
        · refine ⟨_, rfl, d, cs, 6, _, rfl, by decide, by decide, by omega, D2, fun turn H3 u0 u1 k3 D3 => ?_⟩
          dsimp only [gName, List.set]
          have q3 := q2.sm (hid_kp k3)
          have k03 := Kp.trans k02 k3
          have hx3 : DkAll K (hid [d, cs] H3) xs ds := hx.sm (hid_kp k3)
          have ha3 := sqt_kp D2.lm ha2 k3
          refine ⟨_, rfl, rfl, _, rfl, iteI (fun _ => ?_) fun e0 => ?_⟩
          · refine ⟨_, rfl, a, xs, rfl, .inr ha3, fun l4 n_l4 => ?_⟩
            obtain ⟨H4, e_H4, s4, r4⟩ := new_any n_l4
            rw [← e_H4]
            clear e_H4
            exact k H4 (.ref l4) (.list ds) (Kp.trans k03 (Kp.of s4)) ((D3.same s4).mono (by omega)) (.lst (SqL.of (hid_at (D3.nm n_l4) r4)) (hx3.sm (hid_same s4))) ⟨gqs_mono (Nat.le_add_right _ 2) (show gqs M ds = true from g), by rw [depth_lst, depth_tup]; omega, by rw [bulk_l, bulk_t]; omega, Nat.le_succ_of_le hW⟩
          refine ⟨_, rfl, rfl, _, rfl, iteI (fun _ => ?_) fun e1 => ?_⟩
          · refine ⟨_, rfl, _, rfl, d, cs, _, rfl, D3, by omega, fun H4 v4 E4 k4 D4 q4 g4 => ?_⟩
            refine ⟨(by show 1 ≤ sizeLine; decide), fun t5 n_t5 => ?_⟩
            obtain ⟨H5, e_H5, s5, r5⟩ := new_any n_t5
            rw [← e_H5]
            clear e_H5
            refine catA_sq (SqT.sm (sqt_kp D3.lm ha3 k4) s5) (SqT.of r5) (by rw [List.length_singleton]; omega) fun H6 x6 s6 r6 => ?_
            have D6 := (D4.same s5).same s6
            have s46 := s5.trans s6
            refine k H6 (.ref x6) (.tuple (ds ++ [E4])) (Kp.trans k03 (Kp.trans k4 (Kp.of s46))) (D6.mono (by omega)) (.tup (SqT.hid r6 D6.lm) (((hx3.sm (hid_kp k4)).sm (hid_same s46)).app (.cons (q4.sm (hid_same s46)) .nil))) (sp_app g hW (g4.mono hM (Nat.le_refl _) (Nat.le_refl _) (Nat.le_refl _)) hW4)
          dsimp only [tNext]
          refine ⟨_, rfl, ?_⟩
          dsimp only [tNoPart]
          refine ⟨1, rfl, _, rfl, slA_sq ha3 fun H4 x4 s4 r4 => ?_⟩
          refine ⟨_, rfl, ?_⟩
          dsimp only [tNoPart]
          refine ⟨a, xs, rfl, SqT.sm ha3 s4, fun x5 n_x5 => ?_⟩
          obtain ⟨H5, e_H5, s5, r5⟩ := new_any n_x5
          rw [← e_H5]
          clear e_H5
          rw [show xs.take (revLen xs.length none) = xs from List.take_length] at r5
          have ha5 := SqT.sm (SqT.sm ha3 s4) s5
          refine ⟨_, rfl, _, rfl, 1, rfl, _, rfl, ?_⟩
          dsimp only [tNoPart]
          refine slA_sq ha5 fun H6 x6 s6 r6 => ?_
          refine catA_sq (SqT.sm ha5 s6) r6 (by rw [cutL_last, List.length_drop]; omega) fun H7 x7 s7 r7 => ?_
          have ha7 := SqT.sm (SqT.sm ha5 s6) s7
          refine ⟨_, rfl, _, rfl, ?_⟩
          dsimp only [tNoPart]
          refine slA_sq ha7 fun H8 x8 s8 r8 => ?_
          refine ⟨(by show 4 ≤ sizeLine; decide), fun l9 n_l9 => ?_⟩
          obtain ⟨H9, e_H9, s9, r9⟩ := new_any n_l9
          rw [← e_H9]
          clear e_H9
          have D4 := D3.same s4
          have D5 := D4.same s5
          have D7 := (D5.same s6).same s7
          have D8 := D7.same s8
          have D9 := D8.same s9
          have hx9 : DkAll K (hid [d, cs] H9) xs ds := hx3.sm (hid_same (s4.trans (s5.trans (s6.trans (s7.trans (s8.trans s9))))))
          have k09 : Kp [d, cs] H H9 := Kp.trans k03 (Kp.of (s4.trans (s5.trans (s6.trans (s7.trans (s8.trans s9))))))
          rw [cutL_butlast, List.dropLast_eq_take] at r4
          rw [cutL_last] at r7
          rw [show cutL xs (some 1) none = xs.drop 1 from cutL_from xs 1] at r8
          rw [lx] at r4 r7
          have p4 : Dk K (hid [d, cs] H9) (.ref x4) (.tuple (ds.take (ds.length - 1))) := .tup (SqT.hid (SqT.sm r4 (s5.trans (s6.trans (s7.trans (s8.trans s9))))) D9.lm) (hx9.take _)
          have p5 : Dk K (hid [d, cs] H9) (.ref x5) (.tuple ds.reverse) := .tup (SqT.hid (SqT.sm (SqT.of r5) (s6.trans (s7.trans (s8.trans s9)))) D9.lm) hx9.rev
          have p7 : Dk K (hid [d, cs] H9) (.ref x7) (.tuple (ds ++ ds.drop (ds.length - 1))) := .tup (SqT.hid (SqT.sm r7 (s8.trans s9)) D9.lm) (hx9.app (hx9.drop _))
          have p8 : Dk K (hid [d, cs] H9) (.ref x8) (.tuple (ds.drop 1)) := .tup (SqT.hid (SqT.sm r8 s9) D9.lm) (hx9.drop _)
          refine ⟨_, rfl, _, _, rfl, rfl, ?_⟩
          have fin : ∀ (x : V) (E : PyData), Dk K (hid [d, cs] H9) x E → GQ (M + 2) ((PyData.tuple ds).depth + 3) (2 * (PyData.tuple ds).bulk + 20) (W + 1) E → Q x H9 := fun x E h1 h2 => k H9 x E k09 (D9.mono (by omega)) h1 h2
          have hu4 : turn = 2 ∨ turn = 3 ∨ turn = 4 ∨ turn = 5 := by omega
          rcases hu4 with rfl | rfl | rfl | rfl
          · exact ⟨l9, _, 0, _, rfl, rfl, SqL.of r9, rfl, fin _ _ p4 (sp_sub g hW (fun x hx => List.mem_of_mem_take hx) (by rw [List.length_take]; omega) (bulk_take _ _))⟩
          · exact ⟨l9, _, 1, _, rfl, rfl, SqL.of r9, rfl, fin _ _ p5 (sp_rev g hW)⟩
          · exact ⟨l9, _, 2, _, rfl, rfl, SqL.of r9, rfl, fin _ _ p7 (sp_dup (i := 0) g hW)⟩
          · exact ⟨l9, _, 3, _, rfl, rfl, SqL.of r9, rfl, fin _ _ p8 (sp_sub g hW (fun x hx => List.mem_of_mem_drop hx) (by rw [List.length_drop]; omega) (bulk_drop _ _))⟩
        · refine ⟨_, rfl, _, _, _, _, _, rfl, .ty _, q2.of_hid.ty, kit_int _, false, rfl, iteF ?_⟩
          exact oddE _ _ k02 (D2.mono (by omega))
      · refine ⟨_, rfl, _, _, _, _, _, rfl, .ty _, q2.of_hid.ty, kit_tuple D, _, rfl, ?_⟩
        rw [decide_eq_false ht]
        refine iteF ?_
        refine ⟨_, rfl, _, _, _, _, _, rfl, .ty _, q2.of_hid.ty, kit_int D, _, rfl, iteP (fun hi => ?_) fun _ => oddE _ _ k02 (D2.mono (by omega))⟩
        refine ⟨_, rfl, _, _, _, _, _, rfl, .ty _, q2.of_hid.ty, kit_bool D, _, rfl, iteNP (fun hb => ?_) fun _ => oddE _ _ k02 (D2.mono (by omega))⟩
        refine ⟨_, rfl, _, _, rfl, rfl, _, rfl, iteP (fun _ => ?_) fun _ => oddE _ _ k02 (D2.mono (by omega))⟩
        obtain ⟨i, rfl⟩ : ∃ i, D = .int i := by
          cases hD with
          | int i => exact ⟨i, rfl⟩
          | bl b => exact absurd rfl hb
          | _ => simp [tyN] at hi
        cases hD
        have iM : i.natAbs ≤ M := of_decide_eq_true g
        refine ⟨_, rfl, 1, rfl, _, rfl, _, _, rfl, rfl, (by show 4 ≤ sizeLine; decide), fun l4 n_l4 => ?_⟩
        obtain ⟨H4, e_H4, s4, r4⟩ := new_any n_l4
        rw [← e_H4]
        clear e_H4
        have n4 := D2.nm n_l4
        refine ⟨_, rfl, d, cs, 4, _, rfl, by decide, by decide, by omega, D2.same s4, fun c H5 c0 c1 k5 D5 => ?_⟩
        have r5 := k5 _ _ n4 r4
        have k05 := Kp.trans k02 (Kp.trans (Kp.of s4) k5)
        have fin : ∀ j : Int, j.natAbs ≤ M + 2 → Q (.int j) H5 := fun j hj => k H5 (.int j) (.int j) k05 (D5.mono (by omega)) (.int j) ⟨decide_eq_true hj, Nat.zero_le _, Nat.zero_le _, Nat.zero_le _⟩
        have hc : c = 0 ∨ c = 1 ∨ c = 2 ∨ c = 3 := by omega
        rcases hc with rfl | rfl | rfl | rfl
        · exact ⟨l4, _, 0, _, rfl, rfl, SqL.of r5, rfl, _, _, rfl, rfl, fin _ (by omega)⟩
        · exact ⟨l4, _, 1, _, rfl, rfl, SqL.of r5, rfl, _, _, rfl, rfl, fin _ (by omega)⟩
        · exact ⟨l4, _, 2, _, rfl, rfl, SqL.of r5, rfl, _, _, rfl, rfl, fin _ (by omega)⟩
        · exact ⟨l4, _, 3, _, rfl, rfl, SqL.of r5, rfl, _, _, rfl, rfl, fin _ (by omega)⟩
    have D0 : Deck3 H d cs (n + 1) := Dk0.mono (by omega)
    refine ⟨_, rfl, _, _, _, _, _, rfl, .ty _, hD.of_hid.ty, kit_tuple D, _, rfl, iteP (fun ht => ?_) fun _ => rest _ _ ⟨rfl, Kp.refl _ _, D0⟩⟩
    obtain ⟨ds, rfl⟩ : ∃ ds, D = .tuple ds := by
      cases hD with
      | tup h1 h2 => exact ⟨_, rfl⟩
      | _ => simp [tyN] at ht
    obtain ⟨a, xs, rfl, ha, hx⟩ := hD.inv_tup
    have ha0 := SqT.sm ha hid_sub
    have lx := hx.len
    refine ⟨_, rfl, _, xs.length, rfl, .inr ⟨_, ha0, rfl⟩, _, _, rfl, rfl, _, rfl, iteP (fun lx0 => ?_) fun _ => rest _ _ ⟨rfl, Kp.refl _ _, D0⟩⟩
    refine ⟨_, rfl, _, _, rfl, rfl, _, rfl, iteP (fun m0 => ?_) fun _ => rest _ _ ⟨rfl, Kp.refl _ _, D0⟩⟩
    refine ⟨_, rfl, d, cs, 5, _, rfl, by decide, by decide, by omega, Dk0, fun c2 H2 c20 c21 k2 D2 => ⟨_, _, rfl, rfl, _, rfl, iteP (fun _ => ?_) fun _ => rest _ _ ⟨rfl, k2, D2⟩⟩⟩
    clear rest
    have ha2 := sqt_kp Dk0.lm ha0 k2
    have hx2 : DkAll K (hid [d, cs] H2) xs ds := hx.sm (hid_kp k2)
    have lb : xs.length ≤ 300000 := by
      have := bulk_len ds
      rw [bulk_t] at hb
      omega
    refine ⟨_, rfl, _, rfl, _, xs.length, rfl, .inr ⟨_, ha2, rfl⟩, d, cs, _, _, rfl, by omega, by omega, by omega, D2, fun c3 H3 c30 c31 k3 D3 => ?_⟩
    obtain ⟨i, rfl⟩ : ∃ i : Nat, c3 = (i : Int) := ⟨c3.toNat, by omega⟩
    have hi : i < ds.length := by omega
    have k03 : Kp [d, cs] H H3 := Kp.trans k2 k3
    have ha3 := sqt_kp D2.lm ha2 k3
    have hx3 : DkAll K (hid [d, cs] H3) xs ds := hx2.sm (hid_kp k3)
    obtain ⟨m', rfl⟩ : ∃ m', m = m' + 1 := ⟨m - 1, by omega⟩
    have eS := hS m' rfl
    subst eS
    dsimp only [gName, List.set]
    refine ⟨_, rfl, ?_⟩
    dsimp only [tNoPart]
    refine ⟨_, rfl, _, rfl, slA_sq ha3 fun H5 l1 s5 r5 => ?_⟩
    rw [show cutL xs none (some (i : Int)) = xs.take i from cutL_to xs i] at r5
    have D5 := D3.same s5
    have hx5 := hx3.sm (hid_same s5)
    have ha5 := SqT.sm ha3 s5
    obtain ⟨v, ev, dv⟩ := hx5.get (List.getElem?_eq_getElem hi)
    refine ⟨_, rfl, _, rfl, _, rfl, a, xs, i, v, rfl, rfl, ha5, atI_nat ev, _, rfl, _, _, rfl, rfl, ?_⟩
    refine ⟨d, cs, _, v, ds[i], M, W, by show [V.ref d, v, V.int (((m' + 1 : Nat) : Int) - 1)] = _; rw [show ((m' + 1 : Nat) : Int) - 1 = (m' : Int) by omega], D5, by omega, dv, gqs_all.mp (show gqs M ds = true from g) _ (List.getElem_mem hi), hM, Nat.le_trans (bulk_at hi) hb, (wid_t.mp hW).2 _ (List.getElem_mem hi), hW4, fun H6 v6 E6 k6 D6 q6 g6 => ?_⟩
    refine ⟨(by show 1 ≤ sizeLine; decide), fun t7 n_t7 => ?_⟩
    obtain ⟨H7, e_H7, s7, r7⟩ := new_any n_t7
    rw [← e_H7]
    clear e_H7
    refine catA_sq (SqT.sm (sqt_kp D5.lm r5 k6) s7) (SqT.of r7) (by rw [List.length_take, List.length_singleton]; omega) fun H8 l2 s8 r8 => ?_
    refine ⟨_, rfl, _, rfl, _, _, rfl, rfl, _, rfl, ?_⟩
    dsimp only [tNoPart]
    refine slA_sq (SqT.sm (SqT.sm (sqt_kp D5.lm ha5 k6) s7) s8) fun H9 l3 s9 r9 => ?_
    rw [show cutL xs (some ((i : Int) + 1)) none = xs.drop (i + 1) from cutL_from xs (i + 1)] at r9
    refine catA_sq (SqT.sm r8 s9) r9 (by rw [List.length_append, List.length_take, List.length_drop, List.length_singleton]; omega) fun H10 l4 s10 r10 => ?_
    have s610 := s7.trans (s8.trans (s9.trans s10))
    have z := (hx5.sm (hid_kp k6)).sm (hid_same s610)
    have D10 := D6.same s610
    exact k H10 (.ref l4) _ (Kp.trans k03 (Kp.trans (Kp.of s5) (Kp.trans k6 (Kp.of s610)))) (D10.mono (by omega)) (.tup (SqT.hid r10 D10.lm) (((z.take i).app (.cons (q6.sm (hid_same s610)) .nil)).app (z.drop (i + 1)))) (sp_put g hW hi g6)
theorem ok_bentB {f : Addr} {fd : FuncData} (F : Fun K "_law_bent" "_law_bent" sBentB f fd) (B : KBo mg) (cN : Cd P w K mg base 1 "_law_draw" ["_law_deck_here", "_law_many"] spDraw) (cO : Cd P w K mg base 2 "_law_odd" ["_law_deck_here"] (spOddB K))
    (mS : mg "_law_bent" = some (.ref f)) (kS : PySem.W.keepIn K (.ref f) = true) (bS : Binds K fd ["_law_deck_here", "_law_thing_here", "_law_deep"] []) : ∀ m, FnOk P w K mg base CX0 (m + 3) f fd ["_law_deck_here", "_law_thing_here", "_law_deep"] (spBentB K m)
  | 0 => st_bentB 0 (fun _ _ _ _ => False) (fun m' h => by omega) F B cN cO ⟨f, fd, F.ok scBentB (fun vs H Q E h => h.elim) (fun cdv A outer s H vs Q E hr h => h.elim), mS, kS, bS⟩
  | m + 1 => st_bentB (m + 1) (spBentB K m) (fun m' h => by cases h; rfl) F B cN cO ⟨f, fd, ok_bentB F B cN cO mS kS bS m, mS, kS, bS⟩
end
end Wn

set_option maxHeartbeats 1000000
namespace Wn
open PySem L2
set_option pp.maxSteps 700
set_option pp.deepTerms false
local macro_rules | `(tactic| walk_at "h") => `(tactic| first | with_reducible assumption | (with_reducible exact upd_same) | (with_reducible apply g_upd; (walk_at "neq"); (walk_at "h")) | (with_reducible apply g_same; (with_reducible assumption); (walk_at "h")) | (with_reducible apply g_kp; (with_reducible assumption); (walk_at "nin"); (walk_at "h")) | (with_reducible apply g_tk; (with_reducible assumption); (walk_at "h")))
local macro_rules | `(tactic| walk_at "neq") => `(tactic| first | with_reducible assumption | (with_reducible apply Ne.symm; with_reducible assumption) | (with_reducible apply ne_upd; (with_reducible assumption)) | (with_reducible apply Ne.symm; with_reducible apply ne_upd; with_reducible assumption) | (with_reducible apply ne_fr; (with_reducible assumption); (walk_at "h")) | (with_reducible apply ne_fr'; (with_reducible assumption); (walk_at "h")) | (with_reducible apply ne_kd; (walk_at "h"); (walk_at "h"); (with_unfolding_all (intro z; cases z))))
local macro_rules | `(tactic| walk_at "nin") => `(tactic| first | (with_reducible exact nin0) | with_reducible assumption | (with_reducible apply ninc; (walk_at "neq"); (walk_at "nin")))
local macro_rules | `(tactic| walk_at "none") => `(tactic| first | with_reducible assumption | (with_reducible apply n_upd; (with_reducible assumption)) | (with_reducible apply n_same; (with_reducible assumption); (walk_at "none")) | (with_reducible apply n_kp; (with_reducible assumption); (walk_at "nin"); (walk_at "none")))
local macro_rules | `(tactic| walk_at "mem") => `(tactic| first | (with_reducible exact List.mem_cons_self) | (with_reducible apply List.mem_cons_of_mem; (walk_at "mem")))
local macro_rules | `(tactic| walk_at "am") => `(tactic| first | (with_reducible exact am0) | (with_reducible apply am1; (first | (apply Or.inl; walk_at "mem") | (apply Or.inr; walk_at "none")); (walk_at "am")))
local macro_rules | `(tactic| walk_at "tk") => `(tactic| first | (with_reducible exact TK.refl _) | with_reducible assumption | (with_reducible apply t_tk; (with_reducible assumption); (walk_at "tk")) | (with_reducible apply t_same; (with_reducible assumption); (walk_at "tk")) | (with_reducible apply t_new; (with_reducible assumption); (walk_at "tk")) | (with_reducible apply t_wr; (walk_at "h"); (with_unfolding_all rfl); (walk_at "tk")))
local macro_rules | `(tactic| walk_at "same") => `(tactic| first | (with_reducible exact L2.Same.refl _) | with_reducible assumption | (with_reducible apply s_same; (with_reducible assumption); (walk_at "same")) | (with_reducible apply s_new; (with_reducible assumption); (walk_at "same")) | (with_reducible apply s_wrn; (walk_at "none"); (walk_at "same")))
local macro_rules | `(tactic| walk_at "kp") => `(tactic| first | (with_reducible exact Kp.refl _ _) | with_reducible assumption | (with_reducible apply k_same; (with_reducible assumption); (walk_at "kp")) | (with_reducible apply k_kp; (with_reducible assumption); (walk_at "kp")) | (with_reducible apply k_kpm; (with_reducible assumption); (walk_at "am"); (walk_at "kp")) | (with_reducible apply k_new; (with_reducible assumption); (walk_at "kp")) | (with_reducible apply k_wr; (walk_at "mem"); (walk_at "kp")) | (with_reducible apply k_wrn; (walk_at "none"); (walk_at "kp")))
local macro_rules | `(tactic| walk_at "rp") => `(tactic| first | with_reducible assumption | (with_reducible exact Rp.int) | (with_reducible exact Rp.str) | (with_reducible exact Rp.none) | (with_reducible exact Rp.bool) | (with_reducible apply Rp.tk'; (with_reducible assumption); (walk_at "tk")) | (with_reducible apply Rp.tup; (walk_at "h"); (walk_at "rpl")))
local macro_rules | `(tactic| walk_at "rpl") => `(tactic| first | with_reducible assumption | (with_reducible exact RpL.nil) | (with_reducible apply RpL.tk'; (with_reducible assumption); (walk_at "tk")) | (with_reducible apply RpL.cons; (walk_at "rp"); (walk_at "rpl")))
local macro_rules | `(tactic| walk_at "g") => `(tactic| repeat (first | refine ⟨_, rfl, ?_⟩ | refine ⟨_, _, rfl, rfl, ?_⟩ | refine ⟨rfl, _, rfl, ?_⟩ | refine ⟨_, _, rfl, rfl, (by first | decide | omega), ?_⟩))
abbrev sShort : Stmt := top 14
structure SB (mg : Str → Option Value) : Prop where
  range : mg "range" = none
  len : mg "len" = none
  tuple : mg "tuple" = none
  int : mg "int" = none
  min : mg "min" = none
/-- rows of numbers, each a list of its own -/
def rowV (X : Mx) (m h : Nat) : List V := (List.range m).map fun o => V.int (X h o : Nat)
structure MatAt (H : Hp) (a : Addr) (ls : List Addr) (X : Mx) (m : Nat) : Prop where
  l : H a = some (.lst (ls.map V.ref))
  len : ls.length = m
  nd : ls.Nodup
  na : a ∉ ls
  at' : ∀ (h : Nat) (p : Addr), ls[h]? = some p → H p = some (.lst (rowV X m h))
section
variable {H H' : Hp} {a : Addr} {ls : List Addr} {X Y : Mx} {m : Nat}
theorem MatAt.same (M : MatAt H a ls X m) (s : Same H H') : MatAt H' a ls X m := ⟨s _ _ M.l, M.len, M.nd, M.na, fun h p e => s _ _ (M.at' h p e)⟩
theorem MatAt.congr (M : MatAt H a ls X m) (e : ∀ h, h < m → ∀ o, o < m → X h o = Y h o) : MatAt H a ls Y m := ⟨M.l, M.len, M.nd, M.na, fun h p q => by
  have hh : h < m := by rw [← M.len]; exact (List.getElem?_eq_some_iff.mp q).1
  rw [M.at' h p q]
  unfold rowV
  congr 2
  exact List.map_congr_left fun o ho => by rw [e h hh o (List.mem_range.mp ho)]⟩
theorem MatAt.row (M : MatAt H a ls X m) {h : Nat} (hh : h < m) : ∃ p, ls[h]? = some p ∧ atI (ls.map V.ref) (h : Int) = some (.ref p) ∧ H p = some (.lst (rowV X m h)) := by
  have hl : h < ls.length := by rw [M.len]; exact hh
  have e : ls[h]? = some ls[h] := List.getElem?_eq_getElem hl
  exact ⟨_, e, atI_nat (by rw [List.getElem?_map, e]; rfl), M.at' _ _ e⟩
theorem rowV_at {h o : Nat} (ho : o < m) : atI (rowV X m h) (o : Int) = some (.int (X h o : Nat)) := atI_nat (by
  unfold rowV
  rw [List.getElem?_map, List.getElem?_range ho]
  rfl)
theorem rowV_len {h : Nat} : (rowV X m h).length = m := by
  unfold rowV
  rw [List.length_map, List.length_range]
theorem rowV_ix {h o : Nat} (ho : o < m) : ixN (rowV X m h).length (o : Int) = some o := by
  rw [rowV_len]
  have := ixN_at (n := m) (r := (o : Int)) (by omega) (by omega)
  rw [this]
  rfl
def setM (X : Mx) (h o v : Nat) : Mx := fun x y => if x = h ∧ y = o then v else X x y
theorem MatAt.set (M : MatAt H a ls X m) {h o v : Nat} {p : Addr} (e : ls[h]? = some p) (ho : o < m) : MatAt (upd H p (.lst ((rowV X m h).set o (.int (v : Nat))))) a ls (setM X h o v) m := by
  have hp := List.mem_of_getElem? e
  refine ⟨(upd_ne (show a ≠ p from fun z => M.na (by rw [z]; exact hp))).trans M.l, M.len, M.nd, M.na, fun x q eq => ?_⟩
  by_cases c : x = h
  · subst c
    rw [e] at eq
    cases eq
    rw [upd_same]
    congr 2
    refine List.ext_getElem (by rw [List.length_set, rowV_len, rowV_len]) fun i h1 h2 => ?_
    rw [List.length_set, rowV_len] at h1
    rw [List.getElem_set]
    unfold rowV setM
    simp only [List.getElem_map, List.getElem_range, true_and]
    by_cases c : o = i
    · subst c
      simp
    · rw [if_neg c, if_neg (fun z => c z.symm)]
  · have nq : q ≠ p := fun z => by
      subst z
      have h1 := (List.getElem?_eq_some_iff.mp e)
      have h2 := (List.getElem?_eq_some_iff.mp eq)
      exact c ((List.getElem_inj M.nd).mp (h2.choose_spec.trans h1.choose_spec.symm))
    rw [upd_ne nq, M.at' x q eq]
    unfold rowV setM
    congr 2
    exact List.map_congr_left fun o _ => by rw [if_neg fun z => c z.1]
end
/-- a row's own lists are new: writes to them leave all that stood -/
theorem mat_wr {H0 G : Hp} {ls : List Addr} {p : Addr} {o : HO} (s : Same H0 G) (al : ∀ q ∈ ls, H0 q = none) (e : p ∈ ls) : Same H0 (upd G p o) := s.wrn (al p e)
theorem nearOf_fm {rs : List (Rd × Bool)} {a b : Nat} (h : ∀ p ∈ rs, ¬ (p.1.a = a ∧ p.1.b = b) ∧ ¬ (p.1.a = b ∧ p.1.b = a)) : (nearOf rs a).filterMap (fun p => if p.1 = b then some p.2 else none) = [] := by
  rw [List.filterMap_eq_nil_iff]
  intro q hq
  unfold nearOf at hq
  obtain ⟨p, hp, hq⟩ := List.mem_flatMap.mp hq
  have hn := h p hp
  unfold near1 at hq
  split at hq
  · rcases List.mem_append.mp hq with hq | hq
    · split at hq
      · rw [List.mem_singleton.mp hq]
        dsimp only
        rw [if_neg]
        intro z
        exact hn.1 ⟨by assumption, z⟩
      · cases hq
    · split at hq
      · rw [List.mem_singleton.mp hq]
        dsimp only
        rw [if_neg]
        intro z
        exact hn.2 ⟨z, by assumption⟩
      · cases hq
  · cases hq
theorem init_off (rs : List (Rd × Bool)) (r : Rd) : initM (rs ++ [(r, false)]) = initM rs := by
  funext x y
  unfold initM
  rw [near_snoc, List.filterMap_append]
  show (if x = y then 0 else minL (_ ++ List.filterMap _ [])) = _
  rw [List.filterMap_nil, List.append_nil]
theorem init_on {rs : List (Rd × Bool)} {r : Rd} (hr : r.a < r.b ∧ r.delay ≤ 24) (h : ∀ p ∈ rs, p.1.a < p.1.b ∧ ¬ (p.1.a = r.a ∧ p.1.b = r.b)) (x y : Nat) : initM (rs ++ [(r, true)]) x y = setM (setM (initM rs) r.a r.b r.delay) r.b r.a r.delay x y := by
  have nab : r.a ≠ r.b := by omega
  have mono : ∀ d, minL [d] = min d 24 := fun d => rfl
  unfold setM
  by_cases c1 : x = r.b ∧ y = r.a
  · rw [if_pos c1]
    obtain ⟨rfl, rfl⟩ := c1
    unfold initM
    rw [if_neg nab.symm, near_snoc, List.filterMap_append, nearOf_fm (fun p hp => ⟨fun z => by have := h p hp; omega, fun z => by have := h p hp; omega⟩), List.nil_append]
    unfold near1
    simp only [if_true, if_neg nab, List.nil_append, List.filterMap_cons, List.filterMap_nil]
    rw [mono]
    omega
  · rw [if_neg c1]
    by_cases c2 : x = r.a ∧ y = r.b
    · rw [if_pos c2]
      obtain ⟨rfl, rfl⟩ := c2
      unfold initM
      rw [if_neg nab, near_snoc, List.filterMap_append, nearOf_fm (fun p hp => ⟨fun z => by have := h p hp; omega, fun z => by have := h p hp; omega⟩), List.nil_append]
      unfold near1
      simp only [if_true, if_neg nab.symm, List.append_nil, List.filterMap_cons, List.filterMap_nil]
      rw [mono]
      omega
    · rw [if_neg c2]
      unfold initM
      by_cases c3 : x = y
      · rw [if_pos c3, if_pos c3]
      · rw [if_neg c3, if_neg c3, near_snoc, List.filterMap_append]
        have e : (near1 x (r, true)).filterMap (fun p => if p.1 = y then some p.2 else none) = [] := by
          rw [List.filterMap_eq_nil_iff]
          intro q hq
          unfold near1 at hq
          simp only [if_true] at hq
          rcases List.mem_append.mp hq with hq | hq
          · split at hq
            · rename_i e1
              rw [List.mem_singleton.mp hq]
              dsimp only
              rw [if_neg]
              intro z
              exact c2 ⟨e1.symm, z.symm⟩
            · cases hq
          · split at hq
            · rename_i e1
              rw [List.mem_singleton.mp hq]
              dsimp only
              rw [if_neg]
              intro z
              exact c1 ⟨e1.symm, z.symm⟩
            · cases hq
        rw [e, List.append_nil]
theorem init_nil : ∀ x y, initM [] x y = topM x y := fun x y => by
  unfold initM topM
  rfl
def spShort (K : PySem.W.Frag) : Sp := fun vs H Q _ => ∃ (m : Nat) (rs : List Rd) (bs : List Bool) (la ua : Addr), vs = [.int m, .ref la, .ref ua] ∧ TupAt K H la (rs.map rdD) ∧ SqL K H ua (bs.map V.bl) ∧ bs.length = rs.length ∧ RdsOk m rs ∧
  ∀ (H' : Hp) (a : Addr), Same H H' → TupAt K H' a (gridD (fwM (rs.zip bs) m) m) → Q (.ref a) H'

section
variable {P : Program} {w : World} {K : PySem.W.Frag} {mg : Str → Option Value} {base : Heap}
theorem scShort : FnScope ["_law_houses", "_law_roads_here", "_law_up", "_law_far", "_law_k", "_law_a", "_law_b", "_law_delay", "_law_size", "_law_row"] ["_law_houses", "_law_roads_here", "_law_up"] (defScope sShort) := ⟨rfl, rfl, rfl, by decide +kernel, rfl, by decide +kernel, by decide +kernel⟩
theorem ok_short {f : Addr} {fd : FuncData} (F : Fun K "_law_shortest" "_law_shortest" sShort f fd) (B : SB mg) : FnOk P w K mg base CX0 1 f fd ["_law_houses", "_law_roads_here", "_law_up"] (spShort K) := by
  refine F.ok scShort (fun vs H Q E h => ?_) (fun cdv A outer s H vs Q E hr h => ?_)
  · obtain ⟨m, rs, bs, la, ua, rfl, _⟩ := h
    rfl
  · obtain ⟨m, rs, bs, la, ua, rfl, hL, hU, lb, R, k⟩ := h
    refine ⟨_, (pss_cons (ps_setLc (i := 3) (own := [("_law_a", 5)]) (g := (gName 5)) (tt := tYes) rfl scShort.nd rfl rfl (sw_true rfl rfl rfl (by decide +kernel)) (pi_range1 rfl B.range (pa_cons (pv 0) pa_nil)) (blkOk_by (N := ["_law_houses", "_law_roads_here", "_law_up", "_law_far", "_law_k", "_law_a", "_law_b", "_law_delay", "_law_size", "_law_row"]) (sc := defScope sShort) (by decide +kernel))
       (fun _ _ _ _ _ => (pg_name (i := 5) scShort.nd rfl (Or.inr rfl))) (fun _ _ _ _ _ => pts_nil) (fun _ _ _ _ _ => (pe_lc (own := [("_law_b", 6)]) (g := (gName 6)) (tt := tYes) rfl scShort.nd (pi_range1 rfl B.range (pa_cons (pv 0) pa_nil)) (blkOk_by (by kernel_rfl))
       (fun _ _ _ _ _ => (pg_name (i := 6) scShort.nd rfl (Or.inl rfl))) (fun _ _ _ _ _ => pts_nil) (fun _ _ _ _ _ => (pe_op op_mul pe_int (pe_callTy call_int1 (by rfl) B.int PyProof.Rows.boot_int (pa_cons (pe_cmpR op_ne (pv 5) (pv 6) (nomark _)) pa_nil)))))))
       (pss_cons (ps_for PassesOwn.never rfl (pi_range1 rfl B.range (pa_cons (pe_callB (lenK (K := K) rfl) (by rfl) B.len PySem.boot_len (pa_cons (pv 1) pa_nil)) pa_nil)) (pg_name (i := 4) scShort.nd rfl (Or.inl rfl))
       (pss_cons (ps_asg (pe_ix (ixT (K := K) rfl) (pv 1) (pv 4) (fun _ _ => rfl)) (pg_tup rfl (pgs_cons (pg_name (i := 5) scShort.nd rfl (Or.inl rfl)) (pgs_cons (pg_name (i := 6) scShort.nd rfl (Or.inl rfl)) (pgs_cons (pg_name (i := 7) scShort.nd rfl (Or.inl rfl)) (pgs_cons (pg_name (i := 8) scShort.nd rfl (Or.inl rfl)) pgs_nil))))))
       (pss_one (ps_if (pt_val (pe_ix (ixL (K := K) rfl) (pv 2) (pv 4) (fun _ _ => rfl)))
       (pss_cons (ps_asg (pv 7) (pg_sub (pe_ix (ixL (K := K) rfl) (pv 3) (pv 5) (fun _ _ => rfl)) (pv 6) set_list))
       (pss_one (ps_asg (pv 7) (pg_sub (pe_ix (ixL (K := K) rfl) (pv 3) (pv 6) (fun _ _ => rfl)) (pv 5) set_list))))
       pss_nil))))
       (pss_cons (ps_for PassesOwn.never rfl (pi_range1 rfl B.range (pa_cons (pv 0) pa_nil)) (pg_name (i := 4) scShort.nd rfl (Or.inl rfl))
       (pss_one (ps_for PassesOwn.never rfl (pi_range1 rfl B.range (pa_cons (pv 0) pa_nil)) (pg_name (i := 5) scShort.nd rfl (Or.inl rfl))
       (pss_one (ps_for PassesOwn.never rfl (pi_range1 rfl B.range (pa_cons (pv 0) pa_nil)) (pg_name (i := 6) scShort.nd rfl (Or.inl rfl))
       (pss_one (ps_asg (pe_callB (call_min2 rfl) (by rfl) B.min (by decide +kernel) (pa_cons (pe_ix (ixL (K := K) rfl) (pe_ix (ixL (K := K) rfl) (pv 3) (pv 5) (fun _ _ => rfl)) (pv 6) (fun _ _ => rfl)) (pa_cons (pe_op op_add (pe_ix (ixL (K := K) rfl) (pe_ix (ixL (K := K) rfl) (pv 3) (pv 5) (fun _ _ => rfl)) (pv 4) (fun _ _ => rfl)) (pe_ix (ixL (K := K) rfl) (pe_ix (ixL (K := K) rfl) (pv 3) (pv 4) (fun _ _ => rfl)) (pv 6) (fun _ _ => rfl))) pa_nil))) (pg_sub (pe_ix (ixL (K := K) rfl) (pv 3) (pv 5) (fun _ _ => rfl)) (pv 6) set_list))))))))
       (pss_one (ps_ret (pe_callTy (tupOfK (K := K) rfl) (by rfl) B.tuple PyProof.Rows.boot_tuple (pa_cons (pe_lc (own := [("_law_row", 9)]) (g := (gName 9)) (tt := tYes) rfl scShort.nd (pi_list (pv 3)) (blkOk_by (N := ["_law_houses", "_law_roads_here", "_law_up", "_law_far", "_law_k", "_law_a", "_law_b", "_law_delay", "_law_size", "_law_row"]) (sc := defScope sShort) (by decide +kernel))
       (fun _ _ _ _ _ => (pg_name (i := 9) scShort.nd rfl (Or.inl rfl))) (fun _ _ _ _ _ => pts_nil) (fun _ _ _ _ _ => (pe_callTy (tupOfK (K := K) rfl) (by rfl) B.tuple PyProof.Rows.boot_tuple (pa_cons (pv 9) pa_nil)))) pa_nil))))))), ?_⟩
    have m8 := R.m8
    have lr := R.few
    refine ⟨_, rfl, m, rfl, by omega, by omega, fun fo n_fo => ?_⟩
    rw [show ((m : Int)).toNat = m by omega]
    refine lc_it walk_range (fun j H' => ∃ ls : List Addr, Same H H' ∧ ls.length = j ∧ H' fo = some (.lst (ls.map V.ref)) ∧ ls.Nodup ∧ (∀ p ∈ ls, H p = none ∧ p ≠ fo) ∧ ∀ (h : Nat) (p : Addr), ls[h]? = some p → H' p = some (.lst (rowV topM m h))) ⟨[], (L2.Same.refl _).new n_fo, rfl, upd_same, List.nodup_nil, (fun p hp => by cases hp), fun h p e => by cases e⟩ (fun _ _ _ _ => trivial) ?_ ?_
    · rintro j x H1 H1' hj ⟨ls, s1, l1, g1, nd1, al1, at1⟩ ⟨rfl, rfl⟩
      refine ⟨rfl, tYes_t (iteT ?_)⟩
      refine ⟨_, rfl, m, rfl, by omega, by omega, fun D2 nD2 => ?_⟩
      rw [show ((m : Int)).toNat = m by omega]
      refine comp_rg (K := K) (is := [6]) walk_range (fun _ => true) (fun o => .int (topM j o : Nat)) nD2 (by omega) ?_ ?_
      · intro o H'' Q'' N'' ho s'' hQ2 _
        refine ⟨rfl, tYes_t (iteT ?_)⟩
        refine ⟨_, rfl, _, rfl, rfl, .inr ⟨_, rfl, _, _, rfl, rfl, .inl ⟨by decide, by decide⟩, ?_⟩⟩
        refine hQ2 rfl H'' _ (L2.Same.refl _) ?_
        have e : (24 : Int) * (if (!decide (V.int (0 + (j : Int)) = V.int (0 + (o : Int)))) = true then 1 else 0) = ((topM j o : Nat) : Int) := by
          unfold topM
          by_cases c : j = o
          · subst c
            simp
          · have c' : ¬ V.int (0 + (j : Int)) = V.int (0 + (o : Int)) := fun z => by
              injection z with z
              omega
            rw [decide_eq_false c', if_neg c]
            rfl
        dsimp only
        rw [e]
        exact Rp.int
      · intro H2 ys s2 hD2 ry
        rw [filter_yes] at ry
        have ey : ys = rowV topM m j := by
          have := RpL.ints (K := K) (H := H2) (ns := (List.range m).map fun o => ((topM j o : Nat) : Int)) (ys := ys) (by rw [List.map_map]; exact ry)
          rw [this, List.map_map]
          rfl
        subst ey
        have npf : D2 ≠ fo := by walk_at "neq"
        refine ⟨_, s2 _ _ g1, Nat.lt_of_le_of_lt (by rw [List.length_map]; show ls.length ≤ 8; omega) (by decide), ls ++ [D2], (s1.trans s2).wrn n_fo, by rw [List.length_append, l1]; rfl, by rw [upd_same, List.map_append]; rfl, ?_, ?_, ?_⟩
        · refine List.nodup_append.mpr ⟨nd1, List.nodup_cons.mpr ⟨List.not_mem_nil, List.nodup_nil⟩, fun a ha b hb e => ?_⟩
          rw [List.mem_singleton.mp hb] at e
          obtain ⟨i, hi, ei⟩ := List.mem_iff_getElem.mp ha
          exact ne_of_none (at1 i a (by rw [List.getElem?_eq_getElem hi, ei])) nD2 e
        · intro q hq
          rcases List.mem_append.mp hq with hq | hq
          · exact al1 q hq
          · rw [List.mem_singleton.mp hq]
            exact ⟨n_same s1 nD2, npf⟩
        · intro h p e
          by_cases c : h < ls.length
          · rw [List.getElem?_append_left c] at e
            rw [upd_ne (al1 p (List.mem_of_getElem? e)).2]
            exact s2 _ _ (at1 h p e)
          · have c2 : h = ls.length := by
              have := (List.getElem?_eq_some_iff.mp e).1
              rw [List.length_append, List.length_singleton] at this
              omega
            subst c2
            rw [List.getElem?_append_right (Nat.le_refl _), Nat.sub_self] at e
            cases e
            rw [upd_ne npf, l1]
            exact hD2
    · rintro H1 ⟨ls, s1, l1, g1, nd1, al1, at1⟩
      have al : ∀ p ∈ ls, H p = none := fun p hp => (al1 p hp).1
      have M1 : MatAt H1 fo ls topM m := ⟨g1, l1, nd1, fun z => (al1 fo z).2 rfl, at1⟩
      clear g1 at1
      obtain ⟨xs, hxs, rx⟩ := hL.inv
      have lx := RpL.len _ _ rx
      rw [List.length_map] at lx
      refine ⟨_, rfl, _, xs.length, rfl, .inr ⟨_, SqT.sm hxs s1, rfl⟩, xs.length, rfl, by omega, by omega, ?_⟩
      rw [show ((xs.length : Int)).toNat = rs.length by omega]
      refine for_range (lo := 0) (fun i σ H' => ∃ v4 v5 v6 v7 v8 : Option V, σ = [some (.int m), some (.ref la), some (.ref ua), some (.ref fo), v4, v5, v6, v7, v8, none] ∧ Same H H' ∧ MatAt H' fo ls (initM ((rs.zip bs).take i)) m) ⟨_, _, _, _, _, rfl, s1, M1.congr fun x _ y _ => (init_nil x y).symm⟩ ?_ ?_
      · rintro i σ H2 hi ⟨v4, v5, v6, v7, v8, rfl, s2, M2⟩
        rw [show (0 : Int) + (i : Int) = (i : Int) by omega]
        have hib : i < bs.length := by omega
        obtain ⟨v, ev, rv⟩ := RpL.get _ _ rx i (rdD rs[i]) (by rw [List.getElem?_map, List.getElem?_eq_getElem hi]; rfl)
        obtain ⟨t, rfl, ht⟩ := Rp.rd (Rp.tk' rv (TK.of s2))
        have et : (rs.zip bs).take (i + 1) = (rs.zip bs).take i ++ [(rs[i], bs[i])] := by
          have hz : i < (rs.zip bs).length := by rw [List.length_zip]; omega
          rw [List.take_succ_eq_append_getElem hz, List.getElem_zip]
        have okr := R.ok _ (List.getElem_mem hi)
        have earlier : ∀ p ∈ (rs.zip bs).take i, p.1.a < p.1.b ∧ ¬ (p.1.a = rs[i].a ∧ p.1.b = rs[i].b) := fun p hp => by
          obtain ⟨j, hj, ej⟩ := List.mem_iff_getElem.mp hp
          rw [List.length_take, List.length_zip] at hj
          rw [List.getElem_take, List.getElem_zip] at ej
          subst ej
          have o := R.ok _ (List.getElem_mem (show j < rs.length by omega))
          have lt := (List.pairwise_iff_getElem.mp R.up) j i (by omega) hi (by omega)
          unfold RdOk at o
          unfold rdLt at lt
          refine ⟨o.1, fun z => ?_⟩
          dsimp only at z
          omega
        have eb : atI (bs.map V.bl) (i : Int) = some (.bl bs[i]) := atI_nat (by rw [List.getElem?_map, List.getElem?_eq_getElem hib]; rfl)
        rw [et]
        generalize rs[i] = r at ht okr earlier
        generalize bs[i] = b at eb
        unfold RdOk at okr
        refine ⟨_, rfl, _, rfl, la, _, _, _, rfl, rfl, SqT.sm hxs s2, atI_nat ev, t, _, rfl, ht, rfl, _, _, rfl, _, _, rfl, _, _, rfl, _, _, rfl, rfl, ?_⟩
        refine ⟨_, rfl, _, rfl, ua, _, _, _, rfl, rfl, SqL.sm' hU s2, eb, _, rfl, iteB (fun c => ?_) (fun c => ?_)⟩
        · subst c
          obtain ⟨pa, ea, ra, ha⟩ := M2.row (show r.a < m by omega)
          refine ⟨_, rfl, _, rfl, _, rfl, fo, _, _, _, rfl, rfl, SqL.of M2.l, ra, _, rfl, pa, _, _, _, rfl, rfl, ha, rowV_ix (show r.b < m by omega), ?_⟩
          have M3 := M2.set (v := r.delay) ea (show r.b < m by omega)
          have s3 := mat_wr (o := .lst ((rowV (initM ((rs.zip bs).take i)) m r.a).set r.b (.int (r.delay : Nat)))) s2 al (List.mem_of_getElem? ea)
          generalize upd H2 pa (.lst ((rowV (initM ((rs.zip bs).take i)) m r.a).set r.b (.int (r.delay : Nat)))) = H3 at M3 s3
          obtain ⟨pb, eb2, rb, hb⟩ := M3.row (show r.b < m by omega)
          refine ⟨_, rfl, _, rfl, _, rfl, fo, _, _, _, rfl, rfl, SqL.of M3.l, rb, _, rfl, pb, _, _, _, rfl, rfl, hb, rowV_ix (show r.a < m by omega), ?_⟩
          have M4 := M3.set (v := r.delay) eb2 (show r.a < m by omega)
          have s4 := mat_wr (o := .lst ((rowV (setM (initM ((rs.zip bs).take i)) r.a r.b r.delay) m r.b).set r.a (.int (r.delay : Nat)))) s3 al (List.mem_of_getElem? eb2)
          exact ⟨_, _, _, _, _, rfl, s4, M4.congr fun x _ y _ => (init_on ⟨by omega, by omega⟩ earlier x y).symm⟩
        · subst c
          exact ⟨_, _, _, _, _, rfl, s2, M2.congr fun x _ y _ => by rw [init_off]⟩
      · rintro σ H2 ⟨v4, v5, v6, v7, v8, rfl, s2, M2⟩
        have ez : (rs.zip bs).take rs.length = rs.zip bs := List.take_of_length_le (by rw [List.length_zip]; omega)
        rw [ez] at M2
        generalize rs.zip bs = zr at M2 k
        refine ⟨_, rfl, m, rfl, by omega, by omega, ?_⟩
        rw [show ((m : Int)).toNat = m by omega]
        refine for_range (lo := 0) (fun i σ H' => ∃ v4 v5 v6 : Option V, σ = [some (.int m), some (.ref la), some (.ref ua), some (.ref fo), v4, v5, v6, v7, v8, none] ∧ Same H H' ∧ MatAt H' fo ls (fwM zr i) m) ⟨_, _, _, rfl, s2, M2⟩ ?_ ?_
        · rintro q σ H3 hq ⟨v4, v5, v6, rfl, s3, M3⟩
          rw [show (0 : Int) + (q : Int) = (q : Int) by omega]
          have w0 : fwM zr q q q = 0 := fw_self q q
          show ∃ _, _
          generalize hW : fwM zr q = W at M3 w0
          refine ⟨_, rfl, m, rfl, by omega, by omega, ?_⟩
          rw [show ((m : Int)).toNat = m by omega]
          refine for_range (lo := 0) (fun i σ H' => ∃ v5 v6 : Option V, σ = [some (.int m), some (.ref la), some (.ref ua), some (.ref fo), some (.int q), v5, v6, v7, v8, none] ∧ Same H H' ∧ MatAt H' fo ls (fun x y => if x < i then viaM q W x y else W x y) m) ⟨_, _, rfl, s3, M3.congr fun x _ y _ => (if_neg (Nat.not_lt_zero _)).symm⟩ ?_ ?_
          · rintro a σ H4 ha ⟨v5, v6, rfl, s4, M4⟩
            rw [show (0 : Int) + (a : Int) = (a : Int) by omega]
            refine ⟨_, rfl, m, rfl, by omega, by omega, ?_⟩
            rw [show ((m : Int)).toNat = m by omega]
            refine for_range (lo := 0) (fun i σ H' => ∃ v6 : Option V, σ = [some (.int m), some (.ref la), some (.ref ua), some (.ref fo), some (.int q), some (.int a), v6, v7, v8, none] ∧ Same H H' ∧ MatAt H' fo ls (fun x y => if x < a ∨ (x = a ∧ y < i) then viaM q W x y else W x y) m) ⟨_, rfl, s4, M4.congr fun x _ y _ => ?_⟩ ?_ ?_
            · by_cases c : x < a
              · rw [if_pos c, if_pos (.inl c)]
              · rw [if_neg c, if_neg (by omega)]
            · rintro b σ H5 hb ⟨v6, rfl, s5, M5⟩
              rw [show (0 : Int) + (b : Int) = (b : Int) by omega]
              obtain ⟨pa, ea, ra, ga⟩ := M5.row ha
              obtain ⟨pq, eq, rq, gq⟩ := M5.row hq
              have e1 : atI (rowV (fun x y => if x < a ∨ (x = a ∧ y < b) then viaM q W x y else W x y) m a) (b : Int) = some (.int (W a b : Nat)) := by
                rw [rowV_at hb, if_neg (by omega)]
              have e2 : atI (rowV (fun x y => if x < a ∨ (x = a ∧ y < b) then viaM q W x y else W x y) m a) (q : Int) = some (.int (W a q : Nat)) := by
                rw [rowV_at hq]
                congr 2
                congr 1
                split
                · show min (W a q) (W a q + W q q) = W a q
                  omega
                · rfl
              have e3 : atI (rowV (fun x y => if x < a ∨ (x = a ∧ y < b) then viaM q W x y else W x y) m q) (b : Int) = some (.int (W q b : Nat)) := by
                rw [rowV_at hb]
                congr 2
                congr 1
                split
                · show min (W q b) (W q q + W q b) = W q b
                  omega
                · rfl
              refine ⟨_, rfl, _, rfl, fo, _, _, _, rfl, rfl, SqL.of M5.l, ra, _, rfl, pa, _, _, _, rfl, rfl, SqL.of ga, e1, _, rfl, _, rfl, fo, _, _, _, rfl, rfl, SqL.of M5.l, ra, _, rfl, pa, _, _, _, rfl, rfl, SqL.of ga, e2, _, rfl, _, rfl, fo, _, _, _, rfl, rfl, SqL.of M5.l, rq, _, rfl, pq, _, _, _, rfl, rfl, SqL.of gq, e3, _, _, rfl, rfl, _, _, rfl, ?_⟩
              have em : (if (W a q : Int) + (W q b : Int) < (W a b : Int) then (W a q : Int) + (W q b : Int) else (W a b : Int)) = ((viaM q W a b : Nat) : Int) := by
                show _ = ((min (W a b) (W a q + W q b) : Nat) : Int)
                split <;> omega
              dsimp only
              rw [em]
              refine ⟨_, rfl, _, rfl, fo, _, _, _, rfl, rfl, SqL.of M5.l, ra, _, rfl, pa, _, _, _, rfl, rfl, ga, rowV_ix hb, ?_⟩
              refine ⟨_, rfl, mat_wr s5 al (List.mem_of_getElem? ea), (M5.set (v := viaM q W a b) ea hb).congr fun x _ y _ => ?_⟩
              unfold setM
              dsimp only
              by_cases c : x = a ∧ y = b
              · rw [if_pos c, if_pos (by omega), c.1, c.2]
              · rw [if_neg c]
                by_cases c2 : x < a ∨ (x = a ∧ y < b)
                · rw [if_pos c2, if_pos (by omega)]
                · rw [if_neg c2, if_neg (by omega)]
            · rintro σ H5 ⟨v6, rfl, s5, M5⟩
              refine ⟨_, _, rfl, s5, M5.congr fun x _ y hy => ?_⟩
              by_cases c : x < a + 1
              · rw [if_pos c, if_pos (by omega)]
              · rw [if_neg c, if_neg (by omega)]
          · rintro σ H4 ⟨v5, v6, rfl, s4, M4⟩
            refine ⟨_, _, _, rfl, s4, M4.congr fun x hx y _ => ?_⟩
            rw [if_pos hx]
            show viaM q W x y = viaM q (fwM zr q) x y
            rw [hW]
        · rintro σ H3 ⟨v4, v5, v6, rfl, s3, M3⟩
          refine ⟨_, rfl, fo, rfl, ⟨_, SqL.of M3.l⟩, fun D nD => ?_⟩
          refine lc_it (walk_list (K := K) (a := fo) (xs := ls.map V.ref)) (fun j H' => ∃ ys : List V, Same H3 H' ∧ H' D = some (.lst ys) ∧ RpL K H' ((List.range j).map (rowD (fwM zr m) m)) ys) ⟨[], (L2.Same.refl _).new nD, upd_same, RpL.nil⟩ (fun j H' _ ⟨ys, s', _⟩ => SqL.of (s' _ _ M3.l)) ?_ ?_
          · rintro j x H4 H4' hj ⟨ys, s4, hD4, ry4⟩ ⟨rfl, hx⟩
            rw [List.length_map, M3.len] at hj
            obtain ⟨p, ep, rp, gp⟩ := M3.row hj
            rw [List.getElem?_map, ep] at hx
            cases hx
            refine ⟨rfl, tYes_t (iteT ?_)⟩
            refine ⟨_, rfl, p, _, rfl, .inl ⟨SqL.of (s4 _ _ gp), fun t n_t => ?_⟩⟩
            have e : rowV (fwM zr m) m j = ((List.range m).map fun o => (((fwM zr m) j o : Nat) : Int)).map V.int := by
              unfold rowV
              rw [List.map_map]
              rfl
            rw [e]
            obtain ⟨H5, e5, s5, h5⟩ := new_any (o := .tup (((List.range m).map fun o => (((fwM zr m) j o : Nat) : Int)).map V.int)) n_t
            rw [← e5]
            have r5 : Rp K H5 (rowD (fwM zr m) m j) (.ref t) := by
              rw [rowD_ints]
              exact Rp.tup h5 (rpl_ints _)
            have hD5 := s5 _ _ hD4
            have ly := RpL.len _ _ ry4
            rw [List.length_map, List.length_range] at ly
            refine ⟨ys, hD5, Nat.lt_of_le_of_lt (show ys.length ≤ 8 by omega) (by decide), ys ++ [.ref t], (s4.trans s5).wrn nD, upd_same, ?_⟩
            have tE : TK H5 (upd H5 D (.lst (ys ++ [.ref t]))) := (TK.refl _).wr hD5 rfl
            rw [List.range_succ, List.map_append]
            exact RpL.app (RpL.tk ((TK.of s5).trans tE) _ _ ry4) (RpL.cons (Rp.tk tE _ _ r5) RpL.nil)
          · rintro H4 ⟨ys, s4, hD4, ry4⟩
            rw [List.length_map, M3.len] at ry4
            refine ⟨D, ys, rfl, .inl ⟨SqL.of hD4, fun t n_t => ?_⟩⟩
            have ry4 : RpL K H4 (gridD (fwM zr m) m) ys := ry4
            generalize e_H5 : upd _ t _ = H5
            obtain ⟨s5, r5⟩ := new_tup (K := K) n_t e_H5 (by walk_at "rpl")
            clear e_H5
            exact k H5 t (s3.trans (s4.trans s5)) r5
end
end Wn

set_option maxHeartbeats 1000000
namespace Wn
open PySem L2
set_option pp.maxSteps 700
set_option pp.deepTerms false
local macro_rules | `(tactic| walk_at "h") => `(tactic| first | with_reducible assumption | (with_reducible exact upd_same) | (with_reducible apply g_upd; (walk_at "neq"); (walk_at "h")) | (with_reducible apply g_same; (with_reducible assumption); (walk_at "h")) | (with_reducible apply g_kp; (with_reducible assumption); (walk_at "nin"); (walk_at "h")) | (with_reducible apply g_tk; (with_reducible assumption); (walk_at "h")))
local macro_rules | `(tactic| walk_at "neq") => `(tactic| first | with_reducible assumption | (with_reducible apply Ne.symm; with_reducible assumption) | (with_reducible apply ne_upd; (with_reducible assumption)) | (with_reducible apply Ne.symm; with_reducible apply ne_upd; with_reducible assumption) | (with_reducible apply ne_fr; (with_reducible assumption); (walk_at "h")) | (with_reducible apply ne_fr'; (with_reducible assumption); (walk_at "h")) | (with_reducible apply ne_kd; (walk_at "h"); (walk_at "h"); (with_unfolding_all (intro z; cases z))))
local macro_rules | `(tactic| walk_at "nin") => `(tactic| first | (with_reducible exact nin0) | with_reducible assumption | (with_reducible apply ninc; (walk_at "neq"); (walk_at "nin")))
local macro_rules | `(tactic| walk_at "none") => `(tactic| first | with_reducible assumption | (with_reducible apply n_upd; (with_reducible assumption)) | (with_reducible apply n_same; (with_reducible assumption); (walk_at "none")) | (with_reducible apply n_kp; (with_reducible assumption); (walk_at "nin"); (walk_at "none")))
local macro_rules | `(tactic| walk_at "mem") => `(tactic| first | (with_reducible exact List.mem_cons_self) | (with_reducible apply List.mem_cons_of_mem; (walk_at "mem")))
local macro_rules | `(tactic| walk_at "am") => `(tactic| first | (with_reducible exact am0) | (with_reducible apply am1; (first | (apply Or.inl; walk_at "mem") | (apply Or.inr; walk_at "none")); (walk_at "am")))
local macro_rules | `(tactic| walk_at "tk") => `(tactic| first | (with_reducible exact TK.refl _) | with_reducible assumption | (with_reducible apply t_tk; (with_reducible assumption); (walk_at "tk")) | (with_reducible apply t_same; (with_reducible assumption); (walk_at "tk")) | (with_reducible apply t_new; (with_reducible assumption); (walk_at "tk")) | (with_reducible apply t_wr; (walk_at "h"); (with_unfolding_all rfl); (walk_at "tk")))
local macro_rules | `(tactic| walk_at "same") => `(tactic| first | (with_reducible exact L2.Same.refl _) | with_reducible assumption | (with_reducible apply s_same; (with_reducible assumption); (walk_at "same")) | (with_reducible apply s_new; (with_reducible assumption); (walk_at "same")) | (with_reducible apply s_wrn; (walk_at "none"); (walk_at "same")))
local macro_rules | `(tactic| walk_at "kp") => `(tactic| first | (with_reducible exact Kp.refl _ _) | with_reducible assumption | (with_reducible apply k_same; (with_reducible assumption); (walk_at "kp")) | (with_reducible apply k_kp; (with_reducible assumption); (walk_at "kp")) | (with_reducible apply k_kpm; (with_reducible assumption); (walk_at "am"); (walk_at "kp")) | (with_reducible apply k_new; (with_reducible assumption); (walk_at "kp")) | (with_reducible apply k_wr; (walk_at "mem"); (walk_at "kp")) | (with_reducible apply k_wrn; (walk_at "none"); (walk_at "kp")))
local macro_rules | `(tactic| walk_at "rp") => `(tactic| first | with_reducible assumption | (with_reducible exact Rp.int) | (with_reducible exact Rp.str) | (with_reducible exact Rp.none) | (with_reducible exact Rp.bool) | (with_reducible apply Rp.tk'; (with_reducible assumption); (walk_at "tk")) | (with_reducible apply Rp.tup; (walk_at "h"); (walk_at "rpl")))
local macro_rules | `(tactic| walk_at "rpl") => `(tactic| first | with_reducible assumption | (with_reducible exact RpL.nil) | (with_reducible apply RpL.tk'; (with_reducible assumption); (walk_at "tk")) | (with_reducible apply RpL.cons; (walk_at "rp"); (walk_at "rpl")))
local macro_rules | `(tactic| walk_at "g") => `(tactic| repeat (first | refine ⟨_, rfl, ?_⟩ | refine ⟨_, _, rfl, rfl, ?_⟩ | refine ⟨rfl, _, rfl, ?_⟩ | refine ⟨_, _, rfl, rfl, (by first | decide | omega), ?_⟩))
abbrev sTurned : Stmt := top 18
theorem minL_snoc : ∀ (l : List Nat) (x : Nat), minL (l ++ [x]) = min (minL l) x
  | [], x => by
    show min x 24 = min 24 x
    omega
  | y :: l, x => by
    show min y (minL (l ++ [x])) = min (min y (minL l)) x
    rw [minL_snoc l x]
    omega
theorem turn_nil (X : Mx) (h o : Nat) : turn [] X h o = topM h o := by
  unfold turn topM
  by_cases c : o = h
  · rw [if_pos c, if_pos c.symm]
  · rw [if_neg c, if_neg (fun z => c z.symm)]
    rfl
theorem turn_off (zr : List (Rd × Bool)) (r : Rd) (X : Mx) : turn (zr ++ [(r, false)]) X = turn zr X := by
  funext h o
  unfold turn
  rw [near_snoc]
  show (if o = h then 0 else minL ((nearOf zr h ++ []).map _)) = _
  rw [List.append_nil]
theorem turn_on {zr : List (Rd × Bool)} {r : Rd} (nab : r.a ≠ r.b) (X : Mx) (h o : Nat) : turn (zr ++ [(r, true)]) X h o = if o = h then 0 else if h = r.a then min (turn zr X h o) (r.delay + X r.b o) else if h = r.b then min (turn zr X h o) (r.delay + X r.a o) else turn zr X h o := by
  unfold turn
  by_cases c : o = h
  · rw [if_pos c, if_pos c]
  · rw [if_neg c, if_neg c, if_neg c, near_snoc, List.map_append]
    unfold near1
    by_cases c1 : h = r.a
    · subst c1
      simp only [if_true, if_neg nab.symm, List.append_nil, List.map_cons, List.map_nil]
      rw [minL_snoc]
    · by_cases c2 : h = r.b
      · subst c2
        simp only [if_true, if_neg nab, if_neg (Ne.symm nab), List.nil_append, List.map_cons, List.map_nil]
        rw [minL_snoc]
      · simp only [if_true, if_neg c1, if_neg c2, if_neg (fun z : r.a = h => c1 z.symm), if_neg (fun z : r.b = h => c2 z.symm), List.append_nil, List.map_nil]
def spTurned (K : PySem.W.Frag) : Sp := fun vs H Q _ => ∃ (m : Nat) (rs : List Rd) (bs : List Bool) (X : Mx) (la ua ga : Addr), vs = [.int m, .ref la, .ref ua, .ref ga] ∧ TupAt K H la (rs.map rdD) ∧ SqL K H ua (bs.map V.bl) ∧ TupAt K H ga (gridD X m) ∧ bs.length = rs.length ∧ RdsOk m rs ∧
  ∀ (H' : Hp) (a : Addr), Same H H' → TupAt K H' a (gridD (turn (rs.zip bs) X) m) → Q (.ref a) H'

section
variable {P : Program} {w : World} {K : PySem.W.Frag} {mg : Str → Option Value} {base : Heap}
theorem scTurned : FnScope ["_law_houses", "_law_roads_here", "_law_up", "_law_fars", "_law_rows", "_law_at", "_law_a", "_law_b", "_law_delay", "_law_size", "_law_k", "_law_row"] ["_law_houses", "_law_roads_here", "_law_up", "_law_fars"] (defScope sTurned) := ⟨rfl, rfl, rfl, by decide +kernel, rfl, by decide +kernel, by decide +kernel⟩
theorem ok_turned {f : Addr} {fd : FuncData} (F : Fun K "_law_turned" "_law_turned" sTurned f fd) (B : SB mg) : FnOk P w K mg base CX0 1 f fd ["_law_houses", "_law_roads_here", "_law_up", "_law_fars"] (spTurned K) := by
  refine F.ok scTurned (fun vs H Q E h => ?_) (fun cdv A outer s H vs Q E hr h => ?_)
  · obtain ⟨m, rs, bs, X, la, ua, ga, rfl, _⟩ := h
    rfl
  · obtain ⟨m, rs, bs, X, la, ua, ga, rfl, hL, hU, hG, lb, R, k⟩ := h
    refine ⟨_, (pss_cons (ps_setLc (i := 4) (own := [("_law_a", 6)]) (g := (gName 6)) (tt := tYes) rfl scTurned.nd rfl rfl (sw_true rfl rfl rfl (by decide +kernel)) (pi_range1 rfl B.range (pa_cons (pv 0) pa_nil)) (blkOk_by (N := ["_law_houses", "_law_roads_here", "_law_up", "_law_fars", "_law_rows", "_law_at", "_law_a", "_law_b", "_law_delay", "_law_size", "_law_k", "_law_row"]) (sc := defScope sTurned) (by decide +kernel))
       (fun _ _ _ _ _ => (pg_name (i := 6) scTurned.nd rfl (Or.inr rfl))) (fun _ _ _ _ _ => pts_nil) (fun _ _ _ _ _ => (pe_lc (own := [("_law_b", 7)]) (g := (gName 7)) (tt := tYes) rfl scTurned.nd (pi_range1 rfl B.range (pa_cons (pv 0) pa_nil)) (blkOk_by (by kernel_rfl))
       (fun _ _ _ _ _ => (pg_name (i := 7) scTurned.nd rfl (Or.inl rfl))) (fun _ _ _ _ _ => pts_nil) (fun _ _ _ _ _ => (pe_op op_mul pe_int (pe_callTy call_int1 (by rfl) B.int PyProof.Rows.boot_int (pa_cons (pe_cmpR op_ne (pv 6) (pv 7) (nomark _)) pa_nil)))))))
       (pss_cons (ps_for PassesOwn.never rfl (pi_range1 rfl B.range (pa_cons (pe_callB (lenK (K := K) rfl) (by rfl) B.len PySem.boot_len (pa_cons (pv 1) pa_nil)) pa_nil)) (pg_name (i := 5) scTurned.nd rfl (Or.inl rfl))
       (pss_cons (ps_asg (pe_ix (ixT (K := K) rfl) (pv 1) (pv 5) (fun _ _ => rfl)) (pg_tup rfl (pgs_cons (pg_name (i := 6) scTurned.nd rfl (Or.inl rfl)) (pgs_cons (pg_name (i := 7) scTurned.nd rfl (Or.inl rfl)) (pgs_cons (pg_name (i := 8) scTurned.nd rfl (Or.inl rfl)) (pgs_cons (pg_name (i := 9) scTurned.nd rfl (Or.inl rfl)) pgs_nil))))))
       (pss_one (ps_for PassesOwn.never rfl (pi_range1 rfl B.range (pa_cons (pe_op op_mul (pv 0) (pe_callTy call_int1 (by rfl) B.int PyProof.Rows.boot_int (pa_cons (pe_ix (ixL (K := K) rfl) (pv 2) (pv 5) (fun _ _ => rfl)) pa_nil))) pa_nil)) (pg_name (i := 10) scTurned.nd rfl (Or.inl rfl))
       (pss_cons (ps_if (pt_cmpR op_ne (pv 10) (pv 6) (nomark _))
       (pss_one (ps_asg (pe_callB (call_min2 rfl) (by rfl) B.min (by decide +kernel) (pa_cons (pe_ix (ixL (K := K) rfl) (pe_ix (ixL (K := K) rfl) (pv 4) (pv 6) (fun _ _ => rfl)) (pv 10) (fun _ _ => rfl)) (pa_cons (pe_op op_add (pv 8) (pe_ix (ixT (K := K) rfl) (pe_ix (ixT (K := K) rfl) (pv 3) (pv 7) (fun _ _ => rfl)) (pv 10) (fun _ _ => rfl))) pa_nil))) (pg_sub (pe_ix (ixL (K := K) rfl) (pv 4) (pv 6) (fun _ _ => rfl)) (pv 10) set_list)))
       pss_nil)
       (pss_one (ps_if (pt_cmpR op_ne (pv 10) (pv 7) (nomark _))
       (pss_one (ps_asg (pe_callB (call_min2 rfl) (by rfl) B.min (by decide +kernel) (pa_cons (pe_ix (ixL (K := K) rfl) (pe_ix (ixL (K := K) rfl) (pv 4) (pv 7) (fun _ _ => rfl)) (pv 10) (fun _ _ => rfl)) (pa_cons (pe_op op_add (pv 8) (pe_ix (ixT (K := K) rfl) (pe_ix (ixT (K := K) rfl) (pv 3) (pv 6) (fun _ _ => rfl)) (pv 10) (fun _ _ => rfl))) pa_nil))) (pg_sub (pe_ix (ixL (K := K) rfl) (pv 4) (pv 7) (fun _ _ => rfl)) (pv 10) set_list)))
       pss_nil)))))))
       (pss_one (ps_ret (pe_callTy (tupOfK (K := K) rfl) (by rfl) B.tuple PyProof.Rows.boot_tuple (pa_cons (pe_lc (own := [("_law_row", 11)]) (g := (gName 11)) (tt := tYes) rfl scTurned.nd (pi_list (pv 4)) (blkOk_by (N := ["_law_houses", "_law_roads_here", "_law_up", "_law_fars", "_law_rows", "_law_at", "_law_a", "_law_b", "_law_delay", "_law_size", "_law_k", "_law_row"]) (sc := defScope sTurned) (by decide +kernel))
       (fun _ _ _ _ _ => (pg_name (i := 11) scTurned.nd rfl (Or.inl rfl))) (fun _ _ _ _ _ => pts_nil) (fun _ _ _ _ _ => (pe_callTy (tupOfK (K := K) rfl) (by rfl) B.tuple PyProof.Rows.boot_tuple (pa_cons (pv 11) pa_nil)))) pa_nil)))))), ?_⟩
    have m8 := R.m8
    have lr := R.few
    refine ⟨_, rfl, m, rfl, by omega, by omega, fun fo n_fo => ?_⟩
    rw [show ((m : Int)).toNat = m by omega]
    refine lc_it walk_range (fun j H' => ∃ ls : List Addr, Same H H' ∧ ls.length = j ∧ H' fo = some (.lst (ls.map V.ref)) ∧ ls.Nodup ∧ (∀ p ∈ ls, H p = none ∧ p ≠ fo) ∧ ∀ (h : Nat) (p : Addr), ls[h]? = some p → H' p = some (.lst (rowV topM m h))) ⟨[], (L2.Same.refl _).new n_fo, rfl, upd_same, List.nodup_nil, (fun p hp => by cases hp), fun h p e => by cases e⟩ (fun _ _ _ _ => trivial) ?_ ?_
    · rintro j x H1 H1' hj ⟨ls, s1, l1, g1, nd1, al1, at1⟩ ⟨rfl, rfl⟩
      refine ⟨rfl, tYes_t (iteT ?_)⟩
      refine ⟨_, rfl, m, rfl, by omega, by omega, fun D2 nD2 => ?_⟩
      rw [show ((m : Int)).toNat = m by omega]
      refine comp_rg (K := K) (is := [7]) walk_range (fun _ => true) (fun o => .int (topM j o : Nat)) nD2 (by omega) ?_ ?_
      · intro o H'' Q'' N'' ho s'' hQ2 _
        refine ⟨rfl, tYes_t (iteT ?_)⟩
        refine ⟨_, rfl, _, rfl, rfl, .inr ⟨_, rfl, _, _, rfl, rfl, .inl ⟨by decide, by decide⟩, ?_⟩⟩
        refine hQ2 rfl H'' _ (L2.Same.refl _) ?_
        have e : (24 : Int) * (if (!decide (V.int (0 + (j : Int)) = V.int (0 + (o : Int)))) = true then 1 else 0) = ((topM j o : Nat) : Int) := by
          unfold topM
          by_cases c : j = o
          · subst c
            simp
          · have c' : ¬ V.int (0 + (j : Int)) = V.int (0 + (o : Int)) := fun z => by
              injection z with z
              omega
            rw [decide_eq_false c', if_neg c]
            rfl
        dsimp only
        rw [e]
        exact Rp.int
      · intro H2 ys s2 hD2 ry
        rw [filter_yes] at ry
        have ey : ys = rowV topM m j := by
          have := RpL.ints (K := K) (H := H2) (ns := (List.range m).map fun o => ((topM j o : Nat) : Int)) (ys := ys) (by rw [List.map_map]; exact ry)
          rw [this, List.map_map]
          rfl
        subst ey
        have npf : D2 ≠ fo := by walk_at "neq"
        refine ⟨_, s2 _ _ g1, Nat.lt_of_le_of_lt (by rw [List.length_map]; show ls.length ≤ 8; omega) (by decide), ls ++ [D2], (s1.trans s2).wrn n_fo, by rw [List.length_append, l1]; rfl, by rw [upd_same, List.map_append]; rfl, ?_, ?_, ?_⟩
        · refine List.nodup_append.mpr ⟨nd1, List.nodup_cons.mpr ⟨List.not_mem_nil, List.nodup_nil⟩, fun a ha b hb e => ?_⟩
          rw [List.mem_singleton.mp hb] at e
          obtain ⟨i, hi, ei⟩ := List.mem_iff_getElem.mp ha
          exact ne_of_none (at1 i a (by rw [List.getElem?_eq_getElem hi, ei])) nD2 e
        · intro q hq
          rcases List.mem_append.mp hq with hq | hq
          · exact al1 q hq
          · rw [List.mem_singleton.mp hq]
            exact ⟨n_same s1 nD2, npf⟩
        · intro h p e
          by_cases c : h < ls.length
          · rw [List.getElem?_append_left c] at e
            rw [upd_ne (al1 p (List.mem_of_getElem? e)).2]
            exact s2 _ _ (at1 h p e)
          · have c2 : h = ls.length := by
              have := (List.getElem?_eq_some_iff.mp e).1
              rw [List.length_append, List.length_singleton] at this
              omega
            subst c2
            rw [List.getElem?_append_right (Nat.le_refl _), Nat.sub_self] at e
            cases e
            rw [upd_ne npf, l1]
            exact hD2
    · rintro H1 ⟨ls, s1, l1, g1, nd1, al1, at1⟩
      have al : ∀ p ∈ ls, H p = none := fun p hp => (al1 p hp).1
      have M1 : MatAt H1 fo ls topM m := ⟨g1, l1, nd1, fun z => (al1 fo z).2 rfl, at1⟩
      clear g1 at1
      obtain ⟨xs, hxs, rx⟩ := hL.inv
      have lx := RpL.len _ _ rx
      rw [List.length_map] at lx
      obtain ⟨gs, hgs, lgs, rows⟩ := grid_row hG
      refine ⟨_, rfl, _, xs.length, rfl, .inr ⟨_, SqT.sm hxs s1, rfl⟩, xs.length, rfl, by omega, by omega, ?_⟩
      rw [show ((xs.length : Int)).toNat = rs.length by omega]
      refine for_range (lo := 0) (fun i σ H' => ∃ v5 v6 v7 v8 v9 v10 : Option V, σ = [some (.int m), some (.ref la), some (.ref ua), some (.ref ga), some (.ref fo), v5, v6, v7, v8, v9, v10, none] ∧ Same H H' ∧ MatAt H' fo ls (turn ((rs.zip bs).take i) X) m) ⟨_, _, _, _, _, _, rfl, s1, M1.congr fun x _ y _ => (turn_nil X x y).symm⟩ ?_ ?_
      · rintro i σ H2 hi ⟨v5, v6, v7, v8, v9, v10, rfl, s2, M2⟩
        rw [show (0 : Int) + (i : Int) = (i : Int) by omega]
        have hib : i < bs.length := by omega
        obtain ⟨v, ev, rv⟩ := RpL.get _ _ rx i (rdD rs[i]) (by rw [List.getElem?_map, List.getElem?_eq_getElem hi]; rfl)
        obtain ⟨t, rfl, ht⟩ := Rp.rd (Rp.tk' rv (TK.of s2))
        have et : (rs.zip bs).take (i + 1) = (rs.zip bs).take i ++ [(rs[i], bs[i])] := by
          have hz : i < (rs.zip bs).length := by rw [List.length_zip]; omega
          rw [List.take_succ_eq_append_getElem hz, List.getElem_zip]
        have okr := R.ok _ (List.getElem_mem hi)
        have eb : atI (bs.map V.bl) (i : Int) = some (.bl bs[i]) := atI_nat (by rw [List.getElem?_map, List.getElem?_eq_getElem hib]; rfl)
        rw [et]
        generalize rs[i] = r at ht okr
        generalize bs[i] = b at eb
        generalize (rs.zip bs).take i = zr at M2
        unfold RdOk at okr
        have nab : r.a ≠ r.b := by omega
        refine ⟨_, rfl, _, rfl, la, _, _, _, rfl, rfl, SqT.sm hxs s2, atI_nat ev, t, _, rfl, ht, rfl, _, _, rfl, _, _, rfl, _, _, rfl, _, _, rfl, rfl, ?_⟩
        refine ⟨_, rfl, _, rfl, _, rfl, ua, _, _, _, rfl, rfl, SqL.sm' hU s2, eb, .inr ⟨_, rfl, _, _, rfl, rfl, .inl ⟨by omega, by omega⟩, (m * (if b then 1 else 0) : Nat), ?_, by split <;> omega, by split <;> omega, ?_⟩⟩
        · cases b with
          | true => show [V.int ((m : Int) * 1)] = [V.int ((m * 1 : Nat) : Int)]; congr 2
          | false => show [V.int ((m : Int) * 0)] = [V.int ((m * 0 : Nat) : Int)]; congr 2
        cases b with
        | false =>
          rw [show (((m * (if false then 1 else 0) : Nat) : Int)).toNat = 0 by simp]
          refine for_range (lo := 0) (fun q σ H' => ∃ v10 : Option V, σ = [some (.int m), some (.ref la), some (.ref ua), some (.ref ga), some (.ref fo), some (.int i), some (.int r.a), some (.int r.b), some (.int r.delay), some (.int r.size), v10, none] ∧ Same H H' ∧ MatAt H' fo ls (turn zr X) m) ⟨_, rfl, s2, M2⟩ (fun q σ H' hq => absurd hq (Nat.not_lt_zero _)) ?_
          rintro σ H3 ⟨v10, rfl, s3, M3⟩
          exact ⟨_, _, _, _, _, _, rfl, s3, M3.congr fun x _ y _ => by rw [turn_off]⟩
        | true =>
          rw [show (((m * (if true then 1 else 0) : Nat) : Int)).toNat = m by simp]
          refine for_range (lo := 0) (fun q σ H' => ∃ v10 : Option V, σ = [some (.int m), some (.ref la), some (.ref ua), some (.ref ga), some (.ref fo), some (.int i), some (.int r.a), some (.int r.b), some (.int r.delay), some (.int r.size), v10, none] ∧ Same H H' ∧ MatAt H' fo ls (fun x y => if y < q then turn (zr ++ [(r, true)]) X x y else turn zr X x y) m) ⟨_, rfl, s2, M2.congr fun x _ y _ => (if_neg (Nat.not_lt_zero _)).symm⟩ ?_ ?_
          · rintro q σ H3 hq ⟨v10, rfl, s3, M3⟩
            rw [show (0 : Int) + (q : Int) = (q : Int) by omega]
            have ta : r.a < m := by omega
            have tb : r.b < m := by omega
            obtain ⟨ua', eua, hua⟩ := rows r.a ta
            obtain ⟨ub', eub, hub⟩ := rows r.b tb
            dsimp only [gName, List.set, tNext]
            refine seq_if (fun σ' H' => σ' = [some (.int m), some (.ref la), some (.ref ua), some (.ref ga), some (.ref fo), some (.int i), some (.int r.a), some (.int r.b), some (.int r.delay), some (.int r.size), some (.int q), none] ∧ Same H H' ∧ MatAt H' fo ls (fun x y => if y < q ∨ (x = r.a ∧ y = q) then turn (zr ++ [(r, true)]) X x y else turn zr X x y) m) ?rest (fun rest => ?_)
            case rest =>
              rintro σ' H4 ⟨rfl, s4, M4⟩
              refine ⟨_, rfl, _, rfl, rfl, _, rfl, iteNI (fun c => ?_) (fun c => ?_)⟩
              · have c : q ≠ r.b := fun z => c (by rw [z])
                obtain ⟨pb, epb, rpb, gpb⟩ := M4.row tb
                have e1 : atI (rowV (fun x y => if y < q ∨ (x = r.a ∧ y = q) then turn (zr ++ [(r, true)]) X x y else turn zr X x y) m r.b) (q : Int) = some (.int (turn zr X r.b q : Nat)) := by
                  rw [rowV_at hq, if_neg (by omega)]
                refine ⟨_, rfl, _, rfl, fo, _, _, _, rfl, rfl, SqL.of M4.l, rpb, _, rfl, pb, _, _, _, rfl, rfl, SqL.of gpb, e1, _, rfl, _, rfl, _, rfl, ga, _, _, _, rfl, rfl, SqT.sm hgs s4, atI_nat eua, _, rfl, ua', _, _, _, rfl, rfl, SqT.sm hua s4, row_at hq, _, _, rfl, rfl, _, _, rfl, ?_⟩
                have em : (if (r.delay : Int) + (X r.a q : Int) < (turn zr X r.b q : Int) then (r.delay : Int) + (X r.a q : Int) else (turn zr X r.b q : Int)) = ((turn (zr ++ [(r, true)]) X r.b q : Nat) : Int) := by
                  rw [turn_on nab, if_neg c, if_neg nab.symm, if_pos rfl]
                  split <;> omega
                dsimp only
                rw [em]
                refine ⟨_, rfl, _, rfl, fo, _, _, _, rfl, rfl, SqL.of M4.l, rpb, _, rfl, pb, _, _, _, rfl, rfl, gpb, rowV_ix hq, ?_⟩
                refine ⟨_, rfl, mat_wr s4 al (List.mem_of_getElem? epb), (M4.set (v := turn (zr ++ [(r, true)]) X r.b q) epb hq).congr fun x _ y _ => ?_⟩
                unfold setM
                dsimp only
                by_cases c1 : x = r.b ∧ y = q
                · rw [if_pos c1, if_pos (by omega), c1.1, c1.2]
                · rw [if_neg c1]
                  by_cases c2 : y < q ∨ (x = r.a ∧ y = q)
                  · rw [if_pos c2, if_pos (by omega)]
                  · rw [if_neg c2]
                    by_cases c3 : y < q + 1
                    · rw [if_pos c3, turn_on nab]
                      by_cases c4 : y = x
                      · rw [if_pos c4]
                        unfold turn
                        rw [if_pos c4]
                      · rw [if_neg c4, if_neg (by omega), if_neg (by omega)]
                    · rw [if_neg c3]
              · have c : q = r.b := by omega
                refine ⟨_, rfl, s4, M4.congr fun x _ y _ => ?_⟩
                by_cases c2 : y < q ∨ (x = r.a ∧ y = q)
                · rw [if_pos c2, if_pos (by omega)]
                · rw [if_neg c2]
                  by_cases c3 : y < q + 1
                  · rw [if_pos c3, turn_on nab]
                    by_cases c4 : y = x
                    · rw [if_pos c4]
                      unfold turn
                      rw [if_pos c4]
                    · rw [if_neg c4, if_neg (by omega), if_neg (by omega)]
                  · rw [if_neg c3]
            refine ⟨_, rfl, _, rfl, rfl, _, rfl, iteNI (fun c => ?_) (fun c => ?_)⟩
            · have c : q ≠ r.a := fun z => c (by rw [z])
              obtain ⟨pa, epa, rpa, gpa⟩ := M3.row ta
              have e1 : atI (rowV (fun x y => if y < q then turn (zr ++ [(r, true)]) X x y else turn zr X x y) m r.a) (q : Int) = some (.int (turn zr X r.a q : Nat)) := by
                rw [rowV_at hq, if_neg (by omega)]
              refine ⟨_, rfl, _, rfl, fo, _, _, _, rfl, rfl, SqL.of M3.l, rpa, _, rfl, pa, _, _, _, rfl, rfl, SqL.of gpa, e1, _, rfl, _, rfl, _, rfl, ga, _, _, _, rfl, rfl, SqT.sm hgs s3, atI_nat eub, _, rfl, ub', _, _, _, rfl, rfl, SqT.sm hub s3, row_at hq, _, _, rfl, rfl, _, _, rfl, ?_⟩
              have em : (if (r.delay : Int) + (X r.b q : Int) < (turn zr X r.a q : Int) then (r.delay : Int) + (X r.b q : Int) else (turn zr X r.a q : Int)) = ((turn (zr ++ [(r, true)]) X r.a q : Nat) : Int) := by
                rw [turn_on nab, if_neg c, if_pos rfl]
                split <;> omega
              dsimp only
              rw [em]
              refine ⟨_, rfl, _, rfl, fo, _, _, _, rfl, rfl, SqL.of M3.l, rpa, _, rfl, pa, _, _, _, rfl, rfl, gpa, rowV_ix hq, ?_⟩
              refine rest _ _ ⟨rfl, mat_wr s3 al (List.mem_of_getElem? epa), (M3.set (v := turn (zr ++ [(r, true)]) X r.a q) epa hq).congr fun x _ y _ => ?_⟩
              unfold setM
              dsimp only
              by_cases c1 : x = r.a ∧ y = q
              · rw [if_pos c1, if_pos (.inr c1), c1.1, c1.2]
              · rw [if_neg c1]
                by_cases c2 : y < q
                · rw [if_pos c2, if_pos (.inl c2)]
                · rw [if_neg c2, if_neg (by omega)]
            · have c : q = r.a := by omega
              refine rest _ _ ⟨rfl, s3, M3.congr fun x _ y _ => ?_⟩
              by_cases c2 : y < q
              · rw [if_pos c2, if_pos (.inl c2)]
              · rw [if_neg c2]
                by_cases c3 : x = r.a ∧ y = q
                · rw [if_pos (.inr c3), turn_on nab, if_pos (by omega)]
                  unfold turn
                  rw [if_pos (by omega)]
                · rw [if_neg (by omega)]
          · rintro σ H3 ⟨v10, rfl, s3, M3⟩
            exact ⟨_, _, _, _, _, _, rfl, s3, M3.congr fun x _ y hy => by rw [if_pos hy]⟩
      · rintro σ H3 ⟨v5, v6, v7, v8, v9, v10, rfl, s3, M3⟩
        have ez : (rs.zip bs).take rs.length = rs.zip bs := List.take_of_length_le (by rw [List.length_zip]; omega)
        rw [ez] at M3
        generalize rs.zip bs = zr at M3 k
        refine ⟨_, rfl, fo, rfl, ⟨_, SqL.of M3.l⟩, fun D nD => ?_⟩
        refine lc_it (walk_list (K := K) (a := fo) (xs := ls.map V.ref)) (fun j H' => ∃ ys : List V, Same H3 H' ∧ H' D = some (.lst ys) ∧ RpL K H' ((List.range j).map (rowD (turn zr X) m)) ys) ⟨[], (L2.Same.refl _).new nD, upd_same, RpL.nil⟩ (fun j H' _ ⟨ys, s', _⟩ => SqL.of (s' _ _ M3.l)) ?_ ?_
        · rintro j x H4 H4' hj ⟨ys, s4, hD4, ry4⟩ ⟨rfl, hx⟩
          rw [List.length_map, M3.len] at hj
          obtain ⟨p, ep, rp, gp⟩ := M3.row hj
          rw [List.getElem?_map, ep] at hx
          cases hx
          refine ⟨rfl, tYes_t (iteT ?_)⟩
          refine ⟨_, rfl, p, _, rfl, .inl ⟨SqL.of (s4 _ _ gp), fun t n_t => ?_⟩⟩
          have e : rowV (turn zr X) m j = ((List.range m).map fun o => (((turn zr X) j o : Nat) : Int)).map V.int := by
            unfold rowV
            rw [List.map_map]
            rfl
          rw [e]
          obtain ⟨H5, e5, s5, h5⟩ := new_any (o := .tup (((List.range m).map fun o => (((turn zr X) j o : Nat) : Int)).map V.int)) n_t
          rw [← e5]
          have r5 : Rp K H5 (rowD (turn zr X) m j) (.ref t) := by
            rw [rowD_ints]
            exact Rp.tup h5 (rpl_ints _)
          have hD5 := s5 _ _ hD4
          have ly := RpL.len _ _ ry4
          rw [List.length_map, List.length_range] at ly
          refine ⟨ys, hD5, Nat.lt_of_le_of_lt (show ys.length ≤ 8 by omega) (by decide), ys ++ [.ref t], (s4.trans s5).wrn nD, upd_same, ?_⟩
          have tE : TK H5 (upd H5 D (.lst (ys ++ [.ref t]))) := (TK.refl _).wr hD5 rfl
          rw [List.range_succ, List.map_append]
          exact RpL.app (RpL.tk ((TK.of s5).trans tE) _ _ ry4) (RpL.cons (Rp.tk tE _ _ r5) RpL.nil)
        · rintro H4 ⟨ys, s4, hD4, ry4⟩
          rw [List.length_map, M3.len] at ry4
          refine ⟨D, ys, rfl, .inl ⟨SqL.of hD4, fun t n_t => ?_⟩⟩
          have ry4 : RpL K H4 (gridD (turn zr X) m) ys := ry4
          generalize e_H5 : upd _ t _ = H5
          obtain ⟨s5, r5⟩ := new_tup (K := K) n_t e_H5 (by walk_at "rpl")
          clear e_H5
          exact k H5 t (s3.trans (s4.trans s5)) r5
end
end Wn

set_option maxHeartbeats 800000
namespace Wn
open PySem L2
set_option pp.maxSteps 700
set_option pp.deepTerms false
local macro_rules | `(tactic| walk_at "h") => `(tactic| first | with_reducible assumption | (with_reducible exact upd_same) | (with_reducible apply g_upd; (walk_at "neq"); (walk_at "h")) | (with_reducible apply g_same; (with_reducible assumption); (walk_at "h")) | (with_reducible apply g_kp; (with_reducible assumption); (walk_at "nin"); (walk_at "h")) | (with_reducible apply g_tk; (with_reducible assumption); (walk_at "h")))
local macro_rules | `(tactic| walk_at "neq") => `(tactic| first | with_reducible assumption | (with_reducible apply Ne.symm; with_reducible assumption) | (with_reducible apply ne_upd; (with_reducible assumption)) | (with_reducible apply Ne.symm; with_reducible apply ne_upd; with_reducible assumption) | (with_reducible apply ne_fr; (with_reducible assumption); (walk_at "h")) | (with_reducible apply ne_fr'; (with_reducible assumption); (walk_at "h")) | (with_reducible apply ne_kd; (walk_at "h"); (walk_at "h"); (with_unfolding_all (intro z; cases z))))
local macro_rules | `(tactic| walk_at "nin") => `(tactic| first | (with_reducible exact nin0) | with_reducible assumption | (with_reducible apply ninc; (walk_at "neq"); (walk_at "nin")))
local macro_rules | `(tactic| walk_at "none") => `(tactic| first | with_reducible assumption | (with_reducible apply n_upd; (with_reducible assumption)) | (with_reducible apply n_same; (with_reducible assumption); (walk_at "none")) | (with_reducible apply n_kp; (with_reducible assumption); (walk_at "nin"); (walk_at "none")))
local macro_rules | `(tactic| walk_at "mem") => `(tactic| first | (with_reducible exact List.mem_cons_self) | (with_reducible apply List.mem_cons_of_mem; (walk_at "mem")))
local macro_rules | `(tactic| walk_at "am") => `(tactic| first | (with_reducible exact am0) | (with_reducible apply am1; (first | (apply Or.inl; walk_at "mem") | (apply Or.inr; walk_at "none")); (walk_at "am")))
local macro_rules | `(tactic| walk_at "tk") => `(tactic| first | (with_reducible exact TK.refl _) | with_reducible assumption | (with_reducible apply t_tk; (with_reducible assumption); (walk_at "tk")) | (with_reducible apply t_same; (with_reducible assumption); (walk_at "tk")) | (with_reducible apply t_new; (with_reducible assumption); (walk_at "tk")) | (with_reducible apply t_wr; (walk_at "h"); (with_unfolding_all rfl); (walk_at "tk")))
local macro_rules | `(tactic| walk_at "same") => `(tactic| first | (with_reducible exact L2.Same.refl _) | with_reducible assumption | (with_reducible apply s_same; (with_reducible assumption); (walk_at "same")) | (with_reducible apply s_new; (with_reducible assumption); (walk_at "same")) | (with_reducible apply s_wrn; (walk_at "none"); (walk_at "same")))
local macro_rules | `(tactic| walk_at "kp") => `(tactic| first | (with_reducible exact Kp.refl _ _) | with_reducible assumption | (with_reducible apply k_same; (with_reducible assumption); (walk_at "kp")) | (with_reducible apply k_kp; (with_reducible assumption); (walk_at "kp")) | (with_reducible apply k_kpm; (with_reducible assumption); (walk_at "am"); (walk_at "kp")) | (with_reducible apply k_new; (with_reducible assumption); (walk_at "kp")) | (with_reducible apply k_wr; (walk_at "mem"); (walk_at "kp")) | (with_reducible apply k_wrn; (walk_at "none"); (walk_at "kp")))
local macro_rules | `(tactic| walk_at "rp") => `(tactic| first | with_reducible assumption | (with_reducible exact Rp.int) | (with_reducible exact Rp.str) | (with_reducible exact Rp.none) | (with_reducible exact Rp.bool) | (with_reducible apply Rp.tk'; (with_reducible assumption); (walk_at "tk")) | (with_reducible apply Rp.tup; (walk_at "h"); (walk_at "rpl")))
local macro_rules | `(tactic| walk_at "rpl") => `(tactic| first | with_reducible assumption | (with_reducible exact RpL.nil) | (with_reducible apply RpL.tk'; (with_reducible assumption); (walk_at "tk")) | (with_reducible apply RpL.cons; (walk_at "rp"); (walk_at "rpl")))
local macro_rules | `(tactic| walk_at "g") => `(tactic| repeat (first | refine ⟨_, rfl, ?_⟩ | refine ⟨_, _, rfl, rfl, ?_⟩ | refine ⟨rfl, _, rfl, ?_⟩ | refine ⟨_, _, rfl, rfl, (by first | decide | omega), ?_⟩))
abbrev sLRoads : Stmt := top 13
structure LRB (mg : Str → Option Value) : Prop where
  range : mg "range" = none
  len : mg "len" = none
  tuple : mg "tuple" = none
def spLRoads (K : PySem.W.Frag) : Sp := fun vs H Q _ => ∃ (d cs : Addr) (n : Int) (m : Nat), vs = [.ref d, .int m] ∧ Deck3 H d cs n ∧ n < 2 ^ 47 ∧ 1 ≤ m ∧ m ≤ 8 ∧
  ∀ (H' : Hp) (a : Addr) (rs : List Rd), TupAt K H' a (rs.map rdD) → RdsOk m rs → Kp [d, cs] H H' → Deck3 H' d cs (n + 400) → Q (.ref a) H'

section
variable {P : Program} {w : World} {K : PySem.W.Frag} {mg : Str → Option Value} {base : Heap}
theorem scLRoads : FnScope ["_law_deck_here", "_law_houses", "_law_found", "_law_dense", "_law_a", "_law_b", "_law_often", "_law_size"] ["_law_deck_here", "_law_houses"] (defScope sLRoads) := ⟨rfl, rfl, rfl, by decide +kernel, rfl, by decide +kernel, by decide +kernel⟩
theorem ok_lroads {f : Addr} {fd : FuncData} (F : Fun K "_law_roads" "_law_roads" sLRoads f fd) (B : LRB mg) (cR : Cd P w K mg base 1 "_law_draw" ["_law_deck_here", "_law_many"] spDraw) : FnOk P w K mg base CX0 2 f fd ["_law_deck_here", "_law_houses"] (spLRoads K) := by
  obtain ⟨fR, fdR, GR, mR, kR, bR⟩ := cR.tk
  refine F.ok scLRoads (fun vs H Q E h => ?_) (fun cdv A outer s H vs Q E hr h => ?_)
  · obtain ⟨d, cs, n, m, rfl, _⟩ := h
    rfl
  · obtain ⟨d, cs, n, m, rfl, D0, hn, m1, m8, k⟩ := h
    have hr1 : Room 1 _ := hr
    refine ⟨_, (pss_cons (ps_set (i := 2) scLRoads.nd rfl (Or.inl rfl) (pe_lst pa_nil))
       (pss_cons (ps_set (i := 3) scLRoads.nd rfl (Or.inl rfl) (pe_op op_add pe_int (pe_call GR hr1 rfl mR kR bR .nil pass0 (pa_cons (pv 0) (pa_cons pe_int pa_nil)))))
       (pss_cons (ps_for PassesOwn.never rfl (pi_range1 rfl B.range (pa_cons (pv 1) pa_nil)) (pg_name (i := 4) scLRoads.nd rfl (Or.inl rfl))
       (pss_one (ps_for PassesOwn.never rfl (pi_range2 rfl B.range (pa_cons (pe_op op_add (pv 4) pe_int) (pa_cons (pv 1) pa_nil))) (pg_name (i := 5) scLRoads.nd rfl (Or.inl rfl))
       (pss_cons (ps_set (i := 6) scLRoads.nd rfl (Or.inl rfl) (pe_cmpR op_lt (pe_call GR hr1 rfl mR kR bR .nil pass0 (pa_cons (pv 0) (pa_cons pe_int pa_nil))) (pv 3) (nomark _)))
       (pss_cons (ps_if (PW.pt (pw_and (pt_cmpR op_eq (pv 5) (pe_op op_add (pv 4) pe_int) (nomark _)) (pw_and1 (pt_cmpR op_gt (pe_call GR hr1 rfl mR kR bR .nil pass0 (pa_cons (pv 0) (pa_cons pe_int pa_nil))) pe_int (nomark _)))))
       (pss_one (ps_set (i := 6) scLRoads.nd rfl (Or.inl rfl) pe_bl))
       pss_nil)
       (pss_one (ps_if (PW.pt (pw_and (pt_val (pv 6)) (pw_and1 (pt_cmpR op_lt (pe_callB (lenK (K := K) rfl) (by rfl) B.len PySem.boot_len (pa_cons (pv 2) pa_nil)) pe_int (nomark _)))))
       (pss_cons (ps_set (i := 7) scLRoads.nd rfl (Or.inl rfl) (pe_ix (ixL (K := K) rfl) (pe_lst (pa_cons pe_int (pa_cons pe_int (pa_cons (pe_op op_add pe_int (pe_call GR hr1 rfl mR kR bR .nil pass0 (pa_cons (pv 0) (pa_cons pe_int pa_nil)))) pa_nil)))) (pe_call GR hr1 rfl mR kR bR .nil pass0 (pa_cons (pv 0) (pa_cons pe_int pa_nil))) (fun _ _ => rfl)))
       (pss_one (ps_expr (pe_bm PySem.F.plainAttrs_list PySem.F.slot_list_append PySem.F.type_list_append mt_append (pv 2) (pa_cons (pe_tup (pa_cons (pv 4) (pa_cons (pv 5) (pa_cons (pe_op op_add pe_int (pe_call GR hr1 rfl mR kR bR .nil pass0 (pa_cons (pv 0) (pa_cons pe_int pa_nil)))) (pa_cons (pv 7) pa_nil))))) pa_nil)))))
       pss_nil)))))))
       (pss_one (ps_ret (pe_callTy (tupOfK (K := K) rfl) (by rfl) B.tuple PyProof.Rows.boot_tuple (pa_cons (pv 2) pa_nil))))))), ?_⟩
    refine ⟨Nat.zero_le _, fun fo n_fo => ?_⟩
    obtain ⟨H1, e_H1, s1, g1⟩ := new_any n_fo
    rw [← e_H1]
    clear e_H1
    obtain ⟨nfd, nfc⟩ := D0.new n_fo
    refine ⟨_, rfl, d, cs, 3, n, rfl, by decide, by decide, by omega, D0.same s1, fun r0 H2 r00 r01 k2 D2 t2 => ?_⟩
    refine ⟨_, _, rfl, rfl, ?_⟩
    refine ⟨_, rfl, m, rfl, by omega, by omega, ?_⟩
    have ff : fo ∉ [d, cs] := nin2 nfd nfc
    refine for_range (lo := 0) (fun i σ H' => ∃ (rs : List Rd) (v4 v5 v6 v7 : Option V), σ = [some (.ref d), some (.int m), some (.ref fo), some (.int (1 + r0)), v4, v5, v6, v7] ∧ LstAt K H' fo (rs.map rdD) ∧ (∀ r ∈ rs, RdOk m r ∧ r.a < i) ∧ rs.Pairwise rdLt ∧ rs.length ≤ 14 ∧ Kp [d, cs] H H' ∧ Deck3 H' d cs (n + 1 + 40 * i))
      ⟨[], _, _, _, _, rfl, ⟨[], k2 _ _ ff g1, RpL.nil⟩, (fun r hr => by cases hr), List.Pairwise.nil, Nat.zero_le _, by walk_at "kp", D2.mono (by omega)⟩ ?_ ?_
    · rintro i σ H3 hi ⟨rs, v4, v5, v6, v7, rfl, hL, ok, up, lr, kp, D3⟩
      have hi : i < m := by omega
      rw [show (0 : Int) + (i : Int) = (i : Int) by omega]
      have rg : ((m : Int) - ((i : Int) + 1)).toNat = m - (i + 1) := by omega
      refine ⟨_, rfl, _, _, rfl, rfl, _, rfl, (i : Int) + 1, m, rfl, ⟨by omega, by omega, by omega, by omega⟩, ?_⟩
      refine for_range (lo := (i : Int) + 1) (fun j σ H' => ∃ (rs : List Rd) (v5 v6 v7 : Option V), σ = [some (.ref d), some (.int m), some (.ref fo), some (.int (1 + r0)), some (.int i), v5, v6, v7] ∧ LstAt K H' fo (rs.map rdD) ∧ (∀ r ∈ rs, RdOk m r ∧ (r.a < i ∨ (r.a = i ∧ r.b < i + 1 + j))) ∧ rs.Pairwise rdLt ∧ rs.length ≤ 14 ∧ Kp [d, cs] H H' ∧ Deck3 H' d cs (n + 1 + 40 * i + 5 * j))
        ⟨rs, _, _, _, rfl, hL, (fun r hr => ⟨(ok r hr).1, .inl (ok r hr).2⟩), up, lr, kp, D3.mono (by omega)⟩ ?_ ?_
      · rintro j σ H4 hj ⟨rs, v5, v6, v7, rfl, hL, ok, up, lr, kp, D4⟩
        have hj : i + 1 + j < m := by omega
        rw [show (i : Int) + 1 + (j : Int) = ((i + 1 + j : Nat) : Int) by omega]
        generalize hb : i + 1 + j = b at hj
        refine ⟨_, rfl, d, cs, 4, n + 1 + 40 * i + 5 * j, rfl, by decide, by decide, by omega, D4, fun r H5 _ _ k5 D5 t5 => ?_⟩
        refine ⟨_, rfl, _, _, rfl, rfl, ?_⟩
        dsimp only [gName, List.set, tNext]
        refine seq_if (fun σ' H' => ∃ (ob : Bool) (v7 : Option V), σ' = [some (.ref d), some (.int m), some (.ref fo), some (.int (1 + r0)), some (.int i), some (.int b), some (.bl ob), v7] ∧ LstAt K H' fo (rs.map rdD) ∧ Kp [d, cs] H H' ∧ Deck3 H' d cs (n + 1 + 40 * i + 5 * j + 2)) ?rest (fun rest => ?_)
        case rest =>
          rintro σ' H6 ⟨ob, v7, rfl, ⟨zs, hz, rz⟩, kp6, D6⟩
          have lz := RpL.len _ _ rz
          rw [List.length_map] at lz
          have nx : ∃ (rs : List Rd) (v5 v6 v7' : Option V), [some (V.ref d), some (.int (m : Int)), some (.ref fo), some (.int (1 + r0)), some (.int (i : Int)), some (.int (b : Int)), some (.bl ob), v7] = [some (.ref d), some (.int m), some (.ref fo), some (.int (1 + r0)), some (.int i), v5, v6, v7'] ∧ LstAt K H6 fo (rs.map rdD) ∧ (∀ r ∈ rs, RdOk m r ∧ (r.a < i ∨ (r.a = i ∧ r.b < i + 1 + (j + 1)))) ∧ rs.Pairwise rdLt ∧ rs.length ≤ 14 ∧ Kp [d, cs] H H6 ∧ Deck3 H6 d cs (n + 1 + 40 * i + 5 * ((j + 1 : Nat) : Int)) :=
            ⟨rs, _, _, _, rfl, ⟨zs, hz, rz⟩, (fun r hr => ⟨(ok r hr).1, by have := (ok r hr).2; omega⟩), up, lr, kp6, D6.mono (by omega)⟩
          refine ⟨_, rfl, _, rfl, iteB (fun c => ?_) (fun c => iteF nx)⟩
          refine ⟨_, rfl, _, zs.length, rfl, .inl ⟨_, SqL.of hz, rfl⟩, _, _, rfl, rfl, _, rfl, iteP (fun c2 => ?_) (fun c2 => nx)⟩
          have c2 : rs.length < 14 := by omega
          refine ⟨_, rfl, d, cs, 65, n + 1 + 40 * i + 5 * j + 2, rfl, by decide, by decide, by omega, D6, fun r1 H7 r10 r11 k7 D7 t7 => ?_⟩
          refine ⟨_, _, rfl, rfl, (by show 3 ≤ sizeLine; decide), fun l n_l => ?_⟩
          obtain ⟨H8, e_H8, s8, g8⟩ := new_any n_l
          rw [← e_H8]
          clear e_H8
          obtain ⟨nld, nlc⟩ := D7.new n_l
          refine ⟨_, rfl, d, cs, 3, n + 1 + 40 * i + 5 * j + 2 + 1, rfl, by decide, by decide, by omega, D7.same s8, fun r2 H9 r20 r21 k9 D9 t9 => ?_⟩
          have g9 := k9 _ _ (nin2 nld nlc) g8
          obtain ⟨sz, hat, sz0, sz1⟩ : ∃ sz : Int, atI [V.int 16, .int 80, .int (16 + r1)] r2 = some (.int sz) ∧ 16 ≤ sz ∧ sz ≤ 80 := by
            have h : r2 = 0 ∨ r2 = 1 ∨ r2 = 2 := by omega
            rcases h with rfl | rfl | rfl
            · exact ⟨16, rfl, by decide, by decide⟩
            · exact ⟨80, rfl, by decide, by decide⟩
            · exact ⟨16 + r1, rfl, by omega, by omega⟩
          refine ⟨l, _, _, _, rfl, rfl, SqL.of g9, hat, ?_⟩
          have hz9 : H9 fo = some (.lst zs) := k9 _ _ ff (s8 _ _ (k7 _ _ ff hz))
          refine ⟨_, rfl, .inl ⟨rfl, _, SqL.of hz9⟩, _, rfl, _, rfl, _, rfl, d, cs, 2, n + 1 + 40 * i + 5 * j + 2 + 1 + 1, rfl, by decide, by decide, by omega, D9, fun r3 H10 r30 r31 k10 D10 t10 => ?_⟩
          have hz10 := k10 _ _ ff hz9
          have rz10 : RpL K H10 (rs.map rdD) zs := RpL.tk' rz (show TK H6 H10 from t7.trans ((TK.of s8).trans (t9.trans t10)))
          refine ⟨_, _, rfl, rfl, _, rfl, (by show 4 ≤ sizeLine; decide), fun tp n_tp => ?_⟩
          dsimp only
          rw [show (1 : Int) + r3 = ((1 + r3.toNat : Nat) : Int) by omega, show sz = ((sz.toNat : Nat) : Int) by omega]
          obtain ⟨q1, q2, q3, q4⟩ := push_tup (ds := [.int (i : Int), .int (b : Int), .int ((1 + r3.toNat : Nat) : Int), .int ((sz.toNat : Nat) : Int)]) hz10 rz10 n_tp (RpL.cons Rp.int (RpL.cons Rp.int (RpL.cons Rp.int (RpL.cons Rp.int RpL.nil))))
          refine ⟨fo, _, _, rfl, rfl, q1, Nat.lt_of_le_of_lt (show zs.length ≤ 1000 by omega) (by decide), ?_⟩
          refine ⟨rs ++ [⟨i, b, 1 + r3.toNat, sz.toNat⟩], _, _, _, rfl, by rw [List.map_append]; exact q2, ?_, ?_, by rw [List.length_append, List.length_singleton]; omega, ?_, (D10.kp q4 (nin1 nfd.symm) (nin1 nfc.symm)).mono (by omega)⟩
          · intro x hx
            rcases List.mem_append.mp hx with hx | hx
            · have := ok x hx
              exact ⟨this.1, by have := this.2; omega⟩
            · rw [List.mem_singleton.mp hx]
              refine ⟨⟨?_, ?_, ?_, ?_, ?_, ?_⟩, .inr ⟨rfl, ?_⟩⟩
              all_goals (dsimp only; omega)
          · refine List.pairwise_append.mpr ⟨up, List.pairwise_singleton _ _, fun x hx y hy => ?_⟩
            rw [List.mem_singleton.mp hy]
            have := (ok x hx).2
            unfold rdLt
            dsimp only
            omega
          · exact fun c o hc e => q4 c o (nin1 (ne_of_none e n_fo)) (k10 c o hc (k9 c o hc (s8 c o (k7 c o hc (kp6 c o hc e)))))
        have hL5 := hL.kp k5 t5 ff
        have kp5 : Kp [d, cs] H H5 := kp.trans k5
        refine ⟨_, rfl, _, rfl, _, _, rfl, rfl, rfl, _, rfl, iteI (fun c => ?_) (fun c => iteF (rest _ _ ⟨_, _, rfl, hL5, kp5, D5.mono (by omega)⟩))⟩
        refine ⟨_, rfl, d, cs, 4, n + 1 + 40 * i + 5 * j + 1, rfl, by decide, by decide, by omega, D5, fun r1 H6 _ _ k6 D6 t6 => ?_⟩
        refine ⟨_, _, rfl, rfl, _, rfl, iteP (fun c2 => ?_) (fun c2 => rest _ _ ⟨_, _, rfl, hL5.kp k6 t6 ff, kp5.trans k6, D6.mono (by omega)⟩)⟩
        exact rest _ _ ⟨true, _, rfl, hL5.kp k6 t6 ff, kp5.trans k6, D6.mono (by omega)⟩
      · rintro σ H4 ⟨rs, v5, v6, v7, rfl, hL, ok, up, lr, kp, D4⟩
        exact ⟨rs, _, _, _, _, rfl, hL, (fun r hr => ⟨(ok r hr).1, by have h1 := (ok r hr).1; have h2 := (ok r hr).2; omega⟩), up, lr, kp, D4.mono (by omega)⟩
    · rintro σ H3 ⟨rs, v4, v5, v6, v7, rfl, ⟨zs, hz, rz⟩, ok, up, lr, kp, D3⟩
      refine ⟨_, rfl, fo, zs, rfl, .inl ⟨SqL.of hz, fun t n_t => ?_⟩⟩
      generalize e_H4 : upd _ t _ = H4
      obtain ⟨s4, r4⟩ := new_tup (K := K) n_t e_H4 (by walk_at "rpl")
      clear e_H4
      exact k H4 t rs r4 ⟨m1, m8, lr, fun r hr => (ok r hr).1, up⟩ (by walk_at "kp") ((D3.same s4).mono (by omega))
end
end Wn

namespace L2
open PySem PySem.Spec PyProof.Rows
/-! ### l != [] of things of any kind -/
section
variable {X : Cx}
theorem op_neL0 (hu : X.A.units < cLine) : OpR X (compareOp .NotEq) (fun x y H Q => ∃ a b xs, x = .ref a ∧ y = .ref b ∧ SqL X.K H a xs ∧ SqL X.K H b [] ∧ Q (.bl (!decide (xs = []))) H) := by
  intro pins s σ H x y v u Q I rx ry h
  obtain ⟨a, b, xs, rfl, rfl, ha, hb, q⟩ := h
  obtain rfl : v = .ref a := rx
  obtain rfl : u = .ref b := ry
  obtain ⟨i1, r1, ⟨o1, n1, ho1, hc1, hz1, hd1⟩, _⟩ := I.list ha
  obtain ⟨i2, r2, ⟨o2, n2, ho2, hc2, hz2, hd2⟩, _⟩ := I.list hb
  cases r2
  have p1 : s.heap.IsList a i1.toArray := ⟨o1, ho1, hc1, n1, hd1⟩
  have p2 : s.heap.IsList b #[] := ⟨o2, ho2, hc2, n2, hd2⟩
  have fin : EP X pins σ Q (.bool (!decide (xs = []))) s := ⟨.bl (!decide (xs = [])), H, I, rfl, q⟩
  have l1 := r1.length
  cases i1 with
  | nil =>
    have e : xs = [] := List.length_eq_zero_iff.mp l1
    subst e
    exact SeqAt.RcNeAt.lists (e := fun _ => true) p1 p2 rfl hu (fun j h1 h2 => absurd h2 (by simp)) X.prog X.w X.xe (EP X pins σ Q) fin
  | cons z zs =>
    have e : xs ≠ [] := fun e => by rw [e] at l1; cases l1
    rw [decide_eq_false e] at fin
    exact SeqAt.RcNeAt.lists_lengths p1 p2 (by simp) hu X.prog X.w X.xe (EP X pins σ Q) fin
theorem op_neL0K {K : PySem.W.Frag} (hK : X.K = K) (hu : X.A.units < cLine) : OpR X (compareOp .NotEq) (fun x y H Q => ∃ a b xs, x = .ref a ∧ y = .ref b ∧ SqL K H a xs ∧ SqL K H b [] ∧ Q (.bl (!decide (xs = []))) H) := hK ▸ op_neL0 hu
end
end L2

set_option maxHeartbeats 1600000
namespace Wn
open PySem L2
set_option pp.maxSteps 700
set_option pp.deepTerms false
local macro_rules | `(tactic| walk_at "h") => `(tactic| first | with_reducible assumption | (with_reducible exact upd_same) | (with_reducible apply g_upd; (walk_at "neq"); (walk_at "h")) | (with_reducible apply g_same; (with_reducible assumption); (walk_at "h")) | (with_reducible apply g_kp; (with_reducible assumption); (walk_at "nin"); (walk_at "h")) | (with_reducible apply g_tk; (with_reducible assumption); (walk_at "h")))
local macro_rules | `(tactic| walk_at "neq") => `(tactic| first | with_reducible assumption | (with_reducible apply Ne.symm; with_reducible assumption) | (with_reducible apply ne_upd; (with_reducible assumption)) | (with_reducible apply Ne.symm; with_reducible apply ne_upd; with_reducible assumption) | (with_reducible apply ne_fr; (with_reducible assumption); (walk_at "h")) | (with_reducible apply ne_fr'; (with_reducible assumption); (walk_at "h")) | (with_reducible apply ne_kd; (walk_at "h"); (walk_at "h"); (with_unfolding_all (intro z; cases z))))
local macro_rules | `(tactic| walk_at "nin") => `(tactic| first | (with_reducible exact nin0) | with_reducible assumption | (with_reducible apply ninc; (walk_at "neq"); (walk_at "nin")))
local macro_rules | `(tactic| walk_at "none") => `(tactic| first | with_reducible assumption | (with_reducible apply n_upd; (with_reducible assumption)) | (with_reducible apply n_same; (with_reducible assumption); (walk_at "none")) | (with_reducible apply n_kp; (with_reducible assumption); (walk_at "nin"); (walk_at "none")))
local macro_rules | `(tactic| walk_at "mem") => `(tactic| first | (with_reducible exact List.mem_cons_self) | (with_reducible apply List.mem_cons_of_mem; (walk_at "mem")))
local macro_rules | `(tactic| walk_at "am") => `(tactic| first | (with_reducible exact am0) | (with_reducible apply am1; (first | (apply Or.inl; walk_at "mem") | (apply Or.inr; walk_at "none")); (walk_at "am")))
local macro_rules | `(tactic| walk_at "tk") => `(tactic| first | (with_reducible exact TK.refl _) | with_reducible assumption | (with_reducible apply t_tk; (with_reducible assumption); (walk_at "tk")) | (with_reducible apply t_same; (with_reducible assumption); (walk_at "tk")) | (with_reducible apply t_new; (with_reducible assumption); (walk_at "tk")) | (with_reducible apply t_wr; (walk_at "h"); (with_unfolding_all rfl); (walk_at "tk")))
local macro_rules | `(tactic| walk_at "same") => `(tactic| first | (with_reducible exact L2.Same.refl _) | with_reducible assumption | (with_reducible apply s_same; (with_reducible assumption); (walk_at "same")) | (with_reducible apply s_new; (with_reducible assumption); (walk_at "same")) | (with_reducible apply s_wrn; (walk_at "none"); (walk_at "same")))
local macro_rules | `(tactic| walk_at "kp") => `(tactic| first | (with_reducible exact Kp.refl _ _) | with_reducible assumption | (with_reducible apply k_same; (with_reducible assumption); (walk_at "kp")) | (with_reducible apply k_kp; (with_reducible assumption); (walk_at "kp")) | (with_reducible apply k_kpm; (with_reducible assumption); (walk_at "am"); (walk_at "kp")) | (with_reducible apply k_new; (with_reducible assumption); (walk_at "kp")) | (with_reducible apply k_wr; (walk_at "mem"); (walk_at "kp")) | (with_reducible apply k_wrn; (walk_at "none"); (walk_at "kp")))
local macro_rules | `(tactic| walk_at "rp") => `(tactic| first | with_reducible assumption | (with_reducible exact Rp.int) | (with_reducible exact Rp.str) | (with_reducible exact Rp.none) | (with_reducible exact Rp.bool) | (with_reducible apply Rp.tk'; (with_reducible assumption); (walk_at "tk")) | (with_reducible apply Rp.tup; (walk_at "h"); (walk_at "rpl")))
local macro_rules | `(tactic| walk_at "rpl") => `(tactic| first | with_reducible assumption | (with_reducible exact RpL.nil) | (with_reducible apply RpL.tk'; (with_reducible assumption); (walk_at "tk")) | (with_reducible apply RpL.cons; (walk_at "rp"); (walk_at "rpl")))
local macro_rules | `(tactic| walk_at "g") => `(tactic| repeat (first | refine ⟨_, rfl, ?_⟩ | refine ⟨_, _, rfl, rfl, ?_⟩ | refine ⟨rfl, _, rfl, ?_⟩ | refine ⟨_, _, rfl, rfl, (by first | decide | omega), ?_⟩))
abbrev sIsSo : Stmt := top 19
abbrev sChanged : Stmt := top 20
abbrev sThing : Stmt := top 21
theorem fromD_num (d : PyData) : numB d 0 24 = fromD d 0 24 := by cases d <;> rfl
def spIsSo (K : PySem.W.Frag) : Sp := fun vs H Q _ => ∃ (m : Nat) (rs : List Rd) (bs : List Bool) (la ua : Addr) (v : V) (d : PyData), vs = [.int m, .ref la, .ref ua, v] ∧ TupAt K H la (rs.map rdD) ∧ SqL K H ua (bs.map V.bl) ∧ bs.length = rs.length ∧ RdsOk m rs ∧ Dk K H v d ∧ wid d ≤ 100000 ∧
  ∀ H', Same H H' → Q (.bl (setB m (rs.zip bs) d)) H'
def spChanged (K : PySem.W.Frag) : Sp := fun vs H Q _ => ∃ (d cs : Addr) (n : Int) (m : Nat) (X : Mx) (ga : Addr), vs = [.ref d, .ref ga] ∧ Deck3 H d cs n ∧ n < 2 ^ 46 ∧ TupAt K H ga (gridD X m) ∧ X24m X m ∧ 1 ≤ m ∧ m ≤ 8 ∧
  ∀ (H' : Hp) (a : Addr) (Y : Mx), Kp [d, cs] H H' → Deck3 H' d cs (n + 20) → TupAt K H' a (gridD Y m) → X24m Y m → Q (.ref a) H'
theorem fw_24 (rs : List (Rd × Bool)) (k m : Nat) : X24m (fwM rs k) m := fun x _ y _ => by
  refine Nat.le_trans (fw_le_init k x y) ?_
  unfold initM
  split
  · decide
  · exact minL_le24 _
theorem turn_24 (rs : List (Rd × Bool)) (X : Mx) (m : Nat) : X24m (turn rs X) m := fun x _ y _ => turn_le24 x y
theorem bulks_le {B : Nat} : ∀ {xs : List PyData}, (∀ x ∈ xs, x.bulk ≤ B) → PyData.bulkAll xs ≤ (B + 1) * xs.length
  | [], _ => Nat.zero_le _
  | x :: xs, h => by
    have h1 := h x List.mem_cons_self
    have h2 := bulks_le fun y hy => h y (List.mem_cons_of_mem _ hy)
    rw [List.length_cons, Nat.mul_succ, bulk_c]
    omega
theorem tup_gq {M N B W L : Nat} {ds : List PyData} (h : ∀ x ∈ ds, GQ M N B W x) (l : ds.length ≤ L) (lw : L ≤ W) : GQ M (N + 1) ((B + 1) * L) W (.tuple ds) := by
  refine ⟨gqs_all.mpr fun x hx => (h x hx).g, ?_, ?_, wid_t.mpr ⟨by omega, fun x hx => (h x hx).w⟩⟩
  · rw [depth_tup]
    have : PyData.depthAll ds ≤ N := depthAll_le.mpr fun x hx => (h x hx).n
    omega
  · rw [bulk_t]
    exact Nat.le_trans (bulks_le fun x hx => (h x hx).b) (Nat.mul_le_mul_left _ l)
theorem grid_gq {X : Mx} {m : Nat} (le : X24m X m) (m8 : m ≤ 8) : GQ (10 ^ 25) 2 72 8 (.tuple (gridD X m)) := by
  refine tup_gq (N := 1) (B := 8) (L := 8) (fun x hx => ?_) (by unfold gridD; rw [List.length_map, List.length_range]; exact m8) (Nat.le_refl _)
  obtain ⟨h, hh, rfl⟩ := List.mem_map.mp hx
  refine tup_gq (N := 0) (B := 0) (L := 8) (fun x hx => ?_) (by rw [List.length_map, List.length_range]; exact m8) (Nat.le_refl _)
  obtain ⟨o, ho, rfl⟩ := List.mem_map.mp hx
  have := le h (List.mem_range.mp hh) o (List.mem_range.mp ho)
  exact ⟨decide_eq_true (Nat.le_trans (show ((X h o : Nat) : Int).natAbs ≤ 24 by omega) (by decide)), Nat.zero_le _, Nat.zero_le _, Nat.zero_le _⟩
def spThing (K : PySem.W.Frag) : Sp := fun vs H Q _ => ∃ (d cs : Addr) (n : Int) (m : Nat) (rs : List Rd) (bs : List Bool) (la ua : Addr), vs = [.ref d, .int m, .ref la, .ref ua] ∧ Deck3 H d cs n ∧ n < 2 ^ 45 ∧ TupAt K H la (rs.map rdD) ∧ H ua = some (.lst (bs.map V.bl)) ∧ ua ∉ [d, cs] ∧ bs.length = rs.length ∧ RdsOk m rs ∧ 1 ≤ m ∧
  ∀ (H' : Hp) (v : V) (D : PyData), Kp [d, cs] H H' → Deck3 H' d cs (n + 200) → Dk K (hid [d, cs] H') v D → GQ (10 ^ 26) 10 1000 20 D → Q v H'
theorem MatAt.kp {H H' : Hp} {a : Addr} {ls N : List Addr} {X : Mx} {m : Nat} (M : MatAt H a ls X m) (k : Kp N H H') (n : a ∉ N) (nl : ∀ p ∈ ls, p ∉ N) : MatAt H' a ls X m := ⟨k _ _ n M.l, M.len, M.nd, M.na, fun h p e => k _ _ (nl p (List.mem_of_getElem? e)) (M.at' h p e)⟩

section
variable {P : Program} {w : World} {K : PySem.W.Frag} {mg : Str → Option Value} {base : Heap}
theorem scIsSo : FnScope ["_law_houses", "_law_roads_here", "_law_up", "_law_thing_here", "_law_row", "_law_one"] ["_law_houses", "_law_roads_here", "_law_up", "_law_thing_here"] (defScope sIsSo) := ⟨rfl, rfl, rfl, by decide +kernel, rfl, by decide +kernel, by decide +kernel⟩
theorem ok_isso {f : Addr} {fd : FuncData} (F : Fun K "_law_is_so" "_law_is_so" sIsSo f fd) (B : KBo mg) (cU : Cd P w K mg base 1 "_law_number" ["_law_thing_here", "_law_low", "_law_high"] (spNumB K)) (cT : Cd P w K mg base 1 "_law_turned" ["_law_houses", "_law_roads_here", "_law_up", "_law_fars"] (spTurned K)) : FnOk P w K mg base CX0 2 f fd ["_law_houses", "_law_roads_here", "_law_up", "_law_thing_here"] (spIsSo K) := by
  obtain ⟨fU, fdU, GU, mU, kU, bU⟩ := cU
  obtain ⟨fT, fdT, GT, mT, kT, bT⟩ := cT
  refine F.ok scIsSo (fun vs H Q E h => ?_) (fun cdv A outer s H vs Q E hr h => ?_)
  · obtain ⟨m, rs, bs, la, ua, v, d, rfl, _⟩ := h
    rfl
  · obtain ⟨m, rs, bs, la, ua, v, d, rfl, hL, hU, lb, R, hd, hw, k⟩ := h
    have hr1 : Room 1 _ := hr
    refine ⟨_, (pss_cons (ps_if (PW.pt (pw_or (pt_not (pt_val (pe_callB (isiK (K := K) rfl) (by rfl) B.isinstance (by decide +kernel) (pa_cons (pv 3) (pa_cons (pe_bltn (v := .ty "tuple") (by rfl) B.tuple PyProof.Rows.boot_tuple rfl) pa_nil))))) (pw_or1 (pt_cmpR op_ne (pe_callB (lenK (K := K) rfl) (by rfl) B.len PySem.boot_len (pa_cons (pv 3) pa_nil)) (pv 0) (nomark _)))))
       (pss_one (ps_ret pe_bl))
       pss_nil)
       (pss_cons (ps_for PassesOwn.never rfl (pi_tup (pv 3)) (pg_name (i := 4) scIsSo.nd rfl (Or.inl rfl))
       (pss_cons (ps_if (PW.pt (pw_or (pt_not (pt_val (pe_callB (isiK (K := K) rfl) (by rfl) B.isinstance (by decide +kernel) (pa_cons (pv 4) (pa_cons (pe_bltn (v := .ty "tuple") (by rfl) B.tuple PyProof.Rows.boot_tuple rfl) pa_nil))))) (pw_or1 (pt_cmpR op_ne (pe_callB (lenK (K := K) rfl) (by rfl) B.len PySem.boot_len (pa_cons (pv 4) pa_nil)) (pv 0) (nomark _)))))
       (pss_one (ps_ret pe_bl))
       pss_nil)
       (pss_one (ps_if (pt_cmpR (op_neL0K (K := K) rfl (show _ < cLine from Nat.lt_of_le_of_lt (Nat.le_add_right _ 65) (room65 hr))) (pe_lc (own := [("_law_one", 5)]) (g := (gName 5)) (tt := _) rfl scIsSo.nd (pi_tup (pv 4)) (blkOk_by (N := ["_law_houses", "_law_roads_here", "_law_up", "_law_thing_here", "_law_row", "_law_one"]) (sc := defScope sIsSo) (by decide +kernel))
       (fun _ _ _ _ _ => (pg_name (i := 5) scIsSo.nd rfl (Or.inl rfl))) (fun _ _ _ _ _ => (pts_one (pt_not (pt_val (pe_call GU hr1 rfl mU kU bU .nil pass0 (pa_cons (pv 5) (pa_cons pe_int (pa_cons pe_int pa_nil)))))))) (fun _ _ _ _ _ => (pv 5))) (pe_lst pa_nil) (nomark _))
       (pss_one (ps_ret pe_bl))
       pss_nil))))
       (pss_one (ps_ret (pe_cmpR (eqDK (K := K) rfl hr.units) (pe_call GT hr1 rfl mT kT bT .nil pass0 (pa_cons (pv 0) (pa_cons (pv 1) (pa_cons (pv 2) (pa_cons (pv 3) pa_nil))))) (pv 3) (nomark _)))))), ?_⟩
    have no : ∀ H', Same H H' → gridB m d = false → Q (.bl false) H' := fun H' s e => by
      have z := k H' s
      unfold setB at z
      rwa [e, Bool.false_and] at z
    refine ⟨_, rfl, _, _, _, _, _, rfl, .ty _, hd.ty, kit_tuple d, _, rfl, iteNP (fun c => no _ (L2.Same.refl _) ?_) (fun c => ?_)⟩
    · cases hd <;> first | rfl | exact absurd rfl c
    obtain ⟨es, rfl⟩ : ∃ es, d = .tuple es := by
      cases hd with
      | tup h1 h2 => exact ⟨_, rfl⟩
      | _ => simp [tyN] at c
    obtain ⟨ga, xs, rfl, ha, hx⟩ := hd.inv_tup
    have lx := hx.len
    have hwt := wid_t.mp hw
    refine ⟨_, rfl, _, xs.length, rfl, .inr ⟨_, ha, rfl⟩, _, rfl, rfl, _, rfl, iteNI (fun c => no _ (L2.Same.refl _) ?_) (fun c => ?_)⟩
    · show (decide (es.length = m) && _) = false
      rw [decide_eq_false (by omega), Bool.false_and]
    have bad : ∀ i d, es[i]? = some d → rowB m d = false → gridB m (.tuple es) = false := fun i d e1 e2 => by
      show (decide (es.length = m) && es.all (rowB m)) = false
      rw [Bool.and_eq_false_iff]
      refine .inr ?_
      rw [List.all_eq_false]
      exact ⟨d, List.mem_of_getElem? e1, by rw [e2]; exact Bool.noConfusion⟩
    dsimp only [tNext]
    refine ⟨_, rfl, ga, rfl, ⟨_, ha⟩, ?_⟩
    refine for_tup (K := K) (a := ga) (xs := xs) (fun i σ H' => ∃ v4 v5 : Option V, σ = [some (.int m), some (.ref la), some (.ref ua), some (.ref ga), v4, none] ∧ Same H H' ∧ ∀ d ∈ es.take i, rowB m d = true) ⟨_, none, rfl, L2.Same.refl _, fun d hd => by cases hd⟩ (fun i σ H' _ ⟨_, _, _, s, _⟩ => SqT.sm ha s) ?_ ?_
    · rintro i x σ H1 hi ⟨v4, v5, rfl, s1, hp⟩
      obtain ⟨d, ed, q⟩ := hx.getV hi
      have q1 := q.sm s1
      have good : rowB m d = true → ∀ d ∈ es.take (i + 1), rowB m d = true := fun e d' h => by
        rw [List.take_succ, ed] at h
        rcases List.mem_append.mp h with h | h
        · exact hp d' h
        · rw [List.mem_singleton.mp h, e]
      have badi : ∀ H', Same H H' → rowB m d = false → Q (.bl false) H' := fun H' s e => no _ s (bad i d ed e)
      refine ⟨_, rfl, _, _, _, _, _, rfl, .ty _, q1.ty, kit_tuple d, _, rfl, iteNP (fun c => badi _ s1 ?_) (fun c => ?_)⟩
      · cases q <;> first | rfl | exact absurd rfl c
      obtain ⟨gs, rfl⟩ : ∃ gs, d = .tuple gs := by
        cases q with
        | tup h1 h2 => exact ⟨_, rfl⟩
        | _ => simp [tyN] at c
      obtain ⟨b, ys, rfl, hb, hy⟩ := q1.inv_tup
      have ly := hy.len
      have hwr := wid_t.mp (hwt.2 _ (List.mem_of_getElem? ed))
      refine ⟨_, rfl, _, ys.length, rfl, .inr ⟨_, hb, rfl⟩, _, rfl, rfl, _, rfl, iteNI (fun c2 => badi _ s1 ?_) (fun c2 => ?_)⟩
      · show (decide (gs.length = m) && _) = false
        rw [decide_eq_false (by omega), Bool.false_and]
      have er : rowB m (.tuple gs) = gs.all fun d => fromD d 0 24 := by
        show (decide (gs.length = m) && _) = _
        rw [decide_eq_true (by omega), Bool.true_and]
      dsimp only [tNext]
      refine ⟨_, rfl, b, rfl, ⟨_, hb⟩, fun D nD => ?_⟩
      refine comp_ls (L := ys.zip gs) ((walk_tup (K := K) (a := b) (xs := ys)).cast (by rw [List.length_zip]; omega)) (fun H' s' => SqT.sm hb s') (fun e => !fromD e.2 0 24) (fun e => e.1) nD (by rw [List.length_zip]; omega) ?_ ?_
      · rintro j e v H' H'' Q' N' hj s' ⟨rfl, hv⟩ hQ hN
        rw [List.getElem?_zip_eq_some] at hj
        rw [hj.1] at hv
        cases hv
        obtain ⟨u, eu, hu⟩ := hy.get hj.2
        rw [hj.1] at eu
        cases eu
        refine ⟨rfl, _, rfl, _, e.2, 0, 24, rfl, hu.sm s', _, rfl, ?_⟩
        rw [fromD_num]
        cases ef : fromD e.2 0 24 with
        | true => exact iteF (hN (by rw [ef]; rfl) _ (L2.Same.refl _))
        | false => exact iteT ⟨_, rfl, hQ (by rw [ef]; rfl) _ (L2.Same.refl _)⟩
      intro H2 s2 hD
      refine ⟨Nat.zero_le _, fun l4 n_l4 => ?_⟩
      obtain ⟨H3, e_H3, s3, r3⟩ := new_any n_l4
      rw [← e_H3]
      clear e_H3
      have s13 := s2.trans s3
      have ez : (((ys.zip gs).filter fun e => !fromD e.2 0 24).map fun e => e.1) = [] ↔ (gs.all fun d => fromD d 0 24) = true := by
        rw [List.map_eq_nil_iff, List.filter_eq_nil_iff, List.all_eq_true]
        constructor
        · intro h d hd
          obtain ⟨j, hj, ej⟩ := List.mem_iff_getElem.mp hd
          have hj2 : j < ys.length := by omega
          have z := h (ys[j], d) (List.mem_iff_getElem?.mpr ⟨j, by rw [List.getElem?_zip_eq_some]; exact ⟨List.getElem?_eq_getElem hj2, by rw [List.getElem?_eq_getElem hj, ej]⟩⟩)
          simpa using z
        · intro h e he
          have := h e.2 (List.of_mem_zip he).2
          simp [this]
      refine ⟨D, l4, _, rfl, rfl, SqL.of (s3 _ _ hD), SqL.of r3, _, rfl, iteNP (fun ne => badi _ (s1.trans s13) ?_) fun e0 => ?_⟩
      · rw [er]
        cases ea : gs.all fun d => fromD d 0 24 with
        | false => rfl
        | true => exact absurd (ez.mpr ea) ne
      · exact ⟨_, none, rfl, s1.trans s13, good (er.trans (ez.mp e0))⟩
    · rintro σ H1 ⟨v4, v5, rfl, s1, hp⟩
      have eg : gridB m (.tuple es) = true := by
        show (decide (es.length = m) && es.all (rowB m)) = true
        rw [decide_eq_true (by omega), Bool.true_and]
        exact List.all_eq_true.mpr fun d h => hp d (by rw [lx, List.take_length]; exact h)
      obtain ⟨e, le⟩ := grid_of eg
      generalize eX : matOf (.tuple es) = X at e le
      have hd1 := hd.sm s1
      rw [e] at hd1
      obtain ⟨_, e0, hg⟩ := Dk.tupAt hd1
      cases e0
      refine ⟨_, rfl, _, rfl, _, rfl, _, rfl, m, rs, bs, X, la, ua, ga, rfl, hL.tk (TK.of s1), SqL.sm' hU s1, hg, lb, R, fun H2 b s2 r2 => ?_⟩
      refine ⟨_, rfl, .tuple (gridD (turn (rs.zip bs) X) m), .tuple (gridD X m), Rp.dp _ _ r2, Rp.dp _ _ (hg.tk (TK.of s2)), grid_shp _ _, grid_shp _ _, ?_⟩
      have z := k H2 (s1.trans s2)
      unfold setB at z
      rw [eg, Bool.true_and, eX, e] at z
      exact z
theorem scChanged : FnScope ["_law_deck_here", "_law_fars", "_law_rows", "_law_k", "_law_a", "_law_b", "_law_row"] ["_law_deck_here", "_law_fars"] (defScope sChanged) := ⟨rfl, rfl, rfl, by decide +kernel, rfl, by decide +kernel, by decide +kernel⟩
theorem ok_changed {f : Addr} {fd : FuncData} (F : Fun K "_law_changed" "_law_changed" sChanged f fd) (B : KBo mg) (cN : Cd P w K mg base 1 "_law_draw" ["_law_deck_here", "_law_many"] spDraw) : FnOk P w K mg base CX0 2 f fd ["_law_deck_here", "_law_fars"] (spChanged K) := by
  obtain ⟨fN, fdN, GN, mN, kN, bN⟩ := cN
  refine F.ok scChanged (fun vs H Q E h => ?_) (fun cdv A outer s H vs Q E hr h => ?_)
  · obtain ⟨d, cs, n, m, X, ga, rfl, _⟩ := h
    rfl
  · obtain ⟨d, cs, n, m, X, ga, rfl, D, hn, hg, le, m1, m8, k⟩ := h
    have hr1 : Room 1 _ := hr
    refine ⟨_, (pss_cons (ps_setLc (i := 2) (own := [("_law_row", 6)]) (g := (gName 6)) (tt := tYes) rfl scChanged.nd rfl rfl (sw_true rfl rfl rfl (by decide +kernel)) (pi_tup (pv 1)) (blkOk_by (N := ["_law_deck_here", "_law_fars", "_law_rows", "_law_k", "_law_a", "_law_b", "_law_row"]) (sc := defScope sChanged) (by decide +kernel))
       (fun _ _ _ _ _ => (pg_name (i := 6) scChanged.nd rfl (Or.inl rfl))) (fun _ _ _ _ _ => pts_nil) (fun _ _ _ _ _ => (pe_callTy (lstOfK (K := K) rfl) (by rfl) B.list (by decide +kernel) (pa_cons (pv 6) pa_nil))))
       (pss_cons (ps_for PassesOwn.never rfl (pi_range1 rfl B.range (pa_cons (pe_op op_add pe_int (pe_call GN hr1 rfl mN kN bN .nil pass0 (pa_cons (pv 0) (pa_cons pe_int pa_nil)))) pa_nil)) (pg_name (i := 3) scChanged.nd rfl (Or.inl rfl))
       (pss_cons (ps_set (i := 4) scChanged.nd rfl (Or.inl rfl) (pe_call GN hr1 rfl mN kN bN .nil pass0 (pa_cons (pv 0) (pa_cons (pe_callB (lenK (K := K) rfl) (by rfl) B.len PySem.boot_len (pa_cons (pv 2) pa_nil)) pa_nil))))
       (pss_cons (ps_set (i := 5) scChanged.nd rfl (Or.inl rfl) (pe_call GN hr1 rfl mN kN bN .nil pass0 (pa_cons (pv 0) (pa_cons (pe_callB (lenK (K := K) rfl) (by rfl) B.len PySem.boot_len (pa_cons (pv 2) pa_nil)) pa_nil))))
       (pss_cons (ps_asg (pe_call GN hr1 rfl mN kN bN .nil pass0 (pa_cons (pv 0) (pa_cons pe_int pa_nil))) (pg_sub (pe_ix (ixL (K := K) rfl) (pv 2) (pv 4) (fun _ _ => rfl)) (pv 5) set_list))
       (pss_one (ps_if (pt_cmpR op_eq (pe_call GN hr1 rfl mN kN bN .nil pass0 (pa_cons (pv 0) (pa_cons pe_int pa_nil))) pe_int (nomark _))
       (pss_one (ps_asg (pe_ix (ixL (K := K) rfl) (pe_ix (ixL (K := K) rfl) (pv 2) (pv 4) (fun _ _ => rfl)) (pv 5) (fun _ _ => rfl)) (pg_sub (pe_ix (ixL (K := K) rfl) (pv 2) (pv 5) (fun _ _ => rfl)) (pv 4) set_list)))
       pss_nil))))))
       (pss_one (ps_ret (pe_callTy (tupOfK (K := K) rfl) (by rfl) B.tuple PyProof.Rows.boot_tuple (pa_cons (pe_lc (own := [("_law_row", 6)]) (g := (gName 6)) (tt := tYes) rfl scChanged.nd (pi_list (pv 2)) (blkOk_by (N := ["_law_deck_here", "_law_fars", "_law_rows", "_law_k", "_law_a", "_law_b", "_law_row"]) (sc := defScope sChanged) (by decide +kernel))
       (fun _ _ _ _ _ => (pg_name (i := 6) scChanged.nd rfl (Or.inl rfl))) (fun _ _ _ _ _ => pts_nil) (fun _ _ _ _ _ => (pe_callTy (tupOfK (K := K) rfl) (by rfl) B.tuple PyProof.Rows.boot_tuple (pa_cons (pv 6) pa_nil)))) pa_nil)))))), ?_⟩
    obtain ⟨gs, hgs, lgs, rows⟩ := grid_row hg
    refine ⟨_, rfl, ga, rfl, ⟨_, hgs⟩, fun fo n_fo => ?_⟩
    refine lc_it (walk_tup (K := K) (a := ga) (xs := gs)) (fun j H' => ∃ ls : List Addr, Same H H' ∧ ls.length = j ∧ H' fo = some (.lst (ls.map V.ref)) ∧ ls.Nodup ∧ (∀ p ∈ ls, H p = none ∧ p ≠ fo) ∧ ∀ (h : Nat) (p : Addr), ls[h]? = some p → H' p = some (.lst (rowV X m h))) ⟨[], (L2.Same.refl _).new n_fo, rfl, upd_same, List.nodup_nil, (fun p hp => by cases hp), fun h p e => by cases e⟩ (fun j H' _ ⟨_, s', _⟩ => SqT.sm hgs s') ?_ ?_
    · rintro j x H1 H1' hj ⟨ls, s1, l1, g1, nd1, al1, at1⟩ ⟨rfl, hx⟩
      refine ⟨rfl, tYes_t (iteT ?_)⟩
      obtain ⟨t, et, ht⟩ := rows j (by omega)
      rw [et] at hx
      cases hx
      refine ⟨_, rfl, t, _, rfl, .inr (SqT.sm ht s1), fun D2 n_D2 => ?_⟩
      have er : (((List.range m).map fun o => ((X j o : Nat) : Int)).map V.int) = rowV X m j := by
        rw [List.map_map]
        rfl
      rw [er]
      have nD2 := n_D2
      obtain ⟨H2, e_H2, s2, hD2⟩ := new_any n_D2
      rw [← e_H2]
      clear e_H2
      have npf : D2 ≠ fo := fun z => by rw [z, g1] at nD2; cases nD2
      refine ⟨_, s2 _ _ g1, Nat.lt_of_le_of_lt (by rw [List.length_map]; show ls.length ≤ 8; omega) (by decide), ls ++ [D2], (s1.trans s2).wrn n_fo, by rw [List.length_append, l1]; rfl, by rw [upd_same, List.map_append]; rfl, ?_, ?_, ?_⟩
      · refine List.nodup_append.mpr ⟨nd1, List.nodup_cons.mpr ⟨List.not_mem_nil, List.nodup_nil⟩, fun a ha b hb e => ?_⟩
        rw [List.mem_singleton.mp hb] at e
        obtain ⟨i, hi, ei⟩ := List.mem_iff_getElem.mp ha
        exact ne_of_none (at1 i a (by rw [List.getElem?_eq_getElem hi, ei])) nD2 e
      · intro q hq
        rcases List.mem_append.mp hq with hq | hq
        · exact al1 q hq
        · rw [List.mem_singleton.mp hq]
          exact ⟨n_same s1 nD2, npf⟩
      · intro h p e
        by_cases c : h < ls.length
        · rw [List.getElem?_append_left c] at e
          rw [upd_ne (al1 p (List.mem_of_getElem? e)).2]
          exact s2 _ _ (at1 h p e)
        · have c2 : h = ls.length := by
            have := (List.getElem?_eq_some_iff.mp e).1
            rw [List.length_append, List.length_singleton] at this
            omega
          subst c2
          rw [List.getElem?_append_right (Nat.le_refl _), Nat.sub_self] at e
          cases e
          rw [upd_ne npf, l1]
          exact hD2
    rintro H1 ⟨ls, s1, l1, g1, nd1, al1, at1⟩
    have al : ∀ p ∈ ls, H p = none := fun p hp => (al1 p hp).1
    rw [lgs] at l1
    have M1 : MatAt H1 fo ls X m := ⟨g1, l1, nd1, fun z => (al1 fo z).2 rfl, at1⟩
    clear g1 at1
    have D1 := D.same s1
    have nfo : fo ∉ [d, cs] := D.nm n_fo
    have nls : ∀ p ∈ ls, p ∉ [d, cs] := fun p hp => D.nm (al p hp)
    refine ⟨_, rfl, d, cs, 3, n, rfl, by decide, by decide, by omega, D1, fun c2 H2 c20 c21 k2 D2 => ⟨_, _, rfl, rfl, ?_⟩⟩
    obtain ⟨q, eq, q3⟩ : ∃ q : Nat, 1 + c2 = (q : Int) ∧ q ≤ 3 := ⟨(1 + c2).toNat, by omega, by omega⟩
    refine ⟨(q : Int), by show [V.int (1 + c2)] = [V.int (q : Int)]; rw [eq], by omega, by omega, ?_⟩
    rw [show ((q : Int)).toNat = q by omega]
    refine for_range (lo := 0) (fun i σ H' => ∃ (v3 v4 v5 : Option V) (Y : Mx), σ = [some (.ref d), some (.ref ga), some (.ref fo), v3, v4, v5, none] ∧ MatAt H' fo ls Y m ∧ X24m Y m ∧ Kp [d, cs] H H' ∧ Deck3 H' d cs (n + 1 + 4 * i)) ⟨_, _, _, X, rfl, M1.kp k2 nfo nls, le, Kp.trans (Kp.of s1) k2, D2.mono (by omega)⟩ ?_ ?_
    · rintro i σ H3 hi ⟨v3, v4, v5, Y, rfl, M3, le3, k3, D3⟩
      have draw : ∀ (many : Int), many = (m : Int) → 0 < many ∧ many < 1000000000 := fun _ e => by omega
      have lls : (ls.map V.ref).length = m := by rw [List.length_map]; exact M3.len
      refine ⟨_, rfl, _, rfl, _, m, rfl, .inl ⟨_, SqL.of M3.l, by rw [lls]⟩, d, cs, _, _, rfl, by omega, by omega, by omega, D3, fun x H4 x0 x1 k4 D4 => ?_⟩
      have M4 := M3.kp k4 nfo nls
      refine ⟨_, rfl, _, rfl, _, m, rfl, .inl ⟨_, SqL.of M4.l, by rw [lls]⟩, d, cs, _, _, rfl, by omega, by omega, by omega, D4, fun y H5 y0 y1 k5 D5 => ?_⟩
      have M5 := M4.kp k5 nfo nls
      obtain ⟨a, rfl⟩ : ∃ a : Nat, x = (a : Int) := ⟨x.toNat, by omega⟩
      obtain ⟨b, rfl⟩ : ∃ b : Nat, y = (b : Int) := ⟨y.toNat, by omega⟩
      have am : a < m := by omega
      have bm : b < m := by omega
      refine ⟨_, rfl, d, cs, 25, _, rfl, by decide, by decide, by omega, D5, fun z H6 z0 z1 k6 D6 => ?_⟩
      have M6 := M5.kp k6 nfo nls
      obtain ⟨z, rfl⟩ : ∃ z' : Nat, z = (z' : Int) := ⟨z.toNat, by omega⟩
      obtain ⟨pa, ea, ra, ha⟩ := M6.row am
      refine ⟨_, rfl, _, rfl, fo, _, _, _, rfl, rfl, SqL.of M6.l, ra, _, rfl, pa, _, _, _, rfl, rfl, ha, rowV_ix bm, ?_⟩
      have M7 := M6.set (v := z) ea bm
      have npa := nls pa (List.mem_of_getElem? ea)
      have k36 : Kp [d, cs] H H6 := Kp.trans k3 (Kp.trans k4 (Kp.trans k5 k6))
      have wr : ∀ {G : Hp} {p : Addr} {o : HO}, Kp [d, cs] H G → p ∈ ls → Kp [d, cs] H (upd G p o) := fun {G p o} kk hp c u hc e => by
        have np : c ≠ p := fun z => by rw [z, al p hp] at e; cases e
        rw [upd_ne np]
        exact kk c u hc e
      have dw : ∀ {G : Hp} {p : Addr} {o : HO} {j : Int}, Deck3 G d cs j → p ∉ [d, cs] → Deck3 (upd G p o) d cs j := fun {G p o j} DD hp => by
        have h1 : d ≠ p := fun z => hp (by rw [← z]; exact List.mem_cons_self)
        have h2 : cs ≠ p := fun z => hp (by rw [← z]; exact List.mem_cons_of_mem _ List.mem_cons_self)
        exact DD.kp (M := [p]) (fun c u hc e => by rw [upd_ne (fun z => hc (by rw [z]; exact List.mem_cons_self))]; exact e) (fun z => h1 (List.mem_singleton.mp z)) (fun z => h2 (List.mem_singleton.mp z))
      have k7 := wr (o := .lst ((rowV Y m a).set b (.int (z : Nat)))) k36 (List.mem_of_getElem? ea)
      have D7 := dw (o := .lst ((rowV Y m a).set b (.int (z : Nat)))) D6 npa
      generalize upd H6 pa (.lst ((rowV Y m a).set b (.int (z : Nat)))) = H7 at M7 k7 D7
      have le7 : X24m (setM Y a b z) m := fun x hx y hy => by
        unfold setM
        split
        · omega
        · exact le3 x hx y hy
      refine ⟨_, rfl, d, cs, 2, _, rfl, by decide, by decide, by omega, D7, fun c8 H8 c80 c81 k8 D8 => ⟨rfl, _, rfl, ?_⟩⟩
      have M8 := M7.kp k8 nfo nls
      refine iteI (fun _ => ?_) fun _ => ⟨_, _, _, _, rfl, M8, le7, Kp.trans k7 k8, D8.mono (by omega)⟩
      obtain ⟨pa, ea, ra, ha⟩ := M8.row am
      obtain ⟨pb, eb, rb, hb⟩ := M8.row bm
      refine ⟨_, rfl, _, rfl, fo, _, _, _, rfl, rfl, SqL.of M8.l, ra, _, rfl, pa, _, _, _, rfl, rfl, SqL.of ha, rowV_at bm, ?_⟩
      refine ⟨_, rfl, _, rfl, fo, _, _, _, rfl, rfl, SqL.of M8.l, rb, _, rfl, pb, _, _, _, rfl, rfl, hb, rowV_ix am, ?_⟩
      have M9 := M8.set (v := setM Y a b z a b) eb am
      exact ⟨_, _, _, _, rfl, M9, fun x hx y hy => by
        unfold setM
        split
        · have := le7 a am b bm
          unfold setM at this
          exact this
        · have := le7 x hx y hy
          unfold setM at this
          exact this, wr (Kp.trans k7 k8) (List.mem_of_getElem? eb), (dw D8 (nls pb (List.mem_of_getElem? eb))).mono (by omega)⟩
    rintro σ H3 ⟨v3, v4, v5, Y, rfl, M3, le3, k3, D3⟩
    refine ⟨_, rfl, fo, rfl, ⟨_, SqL.of M3.l⟩, fun D0 nD => ?_⟩
    refine lc_it (walk_list (K := K) (a := fo) (xs := ls.map V.ref)) (fun j H' => ∃ ys : List V, Same H3 H' ∧ H' D0 = some (.lst ys) ∧ RpL K H' ((List.range j).map (rowD Y m)) ys) ⟨[], (L2.Same.refl _).new nD, upd_same, RpL.nil⟩ (fun j H' _ ⟨ys, s', _⟩ => SqL.of (s' _ _ M3.l)) ?_ ?_
    · rintro j x H4 H4' hj ⟨ys, s4, hD4, ry4⟩ ⟨rfl, hx⟩
      rw [List.length_map, M3.len] at hj
      obtain ⟨p, ep, rp, gp⟩ := M3.row hj
      rw [List.getElem?_map, ep] at hx
      cases hx
      refine ⟨rfl, tYes_t (iteT ?_)⟩
      refine ⟨_, rfl, p, _, rfl, .inl ⟨SqL.of (s4 _ _ gp), fun t n_t => ?_⟩⟩
      have e : rowV Y m j = ((List.range m).map fun o => ((Y j o : Nat) : Int)).map V.int := by
        unfold rowV
        rw [List.map_map]
        rfl
      rw [e]
      obtain ⟨H5, e5, s5, h5⟩ := new_any (o := .tup (((List.range m).map fun o => ((Y j o : Nat) : Int)).map V.int)) n_t
      rw [← e5]
      have r5 : Rp K H5 (rowD Y m j) (.ref t) := by
        rw [rowD_ints]
        exact Rp.tup h5 (rpl_ints _)
      have hD5 := s5 _ _ hD4
      have ly := RpL.len _ _ ry4
      rw [List.length_map, List.length_range] at ly
      refine ⟨ys, hD5, Nat.lt_of_le_of_lt (show ys.length ≤ 8 by omega) (by decide), ys ++ [.ref t], (s4.trans s5).wrn nD, upd_same, ?_⟩
      have tE : TK H5 (upd H5 D0 (.lst (ys ++ [.ref t]))) := (TK.refl _).wr hD5 rfl
      rw [List.range_succ, List.map_append]
      exact RpL.app (RpL.tk ((TK.of s5).trans tE) _ _ ry4) (RpL.cons (Rp.tk tE _ _ r5) RpL.nil)
    · rintro H4 ⟨ys, s4, hD4, ry4⟩
      rw [List.length_map, M3.len] at ry4
      refine ⟨D0, ys, rfl, .inl ⟨SqL.of hD4, fun t n_t => ?_⟩⟩
      have ry4 : RpL K H4 (gridD Y m) ys := ry4
      generalize e_H5 : upd _ t _ = H5
      obtain ⟨s5, r5⟩ := new_tup (K := K) n_t e_H5 (by walk_at "rpl")
      clear e_H5
      exact k H5 t Y (Kp.trans k3 (Kp.of (s4.trans s5))) ((D3.same (s4.trans s5)).mono (by omega)) r5 le3
theorem scThing : FnScope ["_law_deck_here", "_law_houses", "_law_roads_here", "_law_up", "_law_way", "_law_right", "_law_fars", "_law_k", "_law_row", "_law_j"] ["_law_deck_here", "_law_houses", "_law_roads_here", "_law_up"] (defScope sThing) := ⟨rfl, rfl, rfl, by decide +kernel, rfl, by decide +kernel, by decide +kernel⟩
theorem ok_thing {f : Addr} {fd : FuncData} (F : Fun K "_law_thing" "_law_thing" sThing f fd) (B : KBo mg) (cN : Cd P w K mg base 1 "_law_draw" ["_law_deck_here", "_law_many"] spDraw) (cO : Cd P w K mg base 2 "_law_odd" ["_law_deck_here"] (spOddB K))
    (cB : Cd P w K mg base 5 "_law_bent" ["_law_deck_here", "_law_thing_here", "_law_deep"] (spBentB K 2)) (cT : Cd P w K mg base 1 "_law_turned" ["_law_houses", "_law_roads_here", "_law_up", "_law_fars"] (spTurned K)) (cS : Cd P w K mg base 1 "_law_shortest" ["_law_houses", "_law_roads_here", "_law_up"] (spShort K))
    (cC : Cd P w K mg base 2 "_law_changed" ["_law_deck_here", "_law_fars"] (spChanged K)) : FnOk P w K mg base CX0 6 f fd ["_law_deck_here", "_law_houses", "_law_roads_here", "_law_up"] (spThing K) := by
  obtain ⟨fN, fdN, GN, mN, kN, bN⟩ := cN.tk
  obtain ⟨fO, fdO, GO, mO, kO, bO⟩ := cO
  obtain ⟨fB, fdB, GB, mB, kB, bB⟩ := cB
  obtain ⟨fT, fdT, GT, mT, kT, bT⟩ := cT
  obtain ⟨fS, fdS, GS, mS, kS, bS⟩ := cS
  obtain ⟨fC, fdC, GC, mC, kC, bC⟩ := cC
  refine F.ok scThing (fun vs H Q E h => ?_) (fun cdv A outer s H vs Q E hr h => ?_)
  · obtain ⟨d, cs, n, m, rs, bs, la, ua, rfl, _⟩ := h
    rfl
  · obtain ⟨d, cs, n, m, rs, bs, la, ua, rfl, D, hn, hL, hU, nu, lb, R, m1, k⟩ := h
    have hr1 : Room 1 _ := hr.mono (by decide)
    have hr2 : Room 2 _ := hr.mono (by decide)
    have hr5 : Room 5 _ := hr.mono (by decide)
    refine ⟨_, (pss_cons (ps_set (i := 4) scThing.nd rfl (Or.inl rfl) (pe_call GN hr1 rfl mN kN bN .nil pass0 (pa_cons (pv 0) (pa_cons pe_int pa_nil))))
       (pss_cons (ps_set (i := 5) scThing.nd rfl (Or.inl rfl) (pe_call GS hr1 rfl mS kS bS .nil pass0 (pa_cons (pv 1) (pa_cons (pv 2) (pa_cons (pv 3) pa_nil)))))
       (pss_cons (ps_if (pt_cmpR op_eq (pv 4) pe_int (nomark _))
       (pss_one (ps_ret (pv 5)))
       pss_nil)
       (pss_cons (ps_if (pt_cmpR op_lt (pv 4) pe_int (nomark _))
       (pss_one (ps_ret (pe_call GC hr2 rfl mC kC bC .nil pass0 (pa_cons (pv 0) (pa_cons (pv 5) pa_nil)))))
       pss_nil)
       (pss_cons (ps_if (pt_cmpR op_eq (pv 4) pe_int (nomark _))
       (pss_one (ps_ret (pe_call GS hr1 rfl mS kS bS .nil pass0 (pa_cons (pv 1) (pa_cons (pv 2) (pa_cons (pe_lc (own := [("_law_row", 8)]) (g := (gName 8)) (tt := tYes) rfl scThing.nd (pi_tup (pv 2)) (blkOk_by (N := ["_law_deck_here", "_law_houses", "_law_roads_here", "_law_up", "_law_way", "_law_right", "_law_fars", "_law_k", "_law_row", "_law_j"]) (sc := defScope sThing) (by decide +kernel))
       (fun _ _ _ _ _ => (pg_name (i := 8) scThing.nd rfl (Or.inl rfl))) (fun _ _ _ _ _ => pts_nil) (fun _ _ _ _ _ => (pe_cmpR op_gt (pe_call GN hr1 rfl mN kN bN .nil pass0 (pa_cons (pv 0) (pa_cons pe_int pa_nil))) pe_int (nomark _)))) pa_nil))))))
       pss_nil)
       (pss_cons (ps_if (pt_cmpR op_eq (pv 4) pe_int (nomark _))
       (pss_cons (ps_set (i := 6) scThing.nd rfl (Or.inl rfl) (pe_callTy (tupOfK (K := K) rfl) (by rfl) B.tuple PyProof.Rows.boot_tuple (pa_cons (pe_lc (own := [("_law_j", 9)]) (g := (gName 9)) (tt := tYes) rfl scThing.nd (pi_range1 rfl B.range (pa_cons (pv 1) pa_nil)) (blkOk_by (N := ["_law_deck_here", "_law_houses", "_law_roads_here", "_law_up", "_law_way", "_law_right", "_law_fars", "_law_k", "_law_row", "_law_j"]) (sc := defScope sThing) (by decide +kernel))
       (fun _ _ _ _ _ => (pg_name (i := 9) scThing.nd rfl (Or.inl rfl))) (fun _ _ _ _ _ => pts_nil) (fun _ _ _ _ _ => (pe_callTy (tupOfK (K := K) rfl) (by rfl) B.tuple PyProof.Rows.boot_tuple (pa_cons (pe_lc (own := [("_law_k", 7)]) (g := (gName 7)) (tt := tYes) rfl scThing.nd (pi_range1 rfl B.range (pa_cons (pv 1) pa_nil)) (blkOk_by (by kernel_rfl))
       (fun _ _ _ _ _ => (pg_name (i := 7) scThing.nd rfl (Or.inl rfl))) (fun _ _ _ _ _ => pts_nil) (fun _ _ _ _ _ => (pe_call GN hr1 rfl mN kN bN .nil pass0 (pa_cons (pv 0) (pa_cons pe_int pa_nil))))) pa_nil)))) pa_nil)))
       (pss_cons (ps_for PassesOwn.never rfl (pi_range1 rfl B.range (pa_cons (pe_call GN hr1 rfl mN kN bN .nil pass0 (pa_cons (pv 0) (pa_cons pe_int pa_nil))) pa_nil)) (pg_name (i := 7) scThing.nd rfl (Or.inl rfl))
       (pss_one (ps_set (i := 6) scThing.nd rfl (Or.inl rfl) (pe_call GT hr1 rfl mT kT bT .nil pass0 (pa_cons (pv 1) (pa_cons (pv 2) (pa_cons (pv 3) (pa_cons (pv 6) pa_nil))))))))
       (pss_one (ps_ret (pv 6)))))
       pss_nil)
       (pss_cons (ps_if (pt_cmpR op_eq (pv 4) pe_int (nomark _))
       (pss_one (ps_ret (pe_call GO hr2 rfl mO kO bO .nil pass0 (pa_cons (pv 0) pa_nil))))
       pss_nil)
       (pss_one (ps_ret (pe_call GB hr5 rfl mB kB bB .nil pass0 (pa_cons (pv 0) (pa_cons (pv 5) (pa_cons pe_int pa_nil))))))))))))), ?_⟩
    have m8 := R.m8
    have lr := R.few
    obtain ⟨xs, hxs, rx⟩ := hL.inv
    have lx := RpL.len _ _ rx
    rw [List.length_map] at lx
    refine ⟨_, rfl, d, cs, 8, n, rfl, by decide, by decide, by omega, D, fun way H1 w0 w1 k1 D1 t1 => ?_⟩
    have hL1 := hL.tk t1
    have hU1 := k1 _ _ nu hU
    refine ⟨_, rfl, _, rfl, _, rfl, m, rs, bs, la, ua, rfl, hL1, SqL.of hU1, lb, R, fun H2 a2 s2 g2 => ?_⟩
    have D2 := D1.same s2
    have hL2 := hL1.tk (TK.of s2)
    have hU2 := s2 _ _ hU1
    have k02 : Kp [d, cs] H H2 := Kp.trans k1 (Kp.of s2)
    have t02 : TK H H2 := t1.trans (TK.of s2)
    have le2 := fw_24 (rs.zip bs) m m
    generalize fwM (rs.zip bs) m = W at g2 le2
    have fin : ∀ (H' : Hp) (a : Addr) (Y : Mx) (j : Int), Kp [d, cs] H H' → Deck3 H' d cs j → j ≤ n + 200 → TupAt K H' a (gridD Y m) → X24m Y m → Q (.ref a) H' := fun H' a Y j kk DD hj g le => k H' (.ref a) _ kk (DD.mono hj) (Rp.dkh DD.lm _ g) ((grid_gq le m8).mono (by decide) (by decide) (by decide) (by decide))
    dsimp only [gName, List.set]
    refine ⟨_, rfl, rfl, _, rfl, iteI (fun _ => ?_) fun _ => ?_⟩
    · exact ⟨_, rfl, fin H2 a2 W _ k02 D2 (by omega) g2 le2⟩
    dsimp only [tNext]
    refine ⟨_, rfl, _, _, rfl, rfl, _, rfl, iteP (fun _ => ?_) fun _ => ?_⟩
    · refine ⟨_, rfl, _, rfl, d, cs, _, m, W, a2, rfl, D2, by omega, g2, le2, m1, m8, fun H3 a3 Y k3 D3 g3 le3 => ?_⟩
      exact fin H3 a3 Y _ (Kp.trans k02 k3) D3 (by omega) g3 le3
    dsimp only [tNext]
    have hxs2 := SqT.tk hxs t02
    refine ⟨_, rfl, rfl, _, rfl, iteI (fun _ => ?_) fun _ => ?_⟩
    · refine ⟨_, rfl, _, rfl, _, rfl, la, rfl, ⟨_, hxs2⟩, fun u3 n_u3 => ?_⟩
      have nu3 := D2.nm n_u3
      refine lc_it (walk_tup (K := K) (a := la) (xs := xs)) (fun j H' => ∃ bs : List Bool, bs.length = j ∧ H' u3 = some (.lst (bs.map V.bl)) ∧ Kp [d, cs] H2 H' ∧ TK H2 H' ∧ Deck3 H' d cs (n + 1 + j)) ⟨[], rfl, upd_same, Kp.of ((L2.Same.refl _).new n_u3), TK.of ((L2.Same.refl _).new n_u3), (D2.same ((L2.Same.refl _).new n_u3)).mono (by omega)⟩ (fun j H' _ ⟨bs, _, _, _, t, _⟩ => SqT.tk hxs2 t) ?_ ?_
      · rintro j x H5 H5' hj ⟨bs, lb, g5, k5, t5, D5⟩ ⟨rfl, _⟩
        refine ⟨rfl, tYes_t (iteT ?_)⟩
        refine ⟨_, rfl, d, cs, 3, _, rfl, by decide, by decide, by omega, D5, fun r5 H6 r50 r51 k6 D6 t6 => ?_⟩
        have g6 := k6 _ _ nu3 g5
        refine ⟨_, _, rfl, rfl, _, g6, Nat.lt_of_le_of_lt (show (bs.map V.bl).length ≤ 1000 by rw [List.length_map]; omega) (by decide), ?_⟩
        obtain ⟨H7, e_H7, k7, t7, g7⟩ := wr_any g6 rfl
        rw [← e_H7]
        clear e_H7
        have n1 : d ∉ [u3] := fun z => nu3 (by rw [← List.mem_singleton.mp z]; exact List.mem_cons_self)
        have n2 : cs ∉ [u3] := fun z => nu3 (by rw [← List.mem_singleton.mp z]; exact List.mem_cons_of_mem _ List.mem_cons_self)
        refine ⟨bs ++ [decide (r5 > 0)], by rw [List.length_append, List.length_singleton, lb], by rw [g7, List.map_append]; rfl, ?_, t5.trans (t6.trans t7), (D6.kp k7 n1 n2).mono (by omega)⟩
        exact fun c o hc e => k7 c o (nin1 (ne_of_none e n_u3)) (k6 c o hc (k5 c o hc e))
      rintro H5 ⟨bs', lb', g5, k5, t5, D5⟩
      rw [lx] at lb' D5
      exact ⟨m, rs, bs', la, u3, rfl, hL2.tk t5, SqL.of g5, lb', R, fun H6 a6 s6 g6 => fin H6 a6 _ _ (Kp.trans k02 (Kp.trans k5 (Kp.of s6))) (D5.same s6) (by omega) g6 (fw_24 _ _ _)⟩
    dsimp only [tNext]
    refine ⟨_, rfl, rfl, _, rfl, iteI (fun _ => ?_) fun _ => ?_⟩
    · refine ⟨_, rfl, m, rfl, by omega, by omega, fun D0 n_D0 => ?_⟩
      have nD0 := D2.nm n_D0
      rw [show ((m : Int)).toNat = m by omega]
      refine lc_it walk_range (fun j H' => ∃ (Y : Mx) (ys : List V), H' D0 = some (.lst ys) ∧ RpL K H' ((List.range j).map (rowD Y m)) ys ∧ (∀ x, x < j → ∀ y, y < m → Y x y ≤ 24) ∧ Kp [d, cs] H2 H' ∧ TK H2 H' ∧ Deck3 H' d cs (n + 1 + 8 * j)) ⟨fun _ _ => 0, [], upd_same, RpL.nil, (fun x hx => absurd hx (Nat.not_lt_zero _)), Kp.of ((L2.Same.refl _).new n_D0), TK.of ((L2.Same.refl _).new n_D0), (D2.same ((L2.Same.refl _).new n_D0)).mono (by omega)⟩ (fun _ _ _ _ => trivial) ?_ ?_
      · rintro j x H3 H3' hj ⟨Y, ys, g3, ry3, le3, k3, t3, D3⟩ ⟨rfl, rfl⟩
        refine ⟨rfl, tYes_t (iteT ?_)⟩
        refine ⟨_, rfl, m, rfl, by omega, by omega, fun D1 n_D1 => ?_⟩
        have nD1 := D3.nm n_D1
        rw [show ((m : Int)).toNat = m by omega]
        refine lc_it walk_range (fun i H' => ∃ f : Nat → Nat, H' D1 = some (.lst ((List.range i).map fun o => V.int (f o : Nat))) ∧ (∀ o, o < i → f o ≤ 24) ∧ Kp [d, cs] H3' H' ∧ TK H3' H' ∧ Deck3 H' d cs (n + 1 + 8 * j + i)) ⟨fun _ => 0, upd_same, (fun x hx => absurd hx (Nat.not_lt_zero _)), Kp.of ((L2.Same.refl _).new n_D1), TK.of ((L2.Same.refl _).new n_D1), (D3.same ((L2.Same.refl _).new n_D1)).mono (by omega)⟩ (fun _ _ _ _ => trivial) ?_ ?_
        · rintro i x H4 H4' hi ⟨f, g4, le4, k4, t4, D4⟩ ⟨rfl, rfl⟩
          refine ⟨rfl, tYes_t (iteT ?_)⟩
          refine ⟨_, rfl, d, cs, 25, _, rfl, by decide, by decide, by omega, D4, fun z H5 z0 z1 k5 D5 t5 => ?_⟩
          obtain ⟨z, rfl⟩ : ∃ z' : Nat, z = (z' : Int) := ⟨z.toNat, by omega⟩
          have g5 := k5 _ _ nD1 g4
          refine ⟨_, g5, Nat.lt_of_le_of_lt (show ((List.range i).map fun o => V.int (f o : Nat)).length ≤ 8 by rw [List.length_map, List.length_range]; omega) (by decide), ?_⟩
          obtain ⟨H6, e_H6, k6, t6, g6⟩ := wr_any g5 rfl
          rw [← e_H6]
          clear e_H6
          have n1 : d ∉ [D1] := fun z => nD1 (by rw [← List.mem_singleton.mp z]; exact List.mem_cons_self)
          have n2 : cs ∉ [D1] := fun z => nD1 (by rw [← List.mem_singleton.mp z]; exact List.mem_cons_of_mem _ List.mem_cons_self)
          refine ⟨fun o => if o = i then z else f o, ?_, fun o ho => ?_, fun c o hc e => k6 c o (nin1 (ne_of_none e n_D1)) (k5 c o hc (k4 c o hc e)), t4.trans (t5.trans t6), (D5.kp k6 n1 n2).mono (by omega)⟩
          · rw [g6, List.range_succ, List.map_append]
            congr 2
            · congr 1
              · exact List.map_congr_left fun o ho => by
                  dsimp only
                  rw [if_neg (by have := List.mem_range.mp ho; omega)]
              · show [V.int (z : Nat)] = [V.int ((if i = i then z else f i : Nat) : Int)]
                rw [if_pos rfl]
          · dsimp only
            split
            · omega
            · exact le4 o (by omega)
        rintro H4 ⟨f, g4, le4, k4, t4, D4⟩
        have e : ((List.range m).map fun o => V.int (f o : Nat)) = ((List.range m).map fun o => ((f o : Nat) : Int)).map V.int := by
          rw [List.map_map]
          rfl
        rw [e] at g4
        refine ⟨D1, _, rfl, .inl ⟨SqL.of g4, fun t n_t => ?_⟩⟩
        obtain ⟨H5, e5, s5, h5⟩ := new_any (o := .tup (((List.range m).map fun o => ((f o : Nat) : Int)).map V.int)) n_t
        rw [← e5]
        have g5 := s5 _ _ (k4 _ _ nD0 g3)
        have ly := RpL.len _ _ ry3
        rw [List.length_map, List.length_range] at ly
        refine ⟨ys, g5, Nat.lt_of_le_of_lt (show ys.length ≤ 8 by omega) (by decide), ?_⟩
        obtain ⟨H6, e_H6, k6, t6, g6⟩ := wr_any g5 rfl
        rw [← e_H6]
        clear e_H6
        have n1 : d ∉ [D0] := fun z => nD0 (by rw [← List.mem_singleton.mp z]; exact List.mem_cons_self)
        have n2 : cs ∉ [D0] := fun z => nD0 (by rw [← List.mem_singleton.mp z]; exact List.mem_cons_of_mem _ List.mem_cons_self)
        refine ⟨fun x y => if x = j then f y else Y x y, ys ++ [.ref t], g6, ?_, fun x hx y hy => ?_, fun c o hc e => k6 c o (nin1 (ne_of_none e n_D0)) (s5 c o (k4 c o hc (k3 c o hc e))), t3.trans (t4.trans ((TK.of s5).trans t6)), ((D4.same s5).kp k6 n1 n2).mono (by omega)⟩
        · rw [List.range_succ, List.map_append]
          have e1 : (List.range j).map (rowD (fun x y => if x = j then f y else Y x y) m) = (List.range j).map (rowD Y m) := List.map_congr_left fun x hx => by
            have := List.mem_range.mp hx
            unfold rowD
            rw [PyData.tuple.injEq]
            exact List.map_congr_left fun o _ => by
              dsimp only
              rw [if_neg (by omega)]
          rw [e1]
          refine RpL.app (RpL.tk (t4.trans ((TK.of s5).trans t6)) _ _ ry3) (RpL.cons ?_ RpL.nil)
          refine Rp.tk t6 _ _ ?_
          rw [rowD_ints]
          have e2 : ((List.range m).map fun o => (((if j = j then f o else Y j o) : Nat) : Int)) = (List.range m).map fun o => ((f o : Nat) : Int) := List.map_congr_left fun o _ => by rw [if_pos rfl]
          rw [e2]
          exact Rp.tup h5 (rpl_ints _)
        · dsimp only
          split
          · exact le4 y hy
          · exact le3 x (by omega) y hy
      rintro H3 ⟨Y, ys, g3, ry3, le3, k3, t3, D3⟩
      refine ⟨D0, ys, rfl, .inl ⟨SqL.of g3, fun t n_t => ?_⟩⟩
      have ry3 : RpL K H3 (gridD Y m) ys := ry3
      generalize e_H4 : upd _ t _ = H4
      obtain ⟨s4, r4⟩ := new_tup (K := K) n_t e_H4 (by walk_at "rpl")
      clear e_H4
      have D4 := D3.same s4
      have hL4 := (hL2.tk t3).tk (TK.of s4)
      have hU4 := s4 _ _ (k3 _ _ nu hU2)
      have k04 := Kp.trans k02 (Kp.trans k3 (Kp.of s4))
      refine ⟨_, rfl, d, cs, 30, _, rfl, by decide, by decide, by omega, D4, fun q H5 q0 q1 k5 D5 t5 => ?_⟩
      refine ⟨_, rfl, by omega, by omega, ?_⟩
      have r5 := r4.tk t5
      have hL5 := hL4.tk t5
      have hU5 := k5 _ _ nu hU4
      refine for_range (lo := 0) (fun i σ H' => ∃ (v7 : Option V) (ga : Addr) (Z : Mx), σ = [some (.ref d), some (.int m), some (.ref la), some (.ref ua), some (.int way), some (.ref a2), some (.ref ga), v7, none, none] ∧ Same H5 H' ∧ TupAt K H' ga (gridD Z m) ∧ X24m Z m) ⟨_, t, Y, rfl, L2.Same.refl _, r5, le3⟩ ?_ ?_
      · rintro i σ H6 hi ⟨v7, ga, Z, rfl, s6, g6, le6⟩
        exact ⟨_, rfl, _, rfl, _, rfl, _, rfl, m, rs, bs, Z, la, ua, ga, rfl, hL5.tk (TK.of s6), SqL.of (s6 _ _ hU5), g6, lb, R, fun H7 a7 s7 g7 => ⟨_, a7, _, rfl, s6.trans s7, g7, turn_24 _ _ _⟩⟩
      · rintro σ H6 ⟨v7, ga, Z, rfl, s6, g6, le6⟩
        exact ⟨_, rfl, fin H6 ga Z _ (Kp.trans k04 (Kp.trans k5 (Kp.of s6))) (D5.same s6) (by omega) g6 le6⟩
    dsimp only [tNext]
    refine ⟨_, rfl, rfl, _, rfl, iteI (fun _ => ?_) fun _ => ?_⟩
    · refine ⟨_, rfl, d, cs, _, rfl, D2, by omega, fun H3 v3 E3 k3 D3 q3 g3 => ?_⟩
      exact k H3 v3 E3 (Kp.trans k02 k3) (D3.mono (by omega)) q3 (g3.mono (by decide) (by decide) (by decide) (by decide))
    dsimp only [tNext]
    have G := grid_gq le2 m8
    refine ⟨_, rfl, _, rfl, d, cs, _, .ref a2, _, 10 ^ 25, 8, rfl, D2, by omega, Rp.dkh D2.lm _ g2, G.g, Nat.le_refl _, by have := G.b; omega, G.w, by decide, fun H3 v3 E3 k3 D3 q3 g3 => ?_⟩
    exact k H3 v3 E3 (Kp.trans k02 k3) (D3.mono (by omega)) q3 (g3.mono (by decide) (by have := G.n; omega) (by have := G.b; omega) (by decide))
end
end Wn

set_option maxHeartbeats 1600000
namespace Wn
open PySem L2
set_option pp.maxSteps 700
set_option pp.deepTerms false
local macro_rules | `(tactic| walk_at "h") => `(tactic| first | with_reducible assumption | (with_reducible exact upd_same) | (with_reducible apply g_upd; (walk_at "neq"); (walk_at "h")) | (with_reducible apply g_same; (with_reducible assumption); (walk_at "h")) | (with_reducible apply g_kp; (with_reducible assumption); (walk_at "nin"); (walk_at "h")) | (with_reducible apply g_tk; (with_reducible assumption); (walk_at "h")))
local macro_rules | `(tactic| walk_at "neq") => `(tactic| first | with_reducible assumption | (with_reducible apply Ne.symm; with_reducible assumption) | (with_reducible apply ne_upd; (with_reducible assumption)) | (with_reducible apply Ne.symm; with_reducible apply ne_upd; with_reducible assumption) | (with_reducible apply ne_fr; (with_reducible assumption); (walk_at "h")) | (with_reducible apply ne_fr'; (with_reducible assumption); (walk_at "h")) | (with_reducible apply ne_kd; (walk_at "h"); (walk_at "h"); (with_unfolding_all (intro z; cases z))))
local macro_rules | `(tactic| walk_at "nin") => `(tactic| first | (with_reducible exact nin0) | with_reducible assumption | (with_reducible apply ninc; (walk_at "neq"); (walk_at "nin")))
local macro_rules | `(tactic| walk_at "none") => `(tactic| first | with_reducible assumption | (with_reducible apply n_upd; (with_reducible assumption)) | (with_reducible apply n_same; (with_reducible assumption); (walk_at "none")) | (with_reducible apply n_kp; (with_reducible assumption); (walk_at "nin"); (walk_at "none")))
local macro_rules | `(tactic| walk_at "mem") => `(tactic| first | (with_reducible exact List.mem_cons_self) | (with_reducible apply List.mem_cons_of_mem; (walk_at "mem")))
local macro_rules | `(tactic| walk_at "am") => `(tactic| first | (with_reducible exact am0) | (with_reducible apply am1; (first | (apply Or.inl; walk_at "mem") | (apply Or.inr; walk_at "none")); (walk_at "am")))
local macro_rules | `(tactic| walk_at "tk") => `(tactic| first | (with_reducible exact TK.refl _) | with_reducible assumption | (with_reducible apply t_tk; (with_reducible assumption); (walk_at "tk")) | (with_reducible apply t_same; (with_reducible assumption); (walk_at "tk")) | (with_reducible apply t_new; (with_reducible assumption); (walk_at "tk")) | (with_reducible apply t_wr; (walk_at "h"); (with_unfolding_all rfl); (walk_at "tk")))
local macro_rules | `(tactic| walk_at "same") => `(tactic| first | (with_reducible exact L2.Same.refl _) | with_reducible assumption | (with_reducible apply s_same; (with_reducible assumption); (walk_at "same")) | (with_reducible apply s_new; (with_reducible assumption); (walk_at "same")) | (with_reducible apply s_wrn; (walk_at "none"); (walk_at "same")))
local macro_rules | `(tactic| walk_at "kp") => `(tactic| first | (with_reducible exact Kp.refl _ _) | with_reducible assumption | (with_reducible apply k_same; (with_reducible assumption); (walk_at "kp")) | (with_reducible apply k_kp; (with_reducible assumption); (walk_at "kp")) | (with_reducible apply k_kpm; (with_reducible assumption); (walk_at "am"); (walk_at "kp")) | (with_reducible apply k_new; (with_reducible assumption); (walk_at "kp")) | (with_reducible apply k_wr; (walk_at "mem"); (walk_at "kp")) | (with_reducible apply k_wrn; (walk_at "none"); (walk_at "kp")))
local macro_rules | `(tactic| walk_at "rp") => `(tactic| first | with_reducible assumption | (with_reducible exact Rp.int) | (with_reducible exact Rp.str) | (with_reducible exact Rp.none) | (with_reducible exact Rp.bool) | (with_reducible apply Rp.tk'; (with_reducible assumption); (walk_at "tk")) | (with_reducible apply Rp.tup; (walk_at "h"); (walk_at "rpl")))
local macro_rules | `(tactic| walk_at "rpl") => `(tactic| first | with_reducible assumption | (with_reducible exact RpL.nil) | (with_reducible apply RpL.tk'; (with_reducible assumption); (walk_at "tk")) | (with_reducible apply RpL.cons; (walk_at "rp"); (walk_at "rpl")))
local macro_rules | `(tactic| walk_at "g") => `(tactic| repeat (first | refine ⟨_, rfl, ?_⟩ | refine ⟨_, _, rfl, rfl, ?_⟩ | refine ⟨rfl, _, rfl, ?_⟩ | refine ⟨_, _, rfl, rfl, (by first | decide | omega), ?_⟩))
abbrev sLaw : Stmt := top 22
structure KBl (mg : Str → Option Value) : Prop where
  repr : mg "repr" = none
  range : mg "range" = none
  tuple : mg "tuple" = none

theorem rpl_bls {K : PySem.W.Frag} {H : Hp} : ∀ bs : List Bool, RpL K H (bs.map PyData.bool) (bs.map V.bl)
  | [] => RpL.nil
  | b :: bs => RpL.cons Rp.bool (rpl_bls bs)
theorem reprQK {X : Cx} {K : PySem.W.Frag} (hK : X.K = K) (hg : X.A.guards = some []) (hu : X.A.units + 64 < cLine) : CallR X (.builtin "repr") (rReprQ K) := hK ▸ call_reprQ hg hu
section
variable {P : Program} {w : World} {K : PySem.W.Frag} {mg : Str → Option Value} {base : Heap}
theorem scLaw : FnScope ["_law_script", "_law_deck_here", "_law_houses", "_law_roads_here", "_law_up", "_law_right", "_law_k", "_law_thing_here", "_law_kept", "_law_due", "_law_row"] ["_law_script"] (defScope sLaw) := ⟨rfl, rfl, rfl, by decide +kernel, rfl, by decide +kernel, by decide +kernel⟩
theorem ok_law {f : Addr} {fd : FuncData} (F : Fun K "law" "law" sLaw f fd) (B : KBl mg) (cD : Cd P w K mg base 1 "_law_deck" ["_law_script"] (spDeck3 K)) (cN : Cd P w K mg base 1 "_law_draw" ["_law_deck_here", "_law_many"] spDraw)
    (cR : Cd P w K mg base 2 "_law_roads" ["_law_deck_here", "_law_houses"] (spLRoads K)) (cS : Cd P w K mg base 1 "_law_shortest" ["_law_houses", "_law_roads_here", "_law_up"] (spShort K)) (cT : Cd P w K mg base 6 "_law_thing" ["_law_deck_here", "_law_houses", "_law_roads_here", "_law_up"] (spThing K))
    (cI : Cd P w K mg base 2 "_law_is_so" ["_law_houses", "_law_roads_here", "_law_up", "_law_thing_here"] (spIsSo K)) (cE : Cd P w K mg base 4 "is_settled" ["houses", "roads", "up", "fars"] (spSettledK K)) : LawOk P w K mg base f fd ["_law_script"] (spLaw K) := by
  obtain ⟨fD, fdD, GD, mD, kD, bD⟩ := cD
  obtain ⟨fN, fdN, GN, mN, kN, bN⟩ := cN.tk
  obtain ⟨fR, fdR, GR, mR, kR, bR⟩ := cR
  obtain ⟨fS, fdS, GS, mS, kS, bS⟩ := cS
  obtain ⟨fT, fdT, GT, mT, kT, bT⟩ := cT.tk
  obtain ⟨fI, fdI, GI, mI, kI, bI⟩ := cI
  obtain ⟨fE, fdE, GE, mE, kE, bE⟩ := cE
  refine law_ok (k := 6) F scLaw (fun vs H Q E h => ?_) ⟨rfl, by decide, by decide⟩ (fun cdv A s H vs Q hA hr h => ?_)
  · obtain ⟨a, ns, rfl, _⟩ := h
    rfl
  · obtain ⟨a, ns, rfl, hS, hl, k⟩ := h
    subst hA
    have hr1 : Room 1 _ := hr.mono (by decide)
    have hr2 : Room 2 _ := hr.mono (by decide)
    have hr4 : Room 4 _ := hr.mono (by decide)
    have hr6 : Room 6 _ := hr.mono (by decide)
    refine ⟨_, (pss_cons (ps_set (i := 1) scLaw.nd rfl (Or.inr rfl) (pe_call GD hr1 rfl mD kD bD .nil pass0 (pa_cons (pv 0) pa_nil)))
       (pss_cons (ps_set (i := 2) scLaw.nd rfl (Or.inl rfl) (pe_op op_add pe_int (pe_call GN hr1 rfl mN kN bN .nil pass0 (pa_cons (pv 1) (pa_cons pe_int pa_nil)))))
       (pss_cons (ps_set (i := 3) scLaw.nd rfl (Or.inl rfl) (pe_call GR hr2 rfl mR kR bR .nil pass0 (pa_cons (pv 1) (pa_cons (pv 2) pa_nil))))
       (pss_cons (ps_setLc (i := 4) (own := [("_law_row", 10)]) (g := (gName 10)) (tt := tYes) rfl scLaw.nd rfl rfl (sw_true rfl rfl rfl (by decide +kernel)) (pi_tup (pv 3)) (blkOk_by (N := ["_law_script", "_law_deck_here", "_law_houses", "_law_roads_here", "_law_up", "_law_right", "_law_k", "_law_thing_here", "_law_kept", "_law_due", "_law_row"]) (sc := defScope sLaw) (by decide +kernel))
       (fun _ _ _ _ _ => (pg_name (i := 10) scLaw.nd rfl (Or.inl rfl))) (fun _ _ _ _ _ => pts_nil) (fun _ _ _ _ _ => (pe_cmpR op_gt (pe_call GN hr1 rfl mN kN bN .nil pass0 (pa_cons (pv 1) (pa_cons pe_int pa_nil))) pe_int (nomark _))))
       (pss_cons (ps_set (i := 5) scLaw.nd rfl (Or.inl rfl) (pe_call GS hr1 rfl mS kS bS .nil pass0 (pa_cons (pv 2) (pa_cons (pv 3) (pa_cons (pv 4) pa_nil)))))
       (pss_cons (ps_for PassesOwn.never rfl (pi_range1 rfl B.range (pa_cons pe_int pa_nil)) (pg_name (i := 6) scLaw.nd rfl (Or.inl rfl))
       (pss_cons (ps_set (i := 7) scLaw.nd rfl (Or.inl rfl) (pe_call GT hr6 rfl mT kT bT .nil pass0 (pa_cons (pv 1) (pa_cons (pv 2) (pa_cons (pv 3) (pa_cons (pv 4) pa_nil))))))
       (pss_cons (ps_set (i := 8) scLaw.nd rfl (Or.inl rfl) (pe_callB (reprQK (K := K) rfl rfl hr.units) (by rfl) B.repr (by decide +kernel) (pa_cons (pv 7) pa_nil)))
       (pss_cons (ps_set (i := 9) scLaw.nd rfl (Or.inl rfl) (pe_call GI hr2 rfl mI kI bI .nil pass0 (pa_cons (pv 2) (pa_cons (pv 3) (pa_cons (pv 4) (pa_cons (pv 7) pa_nil))))))
       (pss_cons (ps_if (PW.pt (pw_or (pt_cmpR op_ne (pe_callB (reprQK (K := K) rfl rfl hr.units) (by rfl) B.repr (by decide +kernel) (pa_cons (pe_call GE hr4 rfl mE kE bE .nil pass0 (pa_cons (pv 2) (pa_cons (pv 3) (pa_cons (pe_callTy (tupOfK (K := K) rfl) (by rfl) B.tuple PyProof.Rows.boot_tuple (pa_cons (pv 4) pa_nil)) (pa_cons (pv 7) pa_nil))))) pa_nil)) (pe_callB (reprQK (K := K) rfl rfl hr.units) (by rfl) B.repr (by decide +kernel) (pa_cons (pv 9) pa_nil)) (nomark _)) (pw_or1 (pt_cmpR op_ne (pe_callB (reprQK (K := K) rfl rfl hr.units) (by rfl) B.repr (by decide +kernel) (pa_cons (pv 7) pa_nil)) (pv 8) (nomark _)))))
       (pss_one (ps_ret pe_bl))
       pss_nil)
       (pss_one (ps_if (PW.pt (pw_and (pt_val (pv 9)) (pw_and1 (pt_cmpR (neDK (K := K) rfl hr.units) (pv 7) (pv 5) (nomark _)))))
       (pss_one (ps_ret pe_bl))
       pss_nil)))))))
       (pss_one (ps_ret pe_bl)))))))), ?_⟩
    refine ⟨_, rfl, a, ns, rfl, hS, hl, fun H1 d cs nd ncs s1 D1 => ?_⟩
    refine ⟨_, rfl, d, cs, 6, 0, rfl, by decide, by decide, by decide, D1, fun r H2 r0 r1 k2 D2 t2 => ?_⟩
    refine ⟨_, _, rfl, rfl, ?_⟩
    obtain ⟨m, em, m1, m6⟩ : ∃ m : Nat, (1 : Int) + r = (m : Int) ∧ 1 ≤ m ∧ m ≤ 6 := ⟨(1 + r).toNat, by omega, by omega, by omega⟩
    dsimp only [gName, List.set, tNext]
    rw [em]
    clear em
    refine ⟨_, rfl, _, rfl, d, cs, _, m, rfl, D2, by decide, m1, by omega, fun H3 la rs hL3 R k3 D3 => ?_⟩
    have lr := R.few
    obtain ⟨xs, hxs, rx⟩ := hL3.inv
    have lx := RpL.len _ _ rx
    rw [List.length_map] at lx
    refine ⟨_, rfl, la, rfl, ⟨_, hxs⟩, fun ua n_ua => ?_⟩
    have nu := D3.nm n_ua
    refine lc_it (walk_tup (K := K) (a := la) (xs := xs)) (fun j H' => ∃ bs : List Bool, bs.length = j ∧ H' ua = some (.lst (bs.map V.bl)) ∧ Kp [d, cs] H3 H' ∧ TK H3 H' ∧ Deck3 H' d cs (401 + j)) ⟨[], rfl, upd_same, Kp.of ((L2.Same.refl _).new n_ua), TK.of ((L2.Same.refl _).new n_ua), (D3.same ((L2.Same.refl _).new n_ua)).mono (by omega)⟩ (fun j H' _ ⟨bs, _, _, _, t, _⟩ => SqT.tk hxs t) ?_ ?_
    · rintro j x H5 H5' hj ⟨bs, lb, g5, k5, t5, D5⟩ ⟨rfl, _⟩
      refine ⟨rfl, tYes_t (iteT ?_)⟩
      refine ⟨_, rfl, d, cs, 4, _, rfl, by decide, by decide, by omega, D5, fun r5 H6 r50 r51 k6 D6 t6 => ?_⟩
      have g6 := k6 _ _ nu g5
      refine ⟨_, _, rfl, rfl, _, g6, Nat.lt_of_le_of_lt (show (bs.map V.bl).length ≤ 1000 by rw [List.length_map]; omega) (by decide), ?_⟩
      obtain ⟨H7, e_H7, k7, t7, g7⟩ := wr_any g6 rfl
      rw [← e_H7]
      clear e_H7
      have n1 : d ∉ [ua] := fun z => nu (by rw [← List.mem_singleton.mp z]; exact List.mem_cons_self)
      have n2 : cs ∉ [ua] := fun z => nu (by rw [← List.mem_singleton.mp z]; exact List.mem_cons_of_mem _ List.mem_cons_self)
      refine ⟨bs ++ [decide (r5 > 0)], by rw [List.length_append, List.length_singleton, lb], by rw [g7, List.map_append]; rfl, ?_, t5.trans (t6.trans t7), (D6.kp k7 n1 n2).mono (by omega)⟩
      exact fun c o hc e => k7 c o (nin1 (ne_of_none e n_ua)) (k6 c o hc (k5 c o hc e))
    rintro H5 ⟨bs, lb, g5, k5, t5, D5⟩
    rw [lx] at lb D5
    have hL5 := hL3.tk t5
    have RI := rdsIn (bs := bs) R
    dsimp only [gName, List.set, tNext, L2.start]
    refine ⟨_, rfl, _, rfl, _, rfl, m, rs, bs, la, ua, rfl, hL5, SqL.of g5, lb, R, fun H6 ra s6 g6 => ?_⟩
    have D6 : Deck3 H6 d cs 500 := (D5.same s6).mono (by omega)
    refine ⟨8, rfl, by decide, by decide, ?_⟩
    refine for_range (lo := 0) (fun i σ H' => ∃ (v6 v7 v8 v9 v10 : Option V), σ = [some (.ref a), some (.ref d), some (.int m), some (.ref la), some (.ref ua), some (.ref ra), v6, v7, v8, v9, v10] ∧ Deck3 H' d cs (500 + 300 * i) ∧ Kp [d, cs] H6 H' ∧ TK H6 H') ⟨_, _, _, _, _, rfl, D6.mono (by omega), Kp.refl _ _, TK.refl _⟩ ?_ ?_
    · rintro i σ H7 hi ⟨v6, v7, v8, v9, v10, rfl, D7, k7, t7⟩
      have hi : i < 8 := hi
      have hL7 := (hL5.tk (TK.of s6)).tk t7
      have g7 := k7 _ _ nu (s6 _ _ g5)
      have r7 := g6.tk t7
      refine ⟨_, rfl, _, rfl, _, rfl, _, rfl, d, cs, _, m, rs, bs, la, ua, rfl, D7, by omega, hL7, g7, nu, lb, R, m1, fun H8 v E k8 D8 q8 G8 t8 => ?_⟩
      have q8' := q8.of_hid
      obtain ⟨e1, e2, e3, e4⟩ := G8.rep (by decide) (by decide) (by decide)
      have wE : wid E ≤ 100000 := Nat.le_trans G8.w (by decide)
      have hL8 := hL7.tk t8
      have g8 := k8 _ _ nu g7
      have k68 := Kp.trans k7 k8
      refine ⟨_, rfl, v, E, rfl, q8', e1, e2, e3, e4, ?_⟩
      refine ⟨_, rfl, _, rfl, _, rfl, _, rfl, m, rs, bs, la, ua, v, E, rfl, hL8, SqL.of g8, lb, R, q8', wE, fun H9 s9 => ?_⟩
      have q9 := q8'.sm s9
      refine ⟨_, rfl, _, rfl, _, rfl, ua, _, rfl, .inl ⟨SqL.of (s9 _ _ g8), fun t n_t => ?_⟩⟩
      obtain ⟨H10, e_H10, s10, r10⟩ := new_any n_t
      rw [← e_H10]
      clear e_H10
      have hU10 : TupAt K H10 t (bs.map PyData.bool) := Rp.tupS (SqT.of r10) (rpl_bls bs)
      refine ⟨_, rfl, m, rs, bs, la, t, v, E, rfl, (hL8.tk (TK.of s9)).tk (TK.of s10), hU10, lb, R, q9.sm s10, wE, fun H11 s11 => ?_⟩
      have bl : ∀ b : Bool, okQ (.bool b) = true ∧ (PyData.bool b).showable = true ∧ (PyData.bool b).depth ≤ 60 ∧ (PyData.bool b).shown.length ≤ sizeLine := fun b => by
        cases b <;> exact ⟨rfl, rfl, by decide, by decide +kernel⟩
      obtain ⟨b1, b2, b3, b4⟩ := bl (setB m (rs.zip bs) E)
      have sA := s9.trans (s10.trans s11)
      refine ⟨_, .bool (setB m (rs.zip bs) E), rfl, .bl _, b1, b2, b3, b4, _, rfl, _, .bool (setB m (rs.zip bs) E), rfl, .bl _, b1, b2, b3, b4, rfl, _, rfl, iteNS' (fun z => absurd rfl z) fun _ => ?_⟩
      refine ⟨_, rfl, v, E, rfl, q8'.sm sA, e1, e2, e3, e4, _, rfl, rfl, _, rfl, iteNS' (fun z => absurd rfl z) fun _ => ?_⟩
      have fin : ∀ (v6 v7 v8 v9 v10 : Option V) (H' : Hp), Same H8 H' → ∃ (v6' v7' v8' v9' v10' : Option V), [some (.ref a), some (.ref d), some (.int m), some (.ref la), some (.ref ua), some (.ref ra), v6, v7, v8, v9, v10] = [some (.ref a), some (.ref d), some (.int m), some (.ref la), some (.ref ua), some (.ref ra), v6', v7', v8', v9', v10'] ∧ Deck3 H' d cs (500 + 300 * (i + 1 : Nat)) ∧ Kp [d, cs] H6 H' ∧ TK H6 H' := fun v6 v7 v8 v9 v10 H' s => ⟨_, _, _, _, _, rfl, (D8.same s).mono (by omega), Kp.trans k68 (Kp.of s), t7.trans (t8.trans (TK.of s))⟩
      refine ⟨_, rfl, _, rfl, iteB (fun hb => ?_) fun _ => fin _ _ _ _ _ _ sA⟩
      obtain ⟨eE, FX⟩ := setB_fix hb
      have eqs := fw_fixed RI FX
      refine ⟨_, rfl, _, rfl, E, .tuple (gridD (fwM (rs.zip bs) m) m), ?_, Rp.dp _ _ ((r7.tk t8).tk (TK.of sA)), ?_, grid_shp _ _, _, rfl, ?_⟩
      · have z := q8'.sm sA
        rw [eE] at z ⊢
        obtain ⟨ga, eg, z'⟩ := Dk.tupAt z
        rw [eg]
        exact Rp.dp _ _ z'
      · rw [eE]
        exact grid_shp _ _
      · have ev : PyData.eqv E (.tuple (gridD (fwM (rs.zip bs) m) m)) = true := by
          rw [eE]
          exact grid_eqv.mpr eqs
        rw [ev]
        exact fin _ _ _ _ _ _ sA
    · rintro σ H7 ⟨v6, v7, v8, v9, v10, rfl, _⟩
      exact k H7
end
end Wn

set_option maxHeartbeats 4000000
namespace Wn
open PySem L2
theorem all_mk {l : PySem.W.OpenLaw} {w : World} {K : PySem.W.Frag} {h : Heap} {mg : Str → Option Value} {fa f_is_whole f_is_from f_near_rows f_turned_row f_turned_all f_is_row f_is_settled f_law_deck f_law_draw f_law_roads f_law_shortest f_law_odd f_law_bent f_law_number f_law_turned f_law_is_so f_law_changed f_law_thing f_law : Addr} (X : K.In h) (G : h.Ns mainGlobals mg) (hfa : mg "law" = some (.ref fa))
    {od_is_whole an_is_whole od_is_from an_is_from od_near_rows an_near_rows od_turned_row an_turned_row od_turned_all an_turned_all od_is_row an_is_row od_is_settled an_is_settled od_law_deck an_law_deck od_law_draw an_law_draw od_law_roads an_law_roads od_law_shortest an_law_shortest od_law_odd an_law_odd od_law_bent an_law_bent od_law_number an_law_number od_law_turned an_law_turned od_law_is_so an_law_is_so od_law_changed an_law_changed od_law_thing an_law_thing od_law an_law : Option Addr} {sl_is_whole sl_is_from sl_near_rows sl_turned_row sl_turned_all sl_is_row sl_is_settled sl_law_deck sl_law_draw sl_law_roads sl_law_shortest sl_law_odd sl_law_bent sl_law_number sl_law_turned sl_law_is_so sl_law_changed sl_law_thing sl_law : Array (Option Value)} {oc_is_whole kV_is_whole dc_is_whole pm_is_whole cd_is_whole ct_is_whole oc_is_from kV_is_from dc_is_from pm_is_from cd_is_from ct_is_from oc_near_rows kV_near_rows dc_near_rows pm_near_rows cd_near_rows ct_near_rows oc_turned_row kV_turned_row dc_turned_row pm_turned_row cd_turned_row ct_turned_row oc_turned_all kV_turned_all dc_turned_all pm_turned_all cd_turned_all ct_turned_all oc_is_row kV_is_row dc_is_row pm_is_row cd_is_row ct_is_row oc_is_settled kV_is_settled dc_is_settled pm_is_settled cd_is_settled ct_is_settled oc_law_deck kV_law_deck dc_law_deck pm_law_deck cd_law_deck ct_law_deck oc_law_draw kV_law_draw dc_law_draw pm_law_draw cd_law_draw ct_law_draw oc_law_roads kV_law_roads dc_law_roads pm_law_roads cd_law_roads ct_law_roads oc_law_shortest kV_law_shortest dc_law_shortest pm_law_shortest cd_law_shortest ct_law_shortest oc_law_odd kV_law_odd dc_law_odd pm_law_odd cd_law_odd ct_law_odd oc_law_bent kV_law_bent dc_law_bent pm_law_bent cd_law_bent ct_law_bent oc_law_number kV_law_number dc_law_number pm_law_number cd_law_number ct_law_number oc_law_turned kV_law_turned dc_law_turned pm_law_turned cd_law_turned ct_law_turned oc_law_is_so kV_law_is_so dc_law_is_so pm_law_is_so cd_law_is_so ct_law_is_so oc_law_changed kV_law_changed dc_law_changed pm_law_changed cd_law_changed ct_law_changed oc_law_thing kV_law_thing dc_law_thing pm_law_thing cd_law_thing ct_law_thing oc_law kV_law dc_law pm_law cd_law ct_law : Value} {t_FAR : Tok}
    (a_FAR : PySem.W.nsIn K mainGlobals "FAR" = some (some (.int 24 t_FAR)))
    (a_is_whole : PySem.W.nsIn K mainGlobals "is_whole" = some (some (.ref f_is_whole)))
    (l_is_whole : K.lookup f_is_whole = some ⟨oc_is_whole, od_is_whole, .func (PySem.W.fnOf "is_whole" "is_whole" (defArgs sWhole) (defBody sWhole) (defScope sWhole) .none kV_is_whole dc_is_whole pm_is_whole an_is_whole cd_is_whole ct_is_whole), sl_is_whole⟩)
    (c_is_whole : PySem.W.codeIn K cd_is_whole "is_whole" = true)
    (k_is_whole : PySem.W.keepIn K (.ref f_is_whole) = true)
    (a_is_from : PySem.W.nsIn K mainGlobals "is_from" = some (some (.ref f_is_from)))
    (l_is_from : K.lookup f_is_from = some ⟨oc_is_from, od_is_from, .func (PySem.W.fnOf "is_from" "is_from" (defArgs sFrom) (defBody sFrom) (defScope sFrom) .none kV_is_from dc_is_from pm_is_from an_is_from cd_is_from ct_is_from), sl_is_from⟩)
    (c_is_from : PySem.W.codeIn K cd_is_from "is_from" = true)
    (k_is_from : PySem.W.keepIn K (.ref f_is_from) = true)
    (a_near_rows : PySem.W.nsIn K mainGlobals "near_rows" = some (some (.ref f_near_rows)))
    (l_near_rows : K.lookup f_near_rows = some ⟨oc_near_rows, od_near_rows, .func (PySem.W.fnOf "near_rows" "near_rows" (defArgs sNear) (defBody sNear) (defScope sNear) .none kV_near_rows dc_near_rows pm_near_rows an_near_rows cd_near_rows ct_near_rows), sl_near_rows⟩)
    (c_near_rows : PySem.W.codeIn K cd_near_rows "near_rows" = true)
    (k_near_rows : PySem.W.keepIn K (.ref f_near_rows) = true)
    (a_turned_row : PySem.W.nsIn K mainGlobals "turned_row" = some (some (.ref f_turned_row)))
    (l_turned_row : K.lookup f_turned_row = some ⟨oc_turned_row, od_turned_row, .func (PySem.W.fnOf "turned_row" "turned_row" (defArgs sTRow) (defBody sTRow) (defScope sTRow) .none kV_turned_row dc_turned_row pm_turned_row an_turned_row cd_turned_row ct_turned_row), sl_turned_row⟩)
    (c_turned_row : PySem.W.codeIn K cd_turned_row "turned_row" = true)
    (k_turned_row : PySem.W.keepIn K (.ref f_turned_row) = true)
    (a_turned_all : PySem.W.nsIn K mainGlobals "turned_all" = some (some (.ref f_turned_all)))
    (l_turned_all : K.lookup f_turned_all = some ⟨oc_turned_all, od_turned_all, .func (PySem.W.fnOf "turned_all" "turned_all" (defArgs sTAll) (defBody sTAll) (defScope sTAll) .none kV_turned_all dc_turned_all pm_turned_all an_turned_all cd_turned_all ct_turned_all), sl_turned_all⟩)
    (c_turned_all : PySem.W.codeIn K cd_turned_all "turned_all" = true)
    (k_turned_all : PySem.W.keepIn K (.ref f_turned_all) = true)
    (a_is_row : PySem.W.nsIn K mainGlobals "is_row" = some (some (.ref f_is_row)))
    (l_is_row : K.lookup f_is_row = some ⟨oc_is_row, od_is_row, .func (PySem.W.fnOf "is_row" "is_row" (defArgs sIsRow) (defBody sIsRow) (defScope sIsRow) .none kV_is_row dc_is_row pm_is_row an_is_row cd_is_row ct_is_row), sl_is_row⟩)
    (c_is_row : PySem.W.codeIn K cd_is_row "is_row" = true)
    (k_is_row : PySem.W.keepIn K (.ref f_is_row) = true)
    (a_is_settled : PySem.W.nsIn K mainGlobals "is_settled" = some (some (.ref f_is_settled)))
    (l_is_settled : K.lookup f_is_settled = some ⟨oc_is_settled, od_is_settled, .func (PySem.W.fnOf "is_settled" "is_settled" (defArgs sSettled) (defBody sSettled) (defScope sSettled) .none kV_is_settled dc_is_settled pm_is_settled an_is_settled cd_is_settled ct_is_settled), sl_is_settled⟩)
    (c_is_settled : PySem.W.codeIn K cd_is_settled "is_settled" = true)
    (k_is_settled : PySem.W.keepIn K (.ref f_is_settled) = true)
    (a_law_deck : PySem.W.nsIn K mainGlobals "_law_deck" = some (some (.ref f_law_deck)))
    (l_law_deck : K.lookup f_law_deck = some ⟨oc_law_deck, od_law_deck, .func (PySem.W.fnOf "_law_deck" "_law_deck" (defArgs sDeck) (defBody sDeck) (defScope sDeck) .none kV_law_deck dc_law_deck pm_law_deck an_law_deck cd_law_deck ct_law_deck), sl_law_deck⟩)
    (c_law_deck : PySem.W.codeIn K cd_law_deck "_law_deck" = true)
    (k_law_deck : PySem.W.keepIn K (.ref f_law_deck) = true)
    (a_law_draw : PySem.W.nsIn K mainGlobals "_law_draw" = some (some (.ref f_law_draw)))
    (l_law_draw : K.lookup f_law_draw = some ⟨oc_law_draw, od_law_draw, .func (PySem.W.fnOf "_law_draw" "_law_draw" (defArgs sDraw) (defBody sDraw) (defScope sDraw) .none kV_law_draw dc_law_draw pm_law_draw an_law_draw cd_law_draw ct_law_draw), sl_law_draw⟩)
    (c_law_draw : PySem.W.codeIn K cd_law_draw "_law_draw" = true)
    (k_law_draw : PySem.W.keepIn K (.ref f_law_draw) = true)
    (a_law_roads : PySem.W.nsIn K mainGlobals "_law_roads" = some (some (.ref f_law_roads)))
    (l_law_roads : K.lookup f_law_roads = some ⟨oc_law_roads, od_law_roads, .func (PySem.W.fnOf "_law_roads" "_law_roads" (defArgs sLRoads) (defBody sLRoads) (defScope sLRoads) .none kV_law_roads dc_law_roads pm_law_roads an_law_roads cd_law_roads ct_law_roads), sl_law_roads⟩)
    (c_law_roads : PySem.W.codeIn K cd_law_roads "_law_roads" = true)
    (k_law_roads : PySem.W.keepIn K (.ref f_law_roads) = true)
    (a_law_shortest : PySem.W.nsIn K mainGlobals "_law_shortest" = some (some (.ref f_law_shortest)))
    (l_law_shortest : K.lookup f_law_shortest = some ⟨oc_law_shortest, od_law_shortest, .func (PySem.W.fnOf "_law_shortest" "_law_shortest" (defArgs sShort) (defBody sShort) (defScope sShort) .none kV_law_shortest dc_law_shortest pm_law_shortest an_law_shortest cd_law_shortest ct_law_shortest), sl_law_shortest⟩)
    (c_law_shortest : PySem.W.codeIn K cd_law_shortest "_law_shortest" = true)
    (k_law_shortest : PySem.W.keepIn K (.ref f_law_shortest) = true)
    (a_law_odd : PySem.W.nsIn K mainGlobals "_law_odd" = some (some (.ref f_law_odd)))
    (l_law_odd : K.lookup f_law_odd = some ⟨oc_law_odd, od_law_odd, .func (PySem.W.fnOf "_law_odd" "_law_odd" (defArgs sOddB) (defBody sOddB) (defScope sOddB) .none kV_law_odd dc_law_odd pm_law_odd an_law_odd cd_law_odd ct_law_odd), sl_law_odd⟩)
    (c_law_odd : PySem.W.codeIn K cd_law_odd "_law_odd" = true)
    (k_law_odd : PySem.W.keepIn K (.ref f_law_odd) = true)
    (a_law_bent : PySem.W.nsIn K mainGlobals "_law_bent" = some (some (.ref f_law_bent)))
    (l_law_bent : K.lookup f_law_bent = some ⟨oc_law_bent, od_law_bent, .func (PySem.W.fnOf "_law_bent" "_law_bent" (defArgs sBentB) (defBody sBentB) (defScope sBentB) .none kV_law_bent dc_law_bent pm_law_bent an_law_bent cd_law_bent ct_law_bent), sl_law_bent⟩)
    (c_law_bent : PySem.W.codeIn K cd_law_bent "_law_bent" = true)
    (k_law_bent : PySem.W.keepIn K (.ref f_law_bent) = true)
    (a_law_number : PySem.W.nsIn K mainGlobals "_law_number" = some (some (.ref f_law_number)))
    (l_law_number : K.lookup f_law_number = some ⟨oc_law_number, od_law_number, .func (PySem.W.fnOf "_law_number" "_law_number" (defArgs sNumB) (defBody sNumB) (defScope sNumB) .none kV_law_number dc_law_number pm_law_number an_law_number cd_law_number ct_law_number), sl_law_number⟩)
    (c_law_number : PySem.W.codeIn K cd_law_number "_law_number" = true)
    (k_law_number : PySem.W.keepIn K (.ref f_law_number) = true)
    (a_law_turned : PySem.W.nsIn K mainGlobals "_law_turned" = some (some (.ref f_law_turned)))
    (l_law_turned : K.lookup f_law_turned = some ⟨oc_law_turned, od_law_turned, .func (PySem.W.fnOf "_law_turned" "_law_turned" (defArgs sTurned) (defBody sTurned) (defScope sTurned) .none kV_law_turned dc_law_turned pm_law_turned an_law_turned cd_law_turned ct_law_turned), sl_law_turned⟩)
    (c_law_turned : PySem.W.codeIn K cd_law_turned "_law_turned" = true)
    (k_law_turned : PySem.W.keepIn K (.ref f_law_turned) = true)
    (a_law_is_so : PySem.W.nsIn K mainGlobals "_law_is_so" = some (some (.ref f_law_is_so)))
    (l_law_is_so : K.lookup f_law_is_so = some ⟨oc_law_is_so, od_law_is_so, .func (PySem.W.fnOf "_law_is_so" "_law_is_so" (defArgs sIsSo) (defBody sIsSo) (defScope sIsSo) .none kV_law_is_so dc_law_is_so pm_law_is_so an_law_is_so cd_law_is_so ct_law_is_so), sl_law_is_so⟩)
    (c_law_is_so : PySem.W.codeIn K cd_law_is_so "_law_is_so" = true)
    (k_law_is_so : PySem.W.keepIn K (.ref f_law_is_so) = true)
    (a_law_changed : PySem.W.nsIn K mainGlobals "_law_changed" = some (some (.ref f_law_changed)))
    (l_law_changed : K.lookup f_law_changed = some ⟨oc_law_changed, od_law_changed, .func (PySem.W.fnOf "_law_changed" "_law_changed" (defArgs sChanged) (defBody sChanged) (defScope sChanged) .none kV_law_changed dc_law_changed pm_law_changed an_law_changed cd_law_changed ct_law_changed), sl_law_changed⟩)
    (c_law_changed : PySem.W.codeIn K cd_law_changed "_law_changed" = true)
    (k_law_changed : PySem.W.keepIn K (.ref f_law_changed) = true)
    (a_law_thing : PySem.W.nsIn K mainGlobals "_law_thing" = some (some (.ref f_law_thing)))
    (l_law_thing : K.lookup f_law_thing = some ⟨oc_law_thing, od_law_thing, .func (PySem.W.fnOf "_law_thing" "_law_thing" (defArgs sThing) (defBody sThing) (defScope sThing) .none kV_law_thing dc_law_thing pm_law_thing an_law_thing cd_law_thing ct_law_thing), sl_law_thing⟩)
    (c_law_thing : PySem.W.codeIn K cd_law_thing "_law_thing" = true)
    (k_law_thing : PySem.W.keepIn K (.ref f_law_thing) = true)
    (a_law : PySem.W.nsIn K mainGlobals "law" = some (some (.ref f_law)))
    (l_law : K.lookup f_law = some ⟨oc_law, od_law, .func (PySem.W.fnOf "law" "law" (defArgs sLaw) (defBody sLaw) (defScope sLaw) .none kV_law dc_law pm_law an_law cd_law ct_law), sl_law⟩)
    (c_law : PySem.W.codeIn K cd_law "law" = true)
    (k_law : PySem.W.keepIn K (.ref f_law) = true)
    (z_len : PySem.W.nsIn K mainGlobals "len" = some none)
    (z_range : PySem.W.nsIn K mainGlobals "range" = some none)
    (z_min : PySem.W.nsIn K mainGlobals "min" = some none)
    (z_zip : PySem.W.nsIn K mainGlobals "zip" = some none)
    (z_isinstance : PySem.W.nsIn K mainGlobals "isinstance" = some none)
    (z_tuple : PySem.W.nsIn K mainGlobals "tuple" = some none)
    (z_bool : PySem.W.nsIn K mainGlobals "bool" = some none)
    (z_int : PySem.W.nsIn K mainGlobals "int" = some none)
    (z_all : PySem.W.nsIn K mainGlobals "all" = some none)
    (z_abs : PySem.W.nsIn K mainGlobals "abs" = some none)
    (z_list : PySem.W.nsIn K mainGlobals "list" = some none)
    (z_str : PySem.W.nsIn K mainGlobals "str" = some none)
    (z_repr : PySem.W.nsIn K mainGlobals "repr" = some none) :
    ∃ fd : FuncData, (∀ (s : Shared) (v : Value), BindsTo s fd ⟨[v], []⟩ [("_law_script", v)]) ∧ ∀ base : Heap, K.In base → base.Ns mainGlobals mg → LawOk l.prog w K mg base fa fd ["_law_script"] (spLaw K) := by
  have e := hfa.symm.trans (PySem.W.mg_of X G a_law)
  cases e
  have m_FAR := PySem.W.mg_of X G a_FAR
  have F_is_whole := fun_mk (st := sWhole) l_is_whole c_is_whole k_is_whole
  have b_is_whole := F_is_whole.binds (ps := ["thing"]) fun _ _ _ _ _ _ us hl => match us, hl with | [_], _ => rfl
  have m_is_whole := PySem.W.mg_of X G a_is_whole
  have F_is_from := fun_mk (st := sFrom) l_is_from c_is_from k_is_from
  have b_is_from := F_is_from.binds (ps := ["thing", "low", "high"]) fun _ _ _ _ _ _ us hl => match us, hl with | [_, _, _], _ => rfl
  have m_is_from := PySem.W.mg_of X G a_is_from
  have F_near_rows := fun_mk (st := sNear) l_near_rows c_near_rows k_near_rows
  have b_near_rows := F_near_rows.binds (ps := ["houses", "roads", "up"]) fun _ _ _ _ _ _ us hl => match us, hl with | [_, _, _], _ => rfl
  have m_near_rows := PySem.W.mg_of X G a_near_rows
  have F_turned_row := fun_mk (st := sTRow) l_turned_row c_turned_row k_turned_row
  have b_turned_row := F_turned_row.binds (ps := ["near", "fars", "house"]) fun _ _ _ _ _ _ us hl => match us, hl with | [_, _, _], _ => rfl
  have m_turned_row := PySem.W.mg_of X G a_turned_row
  have F_turned_all := fun_mk (st := sTAll) l_turned_all c_turned_all k_turned_all
  have b_turned_all := F_turned_all.binds (ps := ["near", "fars"]) fun _ _ _ _ _ _ us hl => match us, hl with | [_, _], _ => rfl
  have m_turned_all := PySem.W.mg_of X G a_turned_all
  have F_is_row := fun_mk (st := sIsRow) l_is_row c_is_row k_is_row
  have b_is_row := F_is_row.binds (ps := ["houses", "thing"]) fun _ _ _ _ _ _ us hl => match us, hl with | [_, _], _ => rfl
  have m_is_row := PySem.W.mg_of X G a_is_row
  have F_is_settled := fun_mk (st := sSettled) l_is_settled c_is_settled k_is_settled
  have b_is_settled := F_is_settled.binds (ps := ["houses", "roads", "up", "fars"]) fun _ _ _ _ _ _ us hl => match us, hl with | [_, _, _, _], _ => rfl
  have m_is_settled := PySem.W.mg_of X G a_is_settled
  have F_law_deck := fun_mk (st := sDeck) l_law_deck c_law_deck k_law_deck
  have b_law_deck := F_law_deck.binds (ps := ["_law_script"]) fun _ _ _ _ _ _ us hl => match us, hl with | [_], _ => rfl
  have m_law_deck := PySem.W.mg_of X G a_law_deck
  have F_law_draw := fun_mk (st := sDraw) l_law_draw c_law_draw k_law_draw
  have b_law_draw := F_law_draw.binds (ps := ["_law_deck_here", "_law_many"]) fun _ _ _ _ _ _ us hl => match us, hl with | [_, _], _ => rfl
  have m_law_draw := PySem.W.mg_of X G a_law_draw
  have F_law_roads := fun_mk (st := sLRoads) l_law_roads c_law_roads k_law_roads
  have b_law_roads := F_law_roads.binds (ps := ["_law_deck_here", "_law_houses"]) fun _ _ _ _ _ _ us hl => match us, hl with | [_, _], _ => rfl
  have m_law_roads := PySem.W.mg_of X G a_law_roads
  have F_law_shortest := fun_mk (st := sShort) l_law_shortest c_law_shortest k_law_shortest
  have b_law_shortest := F_law_shortest.binds (ps := ["_law_houses", "_law_roads_here", "_law_up"]) fun _ _ _ _ _ _ us hl => match us, hl with | [_, _, _], _ => rfl
  have m_law_shortest := PySem.W.mg_of X G a_law_shortest
  have F_law_odd := fun_mk (st := sOddB) l_law_odd c_law_odd k_law_odd
  have b_law_odd := F_law_odd.binds (ps := ["_law_deck_here"]) fun _ _ _ _ _ _ us hl => match us, hl with | [_], _ => rfl
  have m_law_odd := PySem.W.mg_of X G a_law_odd
  have F_law_bent := fun_mk (st := sBentB) l_law_bent c_law_bent k_law_bent
  have b_law_bent := F_law_bent.binds (ps := ["_law_deck_here", "_law_thing_here", "_law_deep"]) fun _ _ _ _ _ _ us hl => match us, hl with | [_, _, _], _ => rfl
  have m_law_bent := PySem.W.mg_of X G a_law_bent
  have F_law_number := fun_mk (st := sNumB) l_law_number c_law_number k_law_number
  have b_law_number := F_law_number.binds (ps := ["_law_thing_here", "_law_low", "_law_high"]) fun _ _ _ _ _ _ us hl => match us, hl with | [_, _, _], _ => rfl
  have m_law_number := PySem.W.mg_of X G a_law_number
  have F_law_turned := fun_mk (st := sTurned) l_law_turned c_law_turned k_law_turned
  have b_law_turned := F_law_turned.binds (ps := ["_law_houses", "_law_roads_here", "_law_up", "_law_fars"]) fun _ _ _ _ _ _ us hl => match us, hl with | [_, _, _, _], _ => rfl
  have m_law_turned := PySem.W.mg_of X G a_law_turned
  have F_law_is_so := fun_mk (st := sIsSo) l_law_is_so c_law_is_so k_law_is_so
  have b_law_is_so := F_law_is_so.binds (ps := ["_law_houses", "_law_roads_here", "_law_up", "_law_thing_here"]) fun _ _ _ _ _ _ us hl => match us, hl with | [_, _, _, _], _ => rfl
  have m_law_is_so := PySem.W.mg_of X G a_law_is_so
  have F_law_changed := fun_mk (st := sChanged) l_law_changed c_law_changed k_law_changed
  have b_law_changed := F_law_changed.binds (ps := ["_law_deck_here", "_law_fars"]) fun _ _ _ _ _ _ us hl => match us, hl with | [_, _], _ => rfl
  have m_law_changed := PySem.W.mg_of X G a_law_changed
  have F_law_thing := fun_mk (st := sThing) l_law_thing c_law_thing k_law_thing
  have b_law_thing := F_law_thing.binds (ps := ["_law_deck_here", "_law_houses", "_law_roads_here", "_law_up"]) fun _ _ _ _ _ _ us hl => match us, hl with | [_, _, _, _], _ => rfl
  have m_law_thing := PySem.W.mg_of X G a_law_thing
  have F_law := fun_mk (st := sLaw) l_law c_law k_law
  have b_law := F_law.binds (ps := ["_law_script"]) fun _ _ _ _ _ _ us hl => match us, hl with | [_], _ => rfl
  have n_len := PySem.W.mg_none_of X G z_len
  have n_range := PySem.W.mg_none_of X G z_range
  have n_min := PySem.W.mg_none_of X G z_min
  have n_zip := PySem.W.mg_none_of X G z_zip
  have n_isinstance := PySem.W.mg_none_of X G z_isinstance
  have n_tuple := PySem.W.mg_none_of X G z_tuple
  have n_bool := PySem.W.mg_none_of X G z_bool
  have n_int := PySem.W.mg_none_of X G z_int
  have n_all := PySem.W.mg_none_of X G z_all
  have n_abs := PySem.W.mg_none_of X G z_abs
  have n_list := PySem.W.mg_none_of X G z_list
  have n_str := PySem.W.mg_none_of X G z_str
  have n_repr := PySem.W.mg_none_of X G z_repr
  refine ⟨PySem.W.fnOf "law" "law" (defArgs sLaw) (defBody sLaw) (defScope sLaw) .none kV_law dc_law pm_law an_law cd_law ct_law, fun s v => .of_eq rfl, fun base _ _ => ?_⟩
  have FBx : FB mg := ⟨n_range, n_zip, n_len, n_min, n_tuple⟩
  have Bs : SB mg := ⟨n_range, n_len, n_tuple, n_int, n_min⟩
  have Bo : KBo mg := ⟨n_isinstance, n_str, n_int, n_bool, n_tuple, n_list, n_range, n_len⟩
  have St : StB mg := ⟨n_isinstance, n_tuple, n_len, n_all⟩
  have hFAR : ∃ t, mg "FAR" = some (.int 24 t) := ⟨_, m_FAR⟩
  have cW : Cd l.prog w K mg base 1 "is_whole" ["thing"] (spWholeK K) := ⟨_, _, ok_wholeK F_is_whole ⟨n_isinstance, n_int, n_bool⟩, m_is_whole, k_is_whole, b_is_whole⟩
  have cF : Cd l.prog w K mg base 2 "is_from" ["thing", "low", "high"] (spFromK K) := ⟨_, _, ok_fromK F_is_from cW, m_is_from, k_is_from, b_is_from⟩
  have cNr : Cd l.prog w K mg base 1 "near_rows" ["houses", "roads", "up"] (spNear K) := ⟨_, _, ok_near F_near_rows FBx, m_near_rows, k_near_rows, b_near_rows⟩
  have cTr : Cd l.prog w K mg base 1 "turned_row" ["near", "fars", "house"] (spTRow K) := ⟨_, _, ok_trow F_turned_row FBx hFAR, m_turned_row, k_turned_row, b_turned_row⟩
  have cTa : Cd l.prog w K mg base 2 "turned_all" ["near", "fars"] (spTAll K) := ⟨_, _, ok_tall F_turned_all FBx cTr, m_turned_all, k_turned_all, b_turned_all⟩
  have cIr : Cd l.prog w K mg base 3 "is_row" ["houses", "thing"] (spIsRowK K) := ⟨_, _, ok_isrowK F_is_row St hFAR cF, m_is_row, k_is_row, b_is_row⟩
  have cSe : Cd l.prog w K mg base 4 "is_settled" ["houses", "roads", "up", "fars"] (spSettledK K) := ⟨_, _, ok_settledK F_is_settled St cIr cNr cTa, m_is_settled, k_is_settled, b_is_settled⟩
  have cR : Cd l.prog w K mg base 1 "_law_draw" ["_law_deck_here", "_law_many"] spDraw := ⟨_, _, ok_draw F_law_draw n_len, m_law_draw, k_law_draw, b_law_draw⟩
  have cD : Cd l.prog w K mg base 1 "_law_deck" ["_law_script"] (spDeck3 K) := ⟨_, _, ok_deck3 F_law_deck n_abs, m_law_deck, k_law_deck, b_law_deck⟩
  have cL : Cd l.prog w K mg base 2 "_law_roads" ["_law_deck_here", "_law_houses"] (spLRoads K) := ⟨_, _, ok_lroads F_law_roads ⟨n_range, n_len, n_tuple⟩ cR, m_law_roads, k_law_roads, b_law_roads⟩
  have cS : Cd l.prog w K mg base 1 "_law_shortest" ["_law_houses", "_law_roads_here", "_law_up"] (spShort K) := ⟨_, _, ok_short F_law_shortest Bs, m_law_shortest, k_law_shortest, b_law_shortest⟩
  have cO : Cd l.prog w K mg base 2 "_law_odd" ["_law_deck_here"] (spOddB K) := ⟨_, _, ok_oddB F_law_odd Bo cR, m_law_odd, k_law_odd, b_law_odd⟩
  have cB : Cd l.prog w K mg base 5 "_law_bent" ["_law_deck_here", "_law_thing_here", "_law_deep"] (spBentB K 2) := ⟨_, _, ok_bentB F_law_bent Bo cR cO m_law_bent k_law_bent b_law_bent 2, m_law_bent, k_law_bent, b_law_bent⟩
  have cU : Cd l.prog w K mg base 1 "_law_number" ["_law_thing_here", "_law_low", "_law_high"] (spNumB K) := ⟨_, _, ok_numB F_law_number Bo, m_law_number, k_law_number, b_law_number⟩
  have cT : Cd l.prog w K mg base 1 "_law_turned" ["_law_houses", "_law_roads_here", "_law_up", "_law_fars"] (spTurned K) := ⟨_, _, ok_turned F_law_turned Bs, m_law_turned, k_law_turned, b_law_turned⟩
  have cI : Cd l.prog w K mg base 2 "_law_is_so" ["_law_houses", "_law_roads_here", "_law_up", "_law_thing_here"] (spIsSo K) := ⟨_, _, ok_isso F_law_is_so Bo cU cT, m_law_is_so, k_law_is_so, b_law_is_so⟩
  have cC : Cd l.prog w K mg base 2 "_law_changed" ["_law_deck_here", "_law_fars"] (spChanged K) := ⟨_, _, ok_changed F_law_changed Bo cR, m_law_changed, k_law_changed, b_law_changed⟩
  have cG : Cd l.prog w K mg base 6 "_law_thing" ["_law_deck_here", "_law_houses", "_law_roads_here", "_law_up"] (spThing K) := ⟨_, _, ok_thing F_law_thing Bo cR cO cB cT cS cC, m_law_thing, k_law_thing, b_law_thing⟩
  exact ok_law F_law ⟨n_repr, n_range, n_tuple⟩ cD cR cL cS cG cI cSe
theorem walk {l : PySem.W.OpenLaw} {q : Program} {loose : List Str} {XP : (Str → Option Value) → Heap → Prop} {YP : World → Heap → Prop} {d : DefRec} {K : Params → PySem.W.Frag} (hn : l.most = some 63) (hdf : d.params.defaults = [])
    (hY : ∀ (w : World) (h : Heap), YP w h → (K w.params).In h)
    (F : ∀ (w : World) (mg : Str → Option Value) (fa : Addr) (h : Heap), (K w.params).In h → h.Ns mainGlobals mg → mg d.name = some (.ref fa) →
      ∃ fd : FuncData, (∀ (s : Shared) (u : Value), BindsTo s fd ⟨[u], []⟩ [("_law_script", u)]) ∧ ∀ base : Heap, (K w.params).In base → base.Ns mainGlobals mg → LawOk l.prog w (K w.params) mg base fa fd ["_law_script"] (spLaw (K w.params))) :
    PySem.W.WalkO q loose XP YP l.row.toRowW d [] (fun f vs => PySem.call f vs) :=
  walkG (n := 63) (x := "_law_script") (sp := fun w => spLaw (K w.params)) hn (by decide) hdf hY F fun _ _ a ns hl hS => ⟨a, ns, rfl, hS, hl, fun _ => rfl⟩
end Wn

open PySem PySem.W PyProof.Rows in
set_option maxRecDepth 100000 in
set_option maxHeartbeats 0 in
theorem PySem.Challenge.cw_wrapnets_k04_whole_settled_fars_alone_holds : PySem.Challenge.rw_wrapnets_k04_whole_settled_fars_alone.Holds := by
  w_on; o_law; k_head; (case hw => w_witness2)
  k_fill
  refine Wn.walk (l := PySem.Challenge.rw_wrapnets_k04_whole_settled_fars_alone) rfl rfl (fun w h Y => PySem.W.kIn_of Y) ?F
  case F =>
    intro w mg fa h KX G hmg
    refine' Wn.all_mk KX G hmg ?a_FAR ?a_is_whole ?l_is_whole ?c_is_whole ?k_is_whole ?a_is_from ?l_is_from ?c_is_from ?k_is_from ?a_near_rows ?l_near_rows ?c_near_rows ?k_near_rows ?a_turned_row ?l_turned_row ?c_turned_row ?k_turned_row ?a_turned_all ?l_turned_all ?c_turned_all ?k_turned_all ?a_is_row ?l_is_row ?c_is_row ?k_is_row ?a_is_settled ?l_is_settled ?c_is_settled ?k_is_settled ?a_law_deck ?l_law_deck ?c_law_deck ?k_law_deck ?a_law_draw ?l_law_draw ?c_law_draw ?k_law_draw ?a_law_roads ?l_law_roads ?c_law_roads ?k_law_roads ?a_law_shortest ?l_law_shortest ?c_law_shortest ?k_law_shortest ?a_law_odd ?l_law_odd ?c_law_odd ?k_law_odd ?a_law_bent ?l_law_bent ?c_law_bent ?k_law_bent ?a_law_number ?l_law_number ?c_law_number ?k_law_number ?a_law_turned ?l_law_turned ?c_law_turned ?k_law_turned ?a_law_is_so ?l_law_is_so ?c_law_is_so ?k_law_is_so ?a_law_changed ?l_law_changed ?c_law_changed ?k_law_changed ?a_law_thing ?l_law_thing ?c_law_thing ?k_law_thing ?a_law ?l_law ?c_law ?k_law ?z_len ?z_range ?z_min ?z_zip ?z_isinstance ?z_tuple ?z_bool ?z_int ?z_all ?z_abs ?z_list ?z_str ?z_repr
    (case a_FAR => k_is)
    (case a_is_whole => k_is)
    (case l_is_whole => k_is)
    (case c_is_whole => k_is)
    (case k_is_whole => k_is)
    (case a_is_from => k_is)
    (case l_is_from => k_is)
    (case c_is_from => k_is)
    (case k_is_from => k_is)
    (case a_near_rows => k_is)
    (case l_near_rows => k_is)
    (case c_near_rows => k_is)
    (case k_near_rows => k_is)
    (case a_turned_row => k_is)
    (case l_turned_row => k_is)
    (case c_turned_row => k_is)
    (case k_turned_row => k_is)
    (case a_turned_all => k_is)
    (case l_turned_all => k_is)
    (case c_turned_all => k_is)
    (case k_turned_all => k_is)
    (case a_is_row => k_is)
    (case l_is_row => k_is)
    (case c_is_row => k_is)
    (case k_is_row => k_is)
    (case a_is_settled => k_is)
    (case l_is_settled => k_is)
    (case c_is_settled => k_is)
    (case k_is_settled => k_is)
    (case a_law_deck => k_is)
    (case l_law_deck => k_is)
    (case c_law_deck => k_is)
    (case k_law_deck => k_is)
    (case a_law_draw => k_is)
    (case l_law_draw => k_is)
    (case c_law_draw => k_is)
    (case k_law_draw => k_is)
    (case a_law_roads => k_is)
    (case l_law_roads => k_is)
    (case c_law_roads => k_is)
    (case k_law_roads => k_is)
    (case a_law_shortest => k_is)
    (case l_law_shortest => k_is)
    (case c_law_shortest => k_is)
    (case k_law_shortest => k_is)
    (case a_law_odd => k_is)
    (case l_law_odd => k_is)
    (case c_law_odd => k_is)
    (case k_law_odd => k_is)
    (case a_law_bent => k_is)
    (case l_law_bent => k_is)
    (case c_law_bent => k_is)
    (case k_law_bent => k_is)
    (case a_law_number => k_is)
    (case l_law_number => k_is)
    (case c_law_number => k_is)
    (case k_law_number => k_is)
    (case a_law_turned => k_is)
    (case l_law_turned => k_is)
    (case c_law_turned => k_is)
    (case k_law_turned => k_is)
    (case a_law_is_so => k_is)
    (case l_law_is_so => k_is)
    (case c_law_is_so => k_is)
    (case k_law_is_so => k_is)
    (case a_law_changed => k_is)
    (case l_law_changed => k_is)
    (case c_law_changed => k_is)
    (case k_law_changed => k_is)
    (case a_law_thing => k_is)
    (case l_law_thing => k_is)
    (case c_law_thing => k_is)
    (case k_law_thing => k_is)
    (case a_law => k_is)
    (case l_law => k_is)
    (case c_law => k_is)
    (case k_law => k_is)
    (case z_len => k_is)
    (case z_range => k_is)
    (case z_min => k_is)
    (case z_zip => k_is)
    (case z_isinstance => k_is)
    (case z_tuple => k_is)
    (case z_bool => k_is)
    (case z_int => k_is)
    (case z_all => k_is)
    (case z_abs => k_is)
    (case z_list => k_is)
    (case z_str => k_is)
    (case z_repr => k_is)
