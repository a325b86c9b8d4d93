import PyProof.Rows.All
import Wide.All
import OpenK.AllK
import Wide.FinOn
import HandS.ForMost
import HandS.IsInst
import HandS.Flow
import HandS.SortInts
import HandS.More
import HandS.Text
import HandS.Walk
import HandS.Conv
import PyProof.Draws
import PyProof.EnumMake
import HandS.Codes
import HandS.TupLe
import PyProof.Rows.ChunkEnd
import PySem.Challenge.RW_wrapnets_k25_whole_cut_again_and_joined
set_option Elab.async false
set_option maxRecDepth 100000
set_option linter.all false
namespace Wn
open PySem L2

/-- what a caller knows of a def: that it keeps a promise, and where it stands -/
def Cd (P : Program) (w : World) (K : PySem.W.Frag) (mg : Str → Option Value) (base : Heap) (k : Nat) (name : Str) (ps : List Str) (sp : Sp) : Prop :=
  ∃ (f : Addr) (fd : FuncData), FnOk P w K mg base CX0 k f fd ps sp ∧ mg name = some (.ref f) ∧ PySem.W.keepIn K (.ref f) = true ∧ Binds K fd ps []
/-- what a caller knows of a method -/
def Md (P : Program) (w : World) (K : PySem.W.Frag) (mg : Str → Option Value) (base : Heap) (k : Nat) (C : Addr) (name : Str) (ps : List Str) (sp : Sp) : Prop :=
  ∃ (f : Addr) (fd : FuncData), FnOk P w K mg base CX0 k f fd ps sp ∧ Meth K C name f ∧ Binds K fd ps []

/-- all but some addresses stay -/
def Kp (M : List Addr) (H H' : Hp) : Prop := ∀ b o, b ∉ M → H b = some o → H' b = some o
theorem Kp.refl (M : List Addr) (H : Hp) : Kp M H H := fun _ _ _ h => h
theorem Kp.trans {M : List Addr} {H H1 H2 : Hp} (a : Kp M H H1) (b : Kp M H1 H2) : Kp M H H2 := fun c o hc h => b c o hc (a c o hc h)
theorem Kp.mono {M M' : List Addr} {H H1 : Hp} (a : Kp M H H1) (h : ∀ x ∈ M, x ∈ M') : Kp M' H H1 := fun c o hc q => a c o (fun z => hc (h c z)) q
theorem Kp.of {M : List Addr} {H H1 : Hp} (a : Same H H1) : Kp M H H1 := fun c o _ q => a c o q
theorem Kp.new {M : List Addr} {H H1 : Hp} {p : Addr} {o : HO} (a : Kp M H H1) (hp : H1 p = none) : Kp M H (upd H1 p o) := fun c u hc q => by
  rw [upd_ne (ne_of_none (a c u hc q) hp)]
  exact a c u hc q
theorem Kp.wr {M : List Addr} {H H1 : Hp} {p : Addr} {o : HO} (a : Kp M H H1) (hp : p ∈ M) : Kp M H (upd H1 p o) := fun c u hc q => by
  rw [upd_ne (show c ≠ p from fun z => hc (by rw [z]; exact hp))]
  exact a c u hc q
/-- a write to what wasn't there at first -/
theorem Kp.wrn {M : List Addr} {H H1 : Hp} {p : Addr} {o : HO} (a : Kp M H H1) (hp : H p = none) : Kp M H (upd H1 p o) := fun c u hc q => by
  rw [upd_ne (ne_of_none q hp)]
  exact a c u hc q
theorem _root_.L2.Same.new {H H1 : Hp} {p : Addr} {o : HO} (a : Same H H1) (hp : H1 p = none) : Same H (upd H1 p o) := fun c u q => by
  rw [upd_ne (ne_of_none (a c u q) hp)]
  exact a c u q
theorem _root_.L2.Same.wrn {H H1 : Hp} {p : Addr} {o : HO} (a : Same H H1) (hp : H p = none) : Same H (upd H1 p o) := fun c u q => by
  rw [upd_ne (ne_of_none q hp)]
  exact a c u q

/-- a while by a word and a measure -/
theorem while_m {c : TT} {tb : TS} {D : Ends} {σ : L2.St} {H : Hp} (Pv : L2.St → Hp → Prop) (μ : L2.St → Hp → Nat) (h0 : Pv σ H)
    (hs : ∀ m σ H, m = μ σ H → Pv σ H → c σ H fun b H1 => if b = true then ∃ N : L2.St → Hp → Prop, (∀ σ' H', N σ' H' → ∃ m', m' < m ∧ (m' = μ σ' H' ∧ Pv σ' H')) ∧ tb { D with nx := N, ct := N, bk := D.nx } σ H1 else D.nx σ H1) : tWhile c tb D σ H :=
  ⟨fun m σ H => m = μ σ H ∧ Pv σ H, ⟨_, rfl, h0⟩, fun m σ H ⟨e, p⟩ => hs m σ H e p⟩

/-! ### the deck -/
def spMixed : Sp := fun vs H Q _ => ∃ (c a : Int), vs = [.int c, .int a] ∧ -1 ≤ a ∧ a < 2 ^ 60 ∧ ∀ r : Int, Q (.int r) H
/-- a deck at d, of which n draws were taken at most -/
def Deck (H : Hp) (d f : Addr) (n : Int) : Prop :=
  ∃ (a wh : Int) (xs : List Int), H d = some (.lst [.int a, .int wh, .ref f]) ∧ H f = some (.lst (xs.map V.int)) ∧ 0 ≤ a ∧ a ≤ n ∧ xs.length ≤ 100000
def spNext : Sp := fun vs H Q _ => ∃ (d f : Addr) (m n : Int), vs = [.ref d, .int m] ∧ 0 < m ∧ n < 2 ^ 60 ∧ Deck H d f n ∧
  ∀ (r : Int) (H' : Hp), 0 ≤ r → r < m → Kp [d] H H' → Deck H' d f (n + 1) → Q (.int r) H'
def spDeck (K : PySem.W.Frag) : Sp := fun vs H Q _ => ∃ (a : Addr) (ns : List Int), vs = [.ref a] ∧ SqL K H a (ns.map V.int) ∧ ns.length ≤ 63 ∧
  ∀ (H' : Hp) (d f : Addr), H d = none → H f = none → Same H H' → Deck H' d f 0 → Q (.ref d) H'
end Wn

namespace Wn
open PySem L2
/-! ### tuples stay, whatever is called -/
def TK (H H' : Hp) : Prop := (∀ b xs, H b = some (.tup xs) → H' b = some (.tup xs)) ∧ (∀ b o u, H b = some (.frz o u) → H' b = some (.frz o u))
theorem TK.refl (H : Hp) : TK H H := ⟨fun _ _ h => h, fun _ _ _ h => h⟩
theorem TK.trans {H H1 H2 : Hp} (a : TK H H1) (b : TK H1 H2) : TK H H2 := ⟨fun c o h => b.1 c o (a.1 c o h), fun c o u h => b.2 c o u (a.2 c o u h)⟩
theorem TK.of {H H1 : Hp} (a : Same H H1) : TK H H1 := ⟨fun c o h => a _ _ h, fun c o u h => a _ _ h⟩
theorem TK.new {H H1 : Hp} {p : Addr} {o : HO} (a : TK H H1) (hp : H1 p = none) : TK H (upd H1 p o) :=
  ⟨fun c u q => by rw [upd_ne (ne_of_none (a.1 c u q) hp)]; exact a.1 c u q, fun c u z q => by rw [upd_ne (ne_of_none (a.2 c u z q) hp)]; exact a.2 c u z q⟩
/-- what is neither a tuple nor locked may be written -/
def Wrt : HO → Bool
  | .tup _ => false
  | .frz _ _ => false
  | _ => true
theorem TK.wr {H H1 : Hp} {p : Addr} {o u : HO} (a : TK H H1) (hp : H1 p = some u) (hu : Wrt u = true) : TK H (upd H1 p o) :=
  ⟨fun c v q => by
    have h1 := a.1 c v q
    rw [upd_ne (ne_of h1 hp (fun z => by rw [← z] at hu; cases hu))]
    exact h1, fun c v z q => by
    have h1 := a.2 c v z q
    rw [upd_ne (ne_of h1 hp (fun z => by rw [← z] at hu; cases hu))]
    exact h1⟩
theorem _root_.L2.FnOk.tk {P : Program} {w : World} {K : PySem.W.Frag} {mg : Str → Option Value} {base : Heap} {k : Nat} {f : Addr} {fd : FuncData} {ps : List Str} {sp : Sp} (F : FnOk P w K mg base CX0 k f fd ps sp) :
    FnOk P w K mg base CX0 k f fd ps (fun vs H Q E => sp vs H (fun v H' => TK H H' → Q v H') E) := by
  refine ⟨fun vs H Q E q => F.len vs H _ E q, fun A outer s H args us vs Q E hr he hb hv hs => ?_⟩
  refine codeAny_mono (F.run A outer s H args us vs _ E hr he hb hv hs) fun r s' h => ?_
  cases r with
  | ok fl =>
    cases fl with
    | ret u =>
      obtain ⟨v, H', e1, e2, e3, e4, e5, q⟩ := h
      exact ⟨v, H', e1, e2, e3, e4, e5, q ⟨e3.tups, e3.frzs⟩⟩
    | _ => exact h
  | error e => exact h
/-- a promise, tuples kept besides -/
def Tk (sp : Sp) : Sp := fun vs H Q E => sp vs H (fun v H' => TK H H' → Q v H') E
theorem Cd.tk {P : Program} {w : World} {K : PySem.W.Frag} {mg : Str → Option Value} {base : Heap} {k : Nat} {name : Str} {ps : List Str} {sp : Sp} (h : Cd P w K mg base k name ps sp) : Cd P w K mg base k name ps (Tk sp) := by
  obtain ⟨f, fd, G, a, b, c⟩ := h
  exact ⟨f, fd, G.tk, a, b, c⟩
theorem Md.tk {P : Program} {w : World} {K : PySem.W.Frag} {mg : Str → Option Value} {base : Heap} {k : Nat} {C : Addr} {name : Str} {ps : List Str} {sp : Sp} (h : Md P w K mg base k C name ps sp) : Md P w K mg base k C name ps (Tk sp) := by
  obtain ⟨f, fd, G, a, b⟩ := h
  exact ⟨f, fd, G.tk, a, b⟩

/-! ### data: None, truths, ints, texts, tuples of these -/
mutual
def Rp (K : PySem.W.Frag) (H : Hp) : PyData → V → Prop
  | .none, v => v = .non
  | .bool b, v => v = .bl b
  | .int i, v => v = .int i
  | .str s, v => v = .str s
  | .tuple ds, v => ∃ a xs, v = .ref a ∧ SqT K H a xs ∧ RpL K H ds xs
  | .list _, _ => False
  | .dict _, _ => False
def RpL (K : PySem.W.Frag) (H : Hp) : List PyData → List V → Prop
  | [], xs => xs = []
  | d :: ds, xs => ∃ v r, xs = v :: r ∧ Rp K H d v ∧ RpL K H ds r
end
mutual
def dep : PyData → Nat
  | .tuple xs => deps xs + 1
  | _ => 0
def deps : List PyData → Nat
  | [] => 0
  | x :: xs => max (dep x) (deps xs)
end
mutual
def sz : PyData → Nat
  | .tuple xs => szs xs + 1
  | _ => 1
def szs : List PyData → Nat
  | [] => 0
  | x :: xs => sz x + szs xs
end
theorem SqT.tk {K : PySem.W.Frag} {H H' : Hp} {a : Addr} {xs : List V} (h : SqT K H a xs) (e : TK H H') : SqT K H' a xs := by
  rcases h with (h | ⟨o, h⟩) | h
  · exact .inl (.inl (e.1 _ _ h))
  · exact .inl (.inr ⟨o, e.2 _ _ _ h⟩)
  · exact .inr h
mutual
theorem Rp.tk {K : PySem.W.Frag} {H H' : Hp} (e : TK H H') : ∀ (d : PyData) (v : V), Rp K H d v → Rp K H' d v
  | .none, _, h => h
  | .bool _, _, h => h
  | .int _, _, h => h
  | .str _, _, h => h
  | .tuple ds, v, h => by
    unfold Rp at h ⊢
    obtain ⟨a, xs, rfl, hs, hl⟩ := h
    exact ⟨a, xs, rfl, SqT.tk hs e, RpL.tk e ds xs hl⟩
  | .list _, _, h => h
  | .dict _, _, h => h
theorem RpL.tk {K : PySem.W.Frag} {H H' : Hp} (e : TK H H') : ∀ (ds : List PyData) (xs : List V), RpL K H ds xs → RpL K H' ds xs
  | [], _, h => h
  | d :: ds, xs, h => by
    unfold RpL at h ⊢
    obtain ⟨v, r, rfl, h1, h2⟩ := h
    exact ⟨v, r, rfl, Rp.tk e d v h1, RpL.tk e ds r h2⟩
end
theorem RpL.len {K : PySem.W.Frag} {H : Hp} : ∀ (ds : List PyData) (xs : List V), RpL K H ds xs → xs.length = ds.length
  | [], xs, h => by
    unfold RpL at h
    rw [h]
    rfl
  | d :: ds, xs, h => by
    unfold RpL at h
    obtain ⟨v, r, rfl, h1, h2⟩ := h
    rw [List.length_cons, List.length_cons, RpL.len ds r h2]
theorem RpL.get {K : PySem.W.Frag} {H : Hp} : ∀ (ds : List PyData) (xs : List V), RpL K H ds xs → ∀ (i : Nat) (d : PyData), ds[i]? = some d → ∃ v, xs[i]? = some v ∧ Rp K H d v
  | [], xs, h, i, d, e => by cases e
  | d :: ds, xs, h, i, d', e => by
    unfold RpL at h
    obtain ⟨v, r, rfl, h1, h2⟩ := h
    cases i with
    | zero =>
      simp only [List.getElem?_cons_zero, Option.some.injEq] at e
      exact ⟨v, rfl, e ▸ h1⟩
    | succ i =>
      simp only [List.getElem?_cons_succ] at e ⊢
      exact RpL.get ds r h2 i d' e
theorem RpL.of {K : PySem.W.Frag} {H : Hp} : ∀ (ds : List PyData) (xs : List V), xs.length = ds.length → (∀ (i : Nat) (d : PyData) (v : V), ds[i]? = some d → xs[i]? = some v → Rp K H d v) → RpL K H ds xs
  | [], xs, h, _ => by
    unfold RpL
    exact List.length_eq_zero_iff.mp h
  | d :: ds, [], h, _ => by cases h
  | d :: ds, v :: r, h, k => by
    unfold RpL
    refine ⟨v, r, rfl, k 0 d v rfl rfl, RpL.of ds r (by simpa using h) fun i d' v' h1 h2 => k (i + 1) d' v' ?_ ?_⟩
    · simpa using h1
    · simpa using h2
theorem RpL.snoc {K : PySem.W.Frag} {H : Hp} {d : PyData} {v : V} (h : Rp K H d v) : ∀ (ds : List PyData) (xs : List V), RpL K H ds xs → RpL K H (ds ++ [d]) (xs ++ [v])
  | [], xs, q => by
    unfold RpL at q
    subst q
    show RpL K H [d] [v]
    unfold RpL
    exact ⟨v, [], rfl, h, by unfold RpL; rfl⟩
  | d' :: ds, xs, q => by
    unfold RpL at q
    obtain ⟨v', r, rfl, h1, h2⟩ := q
    show RpL K H (d' :: (ds ++ [d])) (v' :: (r ++ [v]))
    unfold RpL
    exact ⟨_, _, rfl, h1, RpL.snoc h ds r h2⟩
theorem dep_get : ∀ (ds : List PyData) (i : Nat) (d : PyData), ds[i]? = some d → dep d ≤ deps ds
  | [], i, d, e => by cases e
  | x :: xs, 0, d, e => by
    simp only [List.getElem?_cons_zero, Option.some.injEq] at e
    unfold deps
    rw [e]
    exact Nat.le_max_left _ _
  | x :: xs, i + 1, d, e => by
    simp only [List.getElem?_cons_succ] at e
    unfold deps
    exact Nat.le_trans (dep_get xs i d e) (Nat.le_max_right _ _)
theorem sz_get : ∀ (ds : List PyData) (i : Nat) (d : PyData), ds[i]? = some d → sz d ≤ szs ds
  | [], i, d, e => by cases e
  | x :: xs, 0, d, e => by
    simp only [List.getElem?_cons_zero, Option.some.injEq] at e
    unfold szs
    rw [e]
    exact Nat.le_add_right _ _
  | x :: xs, i + 1, d, e => by
    simp only [List.getElem?_cons_succ] at e
    unfold szs
    exact Nat.le_trans (sz_get xs i d e) (Nat.le_add_left _ _)
theorem sz_pos : ∀ d : PyData, 1 ≤ sz d
  | .tuple xs => by unfold sz; omega
  | .none | .bool _ | .int _ | .str _ | .list _ | .dict _ => by unfold sz; exact Nat.le_refl _
theorem szs_len : ∀ ds : List PyData, ds.length ≤ szs ds
  | [] => Nat.zero_le _
  | x :: xs => by
    have := szs_len xs
    have := sz_pos x
    unfold szs
    rw [List.length_cons]
    omega
/-- the type of such a thing -/
theorem ty_tup {K : PySem.W.Frag} {H : Hp} {a : Addr} {xs : List V} (h : SqT K H a xs) : TyX K H (.ref a) (.type "tuple") := by
  rcases h with (h | ⟨o, h⟩) | ⟨o, its, n, h, c, _⟩
  · exact .base (.tup h)
  · exact .fTuple h
  · exact .kTuple h c
/-- the same data handed in twice, of depth below n: True -/
def spSame (K : PySem.W.Frag) (n : Nat) : Sp := fun vs H Q _ => ∃ (x y : V) (d : PyData), vs = [x, y] ∧ Rp K H d x ∧ Rp K H d y ∧ dep d < n ∧ sz d ≤ 1000000 ∧ ∀ H', Same H H' → Q (.bl true) H'
end Wn

namespace Wn
open PySem L2
theorem fld1 {f : Str} {v : V} : ([(f, v)] : List (Str × V)).lookup f = some v := by
  show (match f == f with | true => some v | false => _) = some v
  rw [beq_self_eq_true]
theorem fld1_ne {f g : Str} {v : V} (h : (g == f) = false) : ([(f, v)] : List (Str × V)).lookup g = none := by
  show (match g == f with | true => some v | false => _) = none
  rw [h]
  rfl
theorem putF1 {f : Str} {v u : V} : putF f u [(f, v)] = [(f, u)] := by
  show (if f = f then (f, u) :: [] else _) = _
  rw [if_pos rfl]
/-! ### dicts by whole numbers, their values data -/
section
variable {α : Type}
def lookA (m : List (Int × α)) (k : Int) : Option α := (m.find? fun p => decide (p.1 = k)).map (·.2)
def putA (m : List (Int × α)) (k : Int) (v : α) : List (Int × α) :=
  if (m.any fun kv => decide (kv.1 = k)) = true then m.map (fun kv => if kv.1 = k then (kv.1, v) else kv) else m ++ [(k, v)]
def dropA (m : List (Int × α)) (k : Int) : List (Int × α) := m.filter fun kv => decide (kv.1 ≠ k)
theorem putA_len (m : List (Int × α)) (k : Int) (v : α) : (putA m k v).length ≤ m.length + 1 := by
  unfold putA
  split
  · rw [List.length_map]
    omega
  · rw [List.length_append, List.length_singleton]
    exact Nat.le_refl _
theorem dropA_len (m : List (Int × α)) (k : Int) : (dropA m k).length ≤ m.length := List.length_filter_le _ _
def RpD (enc : α → PyData) (K : PySem.W.Frag) (H : Hp) : List (Int × α) → List (Key × V) → Prop
  | [], kvs => kvs = []
  | p :: m, kvs => ∃ v r, kvs = (Sum.inl p.1, v) :: r ∧ Rp K H (enc p.2) v ∧ RpD enc K H m r
variable {enc : α → PyData} {K : PySem.W.Frag} {H H' : Hp}
theorem RpD.tk (e : TK H H') : ∀ {m : List (Int × α)} {kvs : List (Key × V)}, RpD enc K H m kvs → RpD enc K H' m kvs
  | [], _, h => h
  | p :: m, kvs, h => by
    obtain ⟨v, r, rfl, h1, h2⟩ := h
    exact ⟨v, r, rfl, Rp.tk e _ _ h1, RpD.tk e h2⟩
theorem RpD.len : ∀ {m : List (Int × α)} {kvs : List (Key × V)}, RpD enc K H m kvs → kvs.length = m.length
  | [], kvs, h => by rw [show kvs = [] from h]; rfl
  | p :: m, kvs, h => by
    obtain ⟨v, r, rfl, h1, h2⟩ := h
    rw [List.length_cons, List.length_cons, RpD.len h2]
theorem RpD.keys : ∀ {m : List (Int × α)} {kvs : List (Key × V)}, RpD enc K H m kvs → (kvs.map fun kv => kV kv.1) = (m.map (·.1)).map V.int
  | [], kvs, h => by rw [show kvs = [] from h]; rfl
  | p :: m, kvs, h => by
    obtain ⟨v, r, rfl, h1, h2⟩ := h
    rw [List.map_cons, List.map_cons, List.map_cons, RpD.keys h2]
    rfl
theorem inl_iff {a b : Int} : ((Sum.inl a : Key) = Sum.inl b) ↔ a = b := ⟨fun h => by cases h; rfl, fun h => by rw [h]⟩
theorem RpD.val {k : Int} : ∀ {m : List (Int × α)} {kvs : List (Key × V)}, RpD enc K H m kvs → (lookA m k = none ∧ valV kvs (Sum.inl k) = none) ∨ ∃ x v, lookA m k = some x ∧ valV kvs (Sum.inl k) = some v ∧ Rp K H (enc x) v
  | [], kvs, h => by
    rw [show kvs = [] from h]
    exact .inl ⟨rfl, rfl⟩
  | p :: m, kvs, h => by
    obtain ⟨v, r, rfl, h1, h2⟩ := h
    by_cases e : p.1 = k
    · refine .inr ⟨p.2, v, ?_, valV_pos (by rw [e]), h1⟩
      simp [lookA, List.find?_cons, e]
    · have e1 : lookA (p :: m) k = lookA m k := by simp [lookA, List.find?_cons, e]
      rw [e1, valV_neg (p := (Sum.inl p.1, v)) (fun z => e (inl_iff.mp z))]
      exact RpD.val h2
theorem RpD.any {k : Int} : ∀ {m : List (Int × α)} {kvs : List (Key × V)}, RpD enc K H m kvs → (kvs.any fun kv => decide (kv.1 = Sum.inl k)) = (m.any fun kv => decide (kv.1 = k))
  | [], kvs, h => by rw [show kvs = [] from h]; rfl
  | p :: m, kvs, h => by
    obtain ⟨v, r, rfl, h1, h2⟩ := h
    rw [List.any_cons, List.any_cons, RpD.any h2]
    congr 1
    exact decide_eq_decide.mpr inl_iff
theorem RpD.snoc {k : Int} {x : α} {v : V} (hv : Rp K H (enc x) v) : ∀ {m : List (Int × α)} {kvs : List (Key × V)}, RpD enc K H m kvs → RpD enc K H (m ++ [(k, x)]) (kvs ++ [(Sum.inl k, v)])
  | [], kvs, h => by
    rw [show kvs = [] from h]
    exact ⟨v, [], rfl, hv, rfl⟩
  | p :: m, kvs, h => by
    obtain ⟨u, r, rfl, h1, h2⟩ := h
    exact ⟨u, _, rfl, h1, RpD.snoc hv h2⟩
theorem RpD.map {k : Int} {x : α} {v : V} (hv : Rp K H (enc x) v) : ∀ {m : List (Int × α)} {kvs : List (Key × V)}, RpD enc K H m kvs → RpD enc K H (m.map fun kv => if kv.1 = k then (kv.1, x) else kv) (kvs.map fun kv => if kv.1 = Sum.inl k then (kv.1, v) else kv)
  | [], kvs, h => by rw [show kvs = [] from h]; rfl
  | p :: m, kvs, h => by
    obtain ⟨u, r, rfl, h1, h2⟩ := h
    have h3 := RpD.map (k := k) hv h2
    rw [List.map_cons, List.map_cons]
    by_cases e : p.1 = k
    · rw [if_pos e, if_pos (inl_iff.mpr e)]
      exact ⟨v, _, rfl, hv, h3⟩
    · rw [if_neg e, if_neg (fun z => e (inl_iff.mp z))]
      exact ⟨u, _, rfl, h1, h3⟩
theorem RpD.put {k : Int} {x : α} {v : V} {m : List (Int × α)} {kvs : List (Key × V)} (h : RpD enc K H m kvs) (hv : Rp K H (enc x) v) : RpD enc K H (putA m k x) (putK kvs (Sum.inl k) v) := by
  unfold putA putK
  rw [h.any]
  split
  · exact h.map hv
  · exact h.snoc hv
theorem RpD.drop {k : Int} : ∀ {m : List (Int × α)} {kvs : List (Key × V)}, RpD enc K H m kvs → RpD enc K H (dropA m k) (dropK kvs (Sum.inl k))
  | [], kvs, h => by rw [show kvs = [] from h]; rfl
  | p :: m, kvs, h => by
    obtain ⟨u, r, rfl, h1, h2⟩ := h
    have h3 := RpD.drop (k := k) h2
    unfold dropA dropK at *
    by_cases e : p.1 = k
    · rw [List.filter_cons_of_neg (by simp [e]), List.filter_cons_of_neg (by simp [e])]
      exact h3
    · rw [List.filter_cons_of_pos (by simp [e]), List.filter_cons_of_pos (by simp [inl_iff, e])]
      exact ⟨u, _, rfl, h1, h3⟩
/-- a dict at q that stands for m -/
def DictAt (enc : α → PyData) (K : PySem.W.Frag) (H : Hp) (q : Addr) (m : List (Int × α)) : Prop := ∃ kvs, H q = some (.dK kvs) ∧ RpD enc K H m kvs
theorem DictAt.kp {M : List Addr} {q : Addr} {m : List (Int × α)} (h : DictAt enc K H q m) (k : Kp M H H') (t : TK H H') (n : q ∉ M) : DictAt enc K H' q m := by
  obtain ⟨kvs, a, b⟩ := h
  exact ⟨kvs, k _ _ n a, b.tk t⟩
def sortI (ns : List Int) : List Int := ns.mergeSort (fun a b => decide (a ≤ b))
theorem sortI_perm (ns : List Int) : (sortI ns).Perm ns := List.mergeSort_perm _ _
theorem sortI_sorted (ns : List Int) : (sortI ns).Pairwise (· ≤ ·) := by
  have h := List.pairwise_mergeSort (le := fun a b : Int => decide (a ≤ b)) (fun a b c h1 h2 => by simp only [decide_eq_true_eq] at *; omega) (fun a b => by simp only [Bool.or_eq_true, decide_eq_true_eq]; omega) ns
  exact h.imp fun h => of_decide_eq_true h
theorem sortI_eq {ns ms : List Int} (p : ms.Perm ns) (s : ms.Pairwise (· ≤ ·)) : ms = sortI ns :=
  PySem.W.ksm_same (p.trans (sortI_perm ns).symm) s (sortI_sorted ns)
/-- rows by hands: (hand,) and what stands there -/
def rowsD (encL : α → List PyData) (m : List (Int × α)) : PyData := .tuple ((sortI (m.map (·.1))).map fun k => .tuple (.int k :: ((lookA m k).map encL).getD []))
theorem lookA_mem {m : List (Int × α)} {k : Int} (h : k ∈ m.map (·.1)) : ∃ x, lookA m k = some x ∧ (k, x) ∈ m := by
  obtain ⟨p, hp, rfl⟩ := List.mem_map.mp h
  unfold lookA
  cases e : m.find? fun q => decide (q.1 = p.1) with
  | none =>
    have := List.find?_eq_none.mp e p hp
    simp at this
  | some q =>
    have h1 := List.find?_some e
    have h2 := List.mem_of_find?_eq_some e
    simp only [decide_eq_true_eq] at h1
    exact ⟨q.2, rfl, by rw [← h1]; exact h2⟩
theorem szs_map_le {β : Type} {f : β → PyData} {c : Nat} : ∀ (l : List β), (∀ x ∈ l, sz (f x) ≤ c) → szs (l.map f) ≤ c * l.length
  | [], _ => Nat.zero_le _
  | x :: l, h => by
    have h1 := szs_map_le l fun y hy => h y (List.mem_cons_of_mem _ hy)
    have h2 := h x List.mem_cons_self
    rw [List.map_cons, List.length_cons]
    unfold szs
    rw [Nat.mul_succ]
    omega
theorem deps_map_le {β : Type} {f : β → PyData} {c : Nat} : ∀ (l : List β), (∀ x ∈ l, dep (f x) ≤ c) → deps (l.map f) ≤ c
  | [], _ => Nat.zero_le _
  | x :: l, h => by
    have h1 := deps_map_le l fun y hy => h y (List.mem_cons_of_mem _ hy)
    have h2 := h x List.mem_cons_self
    rw [List.map_cons]
    unfold deps
    omega
theorem Rp.tup {ds : List PyData} {a : Addr} {xs : List V} (h : H a = some (.tup xs)) (r : RpL K H ds xs) : Rp K H (.tuple ds) (.ref a) := by
  unfold Rp
  exact ⟨a, xs, rfl, SqT.of h, r⟩
theorem Rp.tupS {ds : List PyData} {a : Addr} {xs : List V} (h : SqT K H a xs) (r : RpL K H ds xs) : Rp K H (.tuple ds) (.ref a) := by
  unfold Rp
  exact ⟨a, xs, rfl, h, r⟩
theorem RpL.cons {d : PyData} {ds : List PyData} {v : V} {xs : List V} (h : Rp K H d v) (r : RpL K H ds xs) : RpL K H (d :: ds) (v :: xs) := by
  unfold RpL
  exact ⟨v, xs, rfl, h, r⟩
theorem RpL.nil : RpL K H [] [] := by
  unfold RpL
  rfl
theorem Rp.int {i : Int} : Rp K H (.int i) (.int i) := by
  unfold Rp
  rfl
theorem Rp.none : Rp K H .none .non := by
  unfold Rp
  rfl
theorem Rp.str {z : Str} : Rp K H (.str z) (.str z) := by
  unfold Rp
  rfl
end
end Wn

namespace Wn
open PySem L2
theorem tYes_t {σ : L2.St} {H : Hp} {F : Bool → Hp → Prop} (h : F true H) : tYes σ H F := h
theorem rows_lc {α : Type} {encL : α → List PyData} {K : PySem.W.Frag} {td : TE} {i : Nat} {σ : L2.St} {H2 : Hp} {S D q : Addr} {ns : List Int} {m : List (Int × α)} {kvs : List (Key × V)} {Qd : Hp → Prop}
    (hS : H2 S = some (.lst (ns.map V.int))) (hq : H2 q = some (.dK kvs)) (hm : RpD (fun x => .tuple (encL x)) K H2 m kvs) (hns : ∀ k ∈ ns, k ∈ m.map (·.1)) (hz : ∀ x, (encL x).length ≤ 100) (hln : ns.length ≤ 1000000)
    (htd : ∀ (σ' : L2.St) (H' : Hp) (Q : VK), wipe σ' [i] = wipe σ [i] → Same H2 H' → Q (.ref q) H' → td σ' H' Q) (hD : H2 D = none) (hσ : i < σ.length)
    (hd : ∀ (H' : Hp) (xs : List V), Same H2 H' → H' D = some (.lst xs) → RpL K H' (ns.map fun k => .tuple (.int k :: ((lookA m k).map encL).getD [])) xs → Qd H') :
    ∃ W : Nat → Nat → Hp → Prop, (∃ m, W 0 m (upd H2 D (.lst []))) ∧ ∀ j m H, W j m H →
      ((Itl K S).stop j H ∧ Qd H) ∨ ((Itl K S).go j H ∧ ∃ Nx : Hp → Prop, (∀ H', Nx H' → ∃ m', m' < m ∧ W (j + 1) m' H') ∧ ∀ x H', (Itl K S).yld j H x H' → gName i x (wipe σ [i]) H' fun σ2 H2 => wipe σ2 [i] = wipe σ [i] ∧ tYes σ2 H2 fun b H3 =>
        if b = true then tOp (rCatT K) (tTup (tCons (tVar i) tNil)) (tDGet td (tVar i)) σ2 H3 fun y H4 => ∃ acc, H4 D = some (.lst acc) ∧ acc.length < sizeLine ∧ Nx (upd H4 D (.lst (acc ++ [y]))) else Nx H3) := by
  have nSD : S ≠ D := ne_of_none hS hD
  refine lc_list (K := K) (a := S) (xs := ns.map V.int) (fun j H => ∃ xs, Same H2 H ∧ H D = some (.lst xs) ∧ RpL K H ((ns.take j).map fun k => .tuple (.int k :: ((lookA m k).map encL).getD [])) xs)
    ⟨[], (L2.Same.refl H2).new hD, upd_same, RpL.nil⟩ (fun j H _ ⟨xs, s, _, _⟩ => SqL.of (s _ _ hS)) ?_ ?_
  · rintro j x H3 hx ⟨xs, s3, hD3, hr⟩
    have hj : j < ns.length := by
      have q := (List.getElem?_eq_some_iff.mp hx).1
      rw [List.length_map] at q
      exact q
    obtain rfl : x = V.int ns[j] := by
      rw [List.getElem?_map, List.getElem?_eq_getElem hj] at hx
      exact (Option.some.inj hx).symm
    have hmem : ns[j] ∈ m.map (·.1) := hns _ (List.getElem_mem hj)
    have eσ : (((wipe σ [i]).set i (some (V.int ns[j]))))[i]? = some (some (V.int ns[j])) := by
      rw [List.getElem?_set_self]
      rw [wipe_length]
      exact hσ
    have ew : wipe ((wipe σ [i]).set i (some (V.int ns[j]))) [i] = wipe σ [i] := by
      show ((σ.set i none).set i (some (V.int ns[j]))).set i none = σ.set i none
      rw [List.set_set, List.set_set]
    refine ⟨ew, ?_⟩
    refine tYes_t (iteT ?_)
    have hlx : xs.length < sizeLine := by
      have := RpL.len _ _ hr
      rw [List.length_map, List.length_take] at this
      exact Nat.lt_of_le_of_lt (show xs.length ≤ 1000000 by omega) (by decide)
    refine ⟨_, eσ, (by show 1 ≤ sizeLine; decide), fun t ht => ?_⟩
    have s4 := s3.new (o := .tup [V.int ns[j]]) ht
    have t4 := TK.of s4
    refine htd _ _ _ ew s4 ⟨_, eσ, ?_⟩
    rcases hm.val (k := ns[j]) with ⟨e1, e2⟩ | ⟨y, v, e1, e2, r⟩
    · obtain ⟨z, e3, _⟩ := lookA_mem hmem
      rw [e1] at e3
      cases e3
    · have r4 := Rp.tk t4 _ _ r
      unfold Rp at r4
      obtain ⟨b, ys, rfl, hb, hl⟩ := r4
      have hly := RpL.len _ _ hl
      refine ⟨q, .ref b, rfl, by rw [← e2]; exact DGet.k (k := Sum.inl ns[j]) (s4 _ _ hq), ?_⟩
      have hD4 : (upd H3 t (.tup [V.int ns[j]])) D = some (.lst xs) := by
        rw [upd_ne (ne_of_none hD3 ht)]
        exact hD3
      have etk : (ns.take (j + 1)).map (fun k => PyData.tuple (.int k :: ((lookA m k).map encL).getD [])) = (ns.take j).map (fun k => PyData.tuple (.int k :: ((lookA m k).map encL).getD [])) ++ [PyData.tuple (.int ns[j] :: encL y)] := by
        rw [List.take_succ_eq_append_getElem hj, List.map_append, List.map_singleton, e1]
        rfl
      have s34 : TK H3 (upd H3 t (.tup [V.int ns[j]])) := (TK.refl _).new ht
      refine ⟨t, b, _, ys, rfl, rfl, SqT.of upd_same, hb, List.cons_ne_nil _ _, ?_, fun ey => ?_, fun _ p hp => ?_⟩
      · have := hz y
        rw [hly, List.length_singleton]
        exact Nat.le_trans (show 1 + (encL y).length ≤ 1000 by omega) (by decide)
      · refine ⟨xs, hD4, hlx, _, s4.wrn hD, upd_same, ?_⟩
        rw [etk]
        have tE : TK (upd H3 t (.tup [V.int ns[j]])) (upd (upd H3 t (.tup [V.int ns[j]])) D (.lst (xs ++ [V.ref t]))) := (TK.refl _).wr hD4 rfl
        refine RpL.snoc (Rp.tk tE _ _ (Rp.tup upd_same ?_)) _ _ (RpL.tk (s34.trans tE) _ _ hr)
        have e0 : encL y = [] := List.length_eq_zero_iff.mp (by rw [← hly, ey]; rfl)
        rw [e0]
        exact RpL.cons Rp.int RpL.nil
      · have s5 := s4.new (o := .tup ([V.int ns[j]] ++ ys)) hp
        have hD5 : upd (upd H3 t (.tup [V.int ns[j]])) p (.tup ([V.int ns[j]] ++ ys)) D = some (.lst xs) := by
          rw [upd_ne (ne_of_none hD4 hp)]
          exact hD4
        have tE : TK (upd (upd H3 t (.tup [V.int ns[j]])) p (.tup ([V.int ns[j]] ++ ys))) (upd (upd (upd H3 t (.tup [V.int ns[j]])) p (.tup ([V.int ns[j]] ++ ys))) D (.lst (xs ++ [V.ref p]))) := (TK.refl _).wr hD5 rfl
        have s45 : TK (upd H3 t (.tup [V.int ns[j]])) (upd (upd H3 t (.tup [V.int ns[j]])) p (.tup ([V.int ns[j]] ++ ys))) := (TK.refl _).new hp
        refine ⟨xs, hD5, hlx, _, s5.wrn hD, upd_same, ?_⟩
        rw [etk]
        refine RpL.snoc (Rp.tk tE _ _ (Rp.tup upd_same ?_)) _ _ (RpL.tk ((s34.trans s45).trans tE) _ _ hr)
        exact RpL.cons Rp.int (RpL.tk s45 _ _ hl)
  · rintro H3 ⟨xs, s3, hD3, hr⟩
    rw [List.length_map, List.take_length] at hr
    exact hd H3 xs s3 hD3 hr
end Wn

namespace Wn
open PySem L2
section
variable {X : Cx} {K : PySem.W.Frag}
theorem ixL (hK : X.K = K) : IxR X (rIxL K) := hK ▸ ix_list
theorem ixT (hK : X.K = K) : IxR X (rIxT K) := hK ▸ ix_tup
theorem opCatT (hK : X.K = K) : OpR X (binaryOp .Add) (rCatT K) := hK ▸ op_catT
theorem slL (hK : X.K = K) : SlR X (rSlL K) := hK ▸ sl_list
theorem slT (hK : X.K = K) : SlR X (rSlT K) := hK ▸ sl_tup
theorem fldK {e : Expr} {ta : TE} {f : Str} {pos : Pos} (hK : X.K = K) (he : PE X e ta) (hb : attributeBase e f X.env (eval e X.env) = eval e X.env) : PE X (.Attribute e f pos) (tFld K ta f) := hK ▸ pe_fld he hb
theorem lenK (hK : X.K = K) : CallR X (.builtin "len") (fun xs H Q => ∃ x n, xs = [x] ∧ LenV K x H n ∧ Q (.int n) H) := hK ▸ call_len
theorem crMaxK (hK : X.K = K) (hc : X.calm = true) : CallR X (.builtin "max") (rMax K) := hK ▸ cr_max hc
theorem crMinK (hK : X.K = K) (hc : X.calm = true) : CallR X (.builtin "min") (rMin K) := hK ▸ cr_min hc
theorem crAllK (hK : X.K = K) (hc : X.calm = true) : CallR X (.builtin "all") (rAll K) := hK ▸ cr_all hc
theorem crAnyK (hK : X.K = K) (hc : X.calm = true) : CallR X (.builtin "any") (rAny K) := hK ▸ cr_any hc
theorem isiK (hK : X.K = K) : CallR X (.builtin "isinstance") (rIsi K) := hK ▸ call_isi
theorem tupOfK (hK : X.K = K) : CallR X (.type "tuple") (fun xs H Q => ∃ p ys, xs = [.ref p] ∧ ((SqL K H p ys ∧ ∀ l, H l = none → Q (.ref l) (upd H l (.tup ys))) ∨ (SqT K H p ys ∧ Q (.ref p) H))) := hK ▸ call_tuple_of
theorem lstOfK (hK : X.K = K) : CallR X (.type "list") (fun xs H Q => ∃ p ys, xs = [.ref p] ∧ (SqL K H p ys ∨ SqT K H p ys) ∧ ∀ l, H l = none → Q (.ref l) (upd H l (.lst ys))) := hK ▸ call_list_of
theorem sortIK (hK : X.K = K) : CallR X (.builtin "sorted") (rSortedI K) := hK ▸ cr_sortedI
theorem inSeqK (hK : X.K = K) : OpR X (compareOp .In) (rIn K false) := hK ▸ op_in_seq
theorem notInSeqK (hK : X.K = K) : OpR X (compareOp .NotIn) (rIn K true) := hK ▸ op_notIn_seq
theorem eqDK (hK : X.K = K) (hu : X.A.units + 64 < cLine) : OpR X (compareOp .Eq) (rEqD K) := hK ▸ op_eqD hu
theorem neDK (hK : X.K = K) (hu : X.A.units + 64 < cLine) : OpR X (compareOp .NotEq) (rNeD K) := hK ▸ op_neD hu
end
end Wn

namespace Wn
open PySem L2
theorem Deck.kp {M : List Addr} {H H' : Hp} {d f : Addr} {n : Int} (h : Deck H d f n) (k : Kp M H H') (n1 : d ∉ M) (n2 : f ∉ M) : Deck H' d f n := by
  obtain ⟨a, wh, xs, h1, h2, h3⟩ := h
  exact ⟨a, wh, xs, k _ _ n1 h1, k _ _ n2 h2, h3⟩
theorem Deck.mono {H : Hp} {d f : Addr} {n m : Int} (h : Deck H d f n) (hm : n ≤ m) : Deck H d f m := by
  obtain ⟨a, wh, xs, h1, h2, h3, h4, h5⟩ := h
  exact ⟨a, wh, xs, h1, h2, h3, by omega, h5⟩
theorem Deck.lst {H : Hp} {d f : Addr} {n : Int} (h : Deck H d f n) : ∃ zs, H d = some (.lst zs) := by
  obtain ⟨a, wh, xs, h1, h2, h3⟩ := h
  exact ⟨_, h1⟩
theorem Deck.lst2 {H : Hp} {d f : Addr} {n : Int} (h : Deck H d f n) : ∃ zs, H f = some (.lst zs) := by
  obtain ⟨a, wh, xs, h1, h2, h3⟩ := h
  exact ⟨_, h2⟩
theorem seq_have {t u : TS} {D : Ends} {σ : L2.St} {H : Hp} (Mid : L2.St → Hp → Prop) (h2 : ∀ σ' H', Mid σ' H' → u D σ' H') (h1 : (∀ σ' H', Mid σ' H' → u D σ' H') → t { D with nx := u D } σ H) : tSeq t u D σ H := h1 h2
theorem seq_if {c : TT} {t1 t2 u : TS} {D : Ends} {σ : L2.St} {H : Hp} (Mid : L2.St → Hp → Prop) (h2 : ∀ σ' H', Mid σ' H' → u D σ' H') (h1 : (∀ σ' H', Mid σ' H' → u D σ' H') → tIfS c t1 t2 { D with nx := u D } σ H) : tSeq (tIfS c t1 t2) u D σ H := h1 h2
theorem nin1 {a b : Addr} (h : a ≠ b) : a ∉ [b] := fun z => h (List.mem_singleton.mp z)
theorem nin2 {a b c : Addr} (h : a ≠ b) (h' : a ≠ c) : a ∉ [b, c] := fun z => by
  rcases List.mem_cons.mp z with z | z
  · exact h z
  · exact h' (List.mem_singleton.mp z)
section
variable {α : Type}
/-- an object at p whose dict by_hand stands at q -/
def HoldAt (enc : α → PyData) (K : PySem.W.Frag) (C : Addr) (H : Hp) (p q : Addr) (m : List (Int × α)) : Prop :=
  (∃ dx, H p = some (.ins C dx [("by_hand", .ref q)])) ∧ DictAt enc K H q m
variable {enc : α → PyData} {K : PySem.W.Frag} {C : Addr} {H H' : Hp}
theorem HoldAt.kp {M : List Addr} {p q : Addr} {m : List (Int × α)} (h : HoldAt enc K C H p q m) (k : Kp M H H') (t : TK H H') (n1 : p ∉ M) (n2 : q ∉ M) : HoldAt enc K C H' p q m := by
  obtain ⟨⟨dx, a⟩, b⟩ := h
  exact ⟨⟨dx, k _ _ n1 a⟩, b.kp k t n2⟩
/-- n objects and n dicts, in two lists -/
structure Rack (enc : α → PyData) (K : PySem.W.Frag) (C : Addr) (H : Hp) (L1 L2 : Addr) (n : Nat) (p q md : Nat → Addr) (m m' : Nat → List (Int × α)) : Prop where
  l1 : H L1 = some (.lst ((List.range n).map fun j => V.ref (p j)))
  l2 : H L2 = some (.lst ((List.range n).map fun j => V.ref (md j)))
  ok : ∀ j, j < n → HoldAt enc K C H (p j) (q j) (m j)
  mo : ∀ j, j < n → DictAt enc K H (md j) (m' j)
  dq : ∀ i j, i < n → j < n → i ≠ j → q i ≠ q j
  dm : ∀ i j, i < n → j < n → i ≠ j → md i ≠ md j
  dx : ∀ i j, i < n → j < n → q i ≠ md j
variable {L1 L2 : Addr} {n : Nat} {p q md : Nat → Addr} {m m' : Nat → List (Int × α)}
theorem Rack.kp {M : List Addr} (R : Rack enc K C H L1 L2 n p q md m m') (k : Kp M H H') (t : TK H H') (h : ∀ x ∈ M, x ≠ L1 ∧ x ≠ L2 ∧ ∀ j, j < n → x ≠ p j ∧ x ≠ q j ∧ x ≠ md j) : Rack enc K C H' L1 L2 n p q md m m' where
  l1 := k _ _ (fun z => (h _ z).1 rfl) R.l1
  l2 := k _ _ (fun z => (h _ z).2.1 rfl) R.l2
  ok := fun j hj => (R.ok j hj).kp k t (fun z => ((h _ z).2.2 j hj).1 rfl) (fun z => ((h _ z).2.2 j hj).2.1 rfl)
  mo := fun j hj => (R.mo j hj).kp k t (fun z => ((h _ z).2.2 j hj).2.2 rfl)
  dq := R.dq
  dm := R.dm
  dx := R.dx
/-- a list beside was written -/
theorem Rack.lst {d : Addr} {zs : List V} (R : Rack enc K C H L1 L2 n p q md m m') (k : Kp [d] H H') (t : TK H H') (hd : H d = some (.lst zs)) (n1 : d ≠ L1) (n2 : d ≠ L2) : Rack enc K C H' L1 L2 n p q md m m' :=
  R.kp k t fun x hx => by
    rw [List.mem_singleton] at hx
    subst hx
    refine ⟨n1, n2, fun j hj => ?_⟩
    obtain ⟨⟨dx, a⟩, kvs, b, _⟩ := R.ok j hj
    obtain ⟨kvs', c, _⟩ := R.mo j hj
    exact ⟨ne_of hd a (by intro z; cases z), ne_of hd b (by intro z; cases z), ne_of hd c (by intro z; cases z)⟩
theorem Rack.same (R : Rack enc K C H L1 L2 n p q md m m') (s : Same H H') : Rack enc K C H' L1 L2 n p q md m m' :=
  R.kp (M := []) (Kp.of s) (TK.of s) fun x hx => by cases hx
/-- the k-th object's dict is another one -/
theorem Rack.setq {i : Nat} {mn : List (Int × α)} (R : Rack enc K C H L1 L2 n p q md m m') (hi : i < n) (k : Kp [q i] H H') (t : TK H H') (h : HoldAt enc K C H' (p i) (q i) mn) :
    Rack enc K C H' L1 L2 n p q md (fun j => if j = i then mn else m j) m' := by
  obtain ⟨_, kvq, hq, _⟩ := R.ok i hi
  refine ⟨k _ _ (nin1 (ne_of R.l1 hq (by intro z; cases z))) R.l1, k _ _ (nin1 (ne_of R.l2 hq (by intro z; cases z))) R.l2, fun j hj => ?_, fun j hj => ?_, R.dq, R.dm, R.dx⟩
  · by_cases e : j = i
    · subst e
      simp only [if_true]
      exact h
    · simp only [if_neg e]
      obtain ⟨⟨dx, a⟩, _⟩ := R.ok j hj
      exact (R.ok j hj).kp k t (nin1 (ne_of a hq (by intro z; cases z))) (nin1 (R.dq j i hj hi e))
  · exact (R.mo j hj).kp k t (nin1 (fun z => R.dx i j hi hj z.symm))
theorem Rack.setm {i : Nat} {mn : List (Int × α)} (R : Rack enc K C H L1 L2 n p q md m m') (hi : i < n) (k : Kp [md i] H H') (t : TK H H') (h : DictAt enc K H' (md i) mn) :
    Rack enc K C H' L1 L2 n p q md m (fun j => if j = i then mn else m' j) := by
  obtain ⟨kvq, hq, _⟩ := R.mo i hi
  refine ⟨k _ _ (nin1 (ne_of R.l1 hq (by intro z; cases z))) R.l1, k _ _ (nin1 (ne_of R.l2 hq (by intro z; cases z))) R.l2, fun j hj => ?_, fun j hj => ?_, R.dq, R.dm, R.dx⟩
  · obtain ⟨⟨dx, a⟩, _⟩ := R.ok j hj
    exact (R.ok j hj).kp k t (nin1 (ne_of a hq (by intro z; cases z))) (nin1 (R.dx j i hj hi))
  · by_cases e : j = i
    · subst e
      simp only [if_true]
      exact h
    · simp only [if_neg e]
      exact (R.mo j hj).kp k t (nin1 (R.dm j i hj hi e))
/-- one more -/
theorem Rack.push {pn qn mdn : Addr} {mn : List (Int × α)} (R : Rack enc K C H L1 L2 n p q md m m') (k : Kp [L1, L2] H H') (t : TK H H') (h1 : H' L1 = some (.lst (((List.range n).map fun j => V.ref (p j)) ++ [V.ref pn]))) (h2 : H' L2 = some (.lst (((List.range n).map fun j => V.ref (md j)) ++ [V.ref mdn])))
    (hp : HoldAt enc K C H' pn qn mn) (hm : DictAt enc K H' mdn mn) (nq : H qn = none) (nm : H mdn = none) (nqm : qn ≠ mdn) :
    Rack enc K C H' L1 L2 (n + 1) (fun j => if j = n then pn else p j) (fun j => if j = n then qn else q j) (fun j => if j = n then mdn else md j) (fun j => if j = n then mn else m j) (fun j => if j = n then mn else m' j) := by
  have e1 : ∀ (f : Nat → Addr) (x : Addr), (List.range (n + 1)).map (fun j => V.ref (if j = n then x else f j)) = ((List.range n).map fun j => V.ref (f j)) ++ [V.ref x] := fun f x => by
    rw [List.range_succ, List.map_append, List.map_singleton, if_pos rfl]
    congr 1
    refine List.map_congr_left fun j hj => ?_
    rw [List.mem_range] at hj
    rw [if_neg (by omega)]
  have hq : ∀ j, j < n → q j ≠ qn ∧ q j ≠ mdn := fun j hj => by
    obtain ⟨_, kv, a, _⟩ := R.ok j hj
    exact ⟨ne_of_none a nq, ne_of_none a nm⟩
  have hmd : ∀ j, j < n → md j ≠ qn ∧ md j ≠ mdn := fun j hj => by
    obtain ⟨kv, a, _⟩ := R.mo j hj
    exact ⟨ne_of_none a nq, ne_of_none a nm⟩
  refine ⟨by rw [e1]; exact h1, by rw [e1]; exact h2, fun j hj => ?_, fun j hj => ?_, fun i j hi hj e => ?_, fun i j hi hj e => ?_, fun i j hi hj => ?_⟩
  · by_cases e : j = n
    · simp only [if_pos e]
      exact hp
    · simp only [if_neg e]
      obtain ⟨⟨dx, a⟩, kv, b, _⟩ := R.ok j (by omega)
      exact (R.ok j (by omega)).kp k t (nin2 (ne_of a R.l1 (by intro z; cases z)) (ne_of a R.l2 (by intro z; cases z))) (nin2 (ne_of b R.l1 (by intro z; cases z)) (ne_of b R.l2 (by intro z; cases z)))
  · by_cases e : j = n
    · simp only [if_pos e]
      exact hm
    · simp only [if_neg e]
      obtain ⟨kv, b, _⟩ := R.mo j (by omega)
      exact (R.mo j (by omega)).kp k t (nin2 (ne_of b R.l1 (by intro z; cases z)) (ne_of b R.l2 (by intro z; cases z)))
  · by_cases ei : i = n
    · have ej : ¬ j = n := by omega
      simp only [if_pos ei, if_neg ej]
      exact (hq j (by omega)).1.symm
    · by_cases ej : j = n
      · simp only [if_neg ei, if_pos ej]
        exact (hq i (by omega)).1
      · simp only [if_neg ei, if_neg ej]
        exact R.dq i j (by omega) (by omega) e
  · by_cases ei : i = n
    · have ej : ¬ j = n := by omega
      simp only [if_pos ei, if_neg ej]
      exact (hmd j (by omega)).2.symm
    · by_cases ej : j = n
      · simp only [if_neg ei, if_pos ej]
        exact (hmd i (by omega)).2
      · simp only [if_neg ei, if_neg ej]
        exact R.dm i j (by omega) (by omega) e
  · by_cases ei : i = n
    · by_cases ej : j = n
      · simp only [if_pos ei, if_pos ej]
        exact nqm
      · simp only [if_pos ei, if_neg ej]
        exact (hmd j (by omega)).1.symm
    · by_cases ej : j = n
      · simp only [if_neg ei, if_pos ej]
        exact (hq i (by omega)).2
      · simp only [if_neg ei, if_neg ej]
        exact R.dx i j (by omega) (by omega)
end
section
variable {α : Type} {enc : α → PyData} {K : PySem.W.Frag} {C : Addr} {H H' : Hp}
theorem HoldAt.lst {d p q : Addr} {zs : List V} {m : List (Int × α)} (h : HoldAt enc K C H p q m) (k : Kp [d] H H') (t : TK H H') (hd : H d = some (.lst zs)) : HoldAt enc K C H' p q m := by
  obtain ⟨⟨dx, a⟩, kv, b, _⟩ := id h
  exact h.kp k t (nin1 (ne_of a hd (by intro z; cases z))) (nin1 (ne_of b hd (by intro z; cases z)))
theorem HoldAt.same {p q : Addr} {m : List (Int × α)} (h : HoldAt enc K C H p q m) (s : Same H H') : HoldAt enc K C H' p q m :=
  h.kp (M := []) (Kp.of s) (TK.of s) (by simp) (by simp)
theorem DictAt.lst {d q : Addr} {zs : List V} {m : List (Int × α)} (h : DictAt enc K H q m) (k : Kp [d] H H') (t : TK H H') (hd : H d = some (.lst zs)) : DictAt enc K H' q m := by
  obtain ⟨kv, b, _⟩ := id h
  exact h.kp k t (nin1 (ne_of b hd (by intro z; cases z)))
theorem DictAt.same {q : Addr} {m : List (Int × α)} (h : DictAt enc K H q m) (s : Same H H') : DictAt enc K H' q m :=
  h.kp (M := []) (Kp.of s) (TK.of s) (by simp)
theorem Deck.same {d f : Addr} {n : Int} (h : Deck H d f n) (s : Same H H') : Deck H' d f n := h.kp (M := []) (Kp.of s) (by simp) (by simp)
/-- a dict beside was written -/
theorem Deck.dict {d f q : Addr} {n : Int} {m : List (Int × α)} (h : Deck H d f n) (k : Kp [q] H H') (hq : DictAt enc K H q m) : Deck H' d f n := by
  obtain ⟨kv, b, _⟩ := hq
  obtain ⟨zs, h1⟩ := h.lst
  obtain ⟨zf, h2⟩ := h.lst2
  exact h.kp k (nin1 (ne_of h1 b (by intro z; cases z))) (nin1 (ne_of h2 b (by intro z; cases z)))
variable {La Lb : Addr} {n : Nat} {p q md : Nat → Addr} {m m' : Nat → List (Int × α)}
/-- the k-th object's dict, the k-th dict and a list beside are others -/
theorem Rack.set2 {d : Addr} {zs : List V} {i : Nat} {mn mn' : List (Int × α)} (R : Rack enc K C H La Lb n p q md m m') (hi : i < n) (k : Kp [d, q i, md i] H H') (t : TK H H') (hd : H d = some (.lst zs)) (n1 : d ≠ La) (n2 : d ≠ Lb)
    (h : HoldAt enc K C H' (p i) (q i) mn) (h' : DictAt enc K H' (md i) mn') :
    Rack enc K C H' La Lb n p q md (fun j => if j = i then mn else m j) (fun j => if j = i then mn' else m' j) := by
  obtain ⟨_, kvq, hq, _⟩ := R.ok i hi
  obtain ⟨kvm, hm, _⟩ := R.mo i hi
  have nin : ∀ {x : Addr}, x ≠ d → x ≠ q i → x ≠ md i → x ∉ [d, q i, md i] := fun a b c z => by
    rcases List.mem_cons.mp z with z | z
    · exact a z
    · exact nin2 b c z
  refine ⟨k _ _ (nin n1.symm (ne_of R.l1 hq (by intro z; cases z)) (ne_of R.l1 hm (by intro z; cases z))) R.l1, k _ _ (nin n2.symm (ne_of R.l2 hq (by intro z; cases z)) (ne_of R.l2 hm (by intro z; cases z))) R.l2, fun j hj => ?_, fun j hj => ?_, R.dq, R.dm, R.dx⟩
  · by_cases e : j = i
    · subst e
      simp only [if_true]
      exact h
    · simp only [if_neg e]
      obtain ⟨⟨dx, a⟩, kv, b, _⟩ := R.ok j hj
      exact (R.ok j hj).kp k t (nin (ne_of a hd (by intro z; cases z)) (ne_of a hq (by intro z; cases z)) (ne_of a hm (by intro z; cases z))) (nin (ne_of b hd (by intro z; cases z)) (R.dq j i hj hi e) (R.dx j i hj hi))
  · by_cases e : j = i
    · subst e
      simp only [if_true]
      exact h'
    · simp only [if_neg e]
      obtain ⟨kv, b, _⟩ := R.mo j hj
      exact (R.mo j hj).kp k t (nin (ne_of b hd (by intro z; cases z)) (fun z => R.dx i j hi hj z.symm) (R.dm j i hj hi e))
end
theorem at3 {x y z : V} {r : Int} (h0 : 0 ≤ r) (h1 : r < 3) : ∃ v, atI [x, y, z] r = some v ∧ (v = x ∨ v = y ∨ v = z) := by
  have h : r = 0 ∨ r = 1 ∨ r = 2 := by omega
  rcases h with rfl | rfl | rfl
  · exact ⟨x, rfl, .inl rfl⟩
  · exact ⟨y, rfl, .inr (.inl rfl)⟩
  · exact ⟨z, rfl, .inr (.inr rfl)⟩
theorem at5 {a b c d e : Int} {r : Int} (h0 : 0 ≤ r) (h1 : r < 5) : ∃ v : Int, atI [V.int a, .int b, .int c, .int d, .int e] r = some (.int v) := by
  have h : r = 0 ∨ r = 1 ∨ r = 2 ∨ r = 3 ∨ r = 4 := by omega
  rcases h with rfl | rfl | rfl | rfl | rfl <;> exact ⟨_, rfl⟩
theorem atR {n : Nat} {f : Nat → Addr} {r : Int} (h0 : 0 ≤ r) (h1 : r < n) : atI ((List.range n).map fun j => V.ref (f j)) r = some (.ref (f r.toNat)) := by
  have e : ((r.toNat : Nat) : Int) = r := by omega
  have := atI_nat (xs := (List.range n).map fun j => V.ref (f j)) (j := r.toNat) (v := .ref (f r.toNat)) (by
    rw [List.getElem?_map, List.getElem?_range (by omega)]
    rfl)
  rw [e] at this
  exact this
def spLaw (K : PySem.W.Frag) : Sp := fun vs H Q _ => ∃ (a : Addr) (ns : List Int), vs = [.ref a] ∧ SqL K H a (ns.map V.int) ∧ ns.length ≤ 63 ∧ ∀ H', Q (.bl true) H'
/-! ### lists of data -/
def LstAt (K : PySem.W.Frag) (H : Hp) (a : Addr) (ds : List PyData) : Prop := ∃ xs, H a = some (.lst xs) ∧ RpL K H ds xs
section
variable {K : PySem.W.Frag} {H H' : Hp}
theorem LstAt.kp {M : List Addr} {a : Addr} {ds : List PyData} (h : LstAt K H a ds) (k : Kp M H H') (t : TK H H') (n : a ∉ M) : LstAt K H' a ds := by
  obtain ⟨xs, h1, h2⟩ := h
  exact ⟨xs, k _ _ n h1, RpL.tk t _ _ h2⟩
theorem LstAt.same {a : Addr} {ds : List PyData} (h : LstAt K H a ds) (s : Same H H') : LstAt K H' a ds := h.kp (M := []) (Kp.of s) (TK.of s) (by simp)
theorem LstAt.lst {a : Addr} {ds : List PyData} (h : LstAt K H a ds) : ∃ zs, H a = some (.lst zs) := ⟨_, h.choose_spec.1⟩
theorem RpL.app : ∀ {ds es : List PyData} {xs ys : List V}, RpL K H ds xs → RpL K H es ys → RpL K H (ds ++ es) (xs ++ ys)
  | [], es, xs, ys, h1, h2 => by
    unfold RpL at h1
    subst h1
    exact h2
  | d :: ds, es, xs, ys, h1, h2 => by
    unfold RpL at h1
    obtain ⟨v, r, rfl, a, b⟩ := h1
    show RpL K H (d :: (ds ++ es)) (v :: (r ++ ys))
    exact RpL.cons a (RpL.app b h2)
theorem RpL.take : ∀ (k : Nat) {ds : List PyData} {xs : List V}, RpL K H ds xs → RpL K H (ds.take k) (xs.take k)
  | 0, ds, xs, _ => by
    rw [List.take_zero, List.take_zero]
    exact RpL.nil
  | k + 1, [], xs, h => by
    unfold RpL at h
    subst h
    exact RpL.nil
  | k + 1, d :: ds, xs, h => by
    unfold RpL at h
    obtain ⟨v, r, rfl, a, b⟩ := h
    exact RpL.cons a (RpL.take k b)
theorem RpL.drop : ∀ (k : Nat) {ds : List PyData} {xs : List V}, RpL K H ds xs → RpL K H (ds.drop k) (xs.drop k)
  | 0, ds, xs, h => h
  | k + 1, [], xs, h => by
    unfold RpL at h
    subst h
    exact RpL.nil
  | k + 1, d :: ds, xs, h => by
    unfold RpL at h
    obtain ⟨v, r, rfl, a, b⟩ := h
    exact RpL.drop k b
theorem inV_int {k : Int} : ∀ ns : List Int, inV (.int k) (ns.map V.int) = decide (k ∈ ns)
  | [] => by simp [inV]
  | n :: ns => by
    have h := inV_int (k := k) ns
    unfold inV at h ⊢
    rw [List.map_cons, List.any_cons, h]
    show ((n == k) || _) = _
    by_cases e : n = k
    · simp [e]
    · have e2 : ¬ k = n := fun z => e z.symm
      simp [e, e2]
theorem flat_ints (ns : List Int) : (ns.map V.int).all flatV = true := by
  rw [List.all_eq_true]
  intro x hx
  obtain ⟨n, _, rfl⟩ := List.mem_map.mp hx
  rfl
theorem set_wipe {σ : L2.St} {i : Nat} {x : Option V} : (wipe σ [i]).set i x = σ.set i x := by
  show (σ.set i none).set i x = _
  rw [List.set_set]
theorem wipe_set {σ : L2.St} {i : Nat} {x : Option V} : wipe (σ.set i x) [i] = wipe σ [i] := by
  show (σ.set i x).set i none = σ.set i none
  rw [List.set_set]
/-- [x for x in xs if test] -/
theorem filt_lc {β : Type} {enc : β → PyData} {tt : TT} {i : Nat} {σ : L2.St} {H2 : Hp} {S D : Addr} {xs : List V} {L : List β} {Qd : Hp → Prop} (p : β → Bool) (hS : H2 S = some (.lst xs)) (hr : RpL K H2 (L.map enc) xs) (hD : H2 D = none) (hσ : i < σ.length) (hl : L.length ≤ 1000000)
    (htt : ∀ (b : β) (x : V) (H' : Hp) (Q : Bool → Hp → Prop), b ∈ L → Rp K H' (enc b) x → Same H2 H' → Q (p b) H' → tt (σ.set i (some x)) H' Q)
    (hd : ∀ (H' : Hp) (ys : List V), Same H2 H' → H' D = some (.lst ys) → RpL K H' ((L.filter p).map enc) ys → Qd H') :
    ∃ W : Nat → Nat → Hp → Prop, (∃ m, W 0 m (upd H2 D (.lst []))) ∧ ∀ j m H, W j m H →
      ((Itl K S).stop j H ∧ Qd H) ∨ ((Itl K S).go j H ∧ ∃ Nx : Hp → Prop, (∀ H', Nx H' → ∃ m', m' < m ∧ W (j + 1) m' H') ∧ ∀ x H', (Itl K S).yld j H x H' → gName i x (wipe σ [i]) H' fun σ2 H2 => wipe σ2 [i] = wipe σ [i] ∧ tt σ2 H2 fun b H3 =>
        if b = true then tVar i σ2 H3 fun y H4 => ∃ acc, H4 D = some (.lst acc) ∧ acc.length < sizeLine ∧ Nx (upd H4 D (.lst (acc ++ [y]))) else Nx H3) := by
  refine lc_list (K := K) (a := S) (xs := xs) (fun j H => ∃ ys, Same H2 H ∧ H D = some (.lst ys) ∧ RpL K H (((L.take j).filter p).map enc) ys)
    ⟨[], (L2.Same.refl H2).new hD, upd_same, RpL.nil⟩ (fun j H _ ⟨ys, s, _, _⟩ => SqL.of (s _ _ hS)) ?_ ?_
  · rintro j x H3 hx ⟨ys, s3, hD3, hr3⟩
    have hlen := RpL.len _ _ hr
    have hj : j < L.length := by
      have q := (List.getElem?_eq_some_iff.mp hx).1
      rw [hlen, List.length_map] at q
      exact q
    obtain ⟨v, ev, rv⟩ := RpL.get _ _ hr j (enc L[j]) (by rw [List.getElem?_map, List.getElem?_eq_getElem hj]; rfl)
    have ex : v = x := Option.some.inj (ev.symm.trans hx)
    rw [ex] at rv
    have rx := Rp.tk (TK.of s3) _ _ rv
    show wipe ((wipe σ [i]).set i (some x)) [i] = wipe σ [i] ∧ _
    rw [set_wipe]
    refine ⟨wipe_set, ?_⟩
    have hly : ys.length < sizeLine := by
      have := RpL.len _ _ hr3
      rw [List.length_map] at this
      have h2 := List.length_filter_le p (L.take j)
      rw [List.length_take] at h2
      exact Nat.lt_of_le_of_lt (show ys.length ≤ 1000000 by omega) (by decide)
    refine htt L[j] x H3 _ (List.getElem_mem hj) rx s3 ?_
    have et : L.take (j + 1) = L.take j ++ [L[j]] := List.take_succ_eq_append_getElem hj
    cases e : p L[j] with
    | false =>
      refine iteF ⟨ys, s3, hD3, ?_⟩
      rw [et, List.filter_append, List.filter_cons, e]
      simpa using hr3
    | true =>
      refine iteT ⟨x, ?_, ys, hD3, hly, ys ++ [x], s3.wrn hD, upd_same, ?_⟩
      · rw [List.getElem?_set_self hσ]
      · have tE : TK H3 (upd H3 D (.lst (ys ++ [x]))) := (TK.refl _).wr hD3 rfl
        rw [et, List.filter_append, List.filter_cons, e, List.map_append]
        exact RpL.app (RpL.tk tE _ _ hr3) (RpL.cons (Rp.tk tE _ _ rx) RpL.nil)
  · rintro H3 ⟨ys, s3, hD3, hr3⟩
    have hlen := RpL.len _ _ hr
    rw [hlen, List.length_map, List.take_length] at hr3
    exact hd H3 ys s3 hD3 hr3
/-- [number of x for x in xs] -/
theorem mapI_lc {β : Type} {enc : β → PyData} {te : TE} {i : Nat} {σ : L2.St} {H2 : Hp} {S D : Addr} {xs : List V} {L : List β} {Qd : Hp → Prop} (f : β → Int) (hS : H2 S = some (.lst xs)) (hr : RpL K H2 (L.map enc) xs) (hD : H2 D = none) (hl : L.length ≤ 1000000)
    (hte : ∀ (b : β) (x : V) (H' : Hp) (Q : VK), b ∈ L → Rp K H' (enc b) x → Same H2 H' → Q (.int (f b)) H' → te (σ.set i (some x)) H' Q)
    (hd : ∀ (H' : Hp), Same H2 H' → H' D = some (.lst ((L.map f).map V.int)) → Qd H') :
    ∃ W : Nat → Nat → Hp → Prop, (∃ m, W 0 m (upd H2 D (.lst []))) ∧ ∀ j m H, W j m H →
      ((Itl K S).stop j H ∧ Qd H) ∨ ((Itl K S).go j H ∧ ∃ Nx : Hp → Prop, (∀ H', Nx H' → ∃ m', m' < m ∧ W (j + 1) m' H') ∧ ∀ x H', (Itl K S).yld j H x H' → gName i x (wipe σ [i]) H' fun σ2 H2 => wipe σ2 [i] = wipe σ [i] ∧ tYes σ2 H2 fun b H3 =>
        if b = true then te σ2 H3 fun y H4 => ∃ acc, H4 D = some (.lst acc) ∧ acc.length < sizeLine ∧ Nx (upd H4 D (.lst (acc ++ [y]))) else Nx H3) := by
  refine lc_list (K := K) (a := S) (xs := xs) (fun j H => Same H2 H ∧ H D = some (.lst (((L.take j).map f).map V.int)))
    ⟨(L2.Same.refl H2).new hD, upd_same⟩ (fun j H _ ⟨s, _⟩ => SqL.of (s _ _ hS)) ?_ ?_
  · rintro j x H3 hx ⟨s3, hD3⟩
    have hlen := RpL.len _ _ hr
    have hj : j < L.length := by
      have q := (List.getElem?_eq_some_iff.mp hx).1
      rw [hlen, List.length_map] at q
      exact q
    obtain ⟨v, ev, rv⟩ := RpL.get _ _ hr j (enc L[j]) (by rw [List.getElem?_map, List.getElem?_eq_getElem hj]; rfl)
    have ex : v = x := Option.some.inj (ev.symm.trans hx)
    rw [ex] at rv
    have rx := Rp.tk (TK.of s3) _ _ rv
    show wipe ((wipe σ [i]).set i (some x)) [i] = wipe σ [i] ∧ _
    rw [set_wipe]
    refine ⟨wipe_set, tYes_t (iteT ?_)⟩
    refine hte L[j] x H3 _ (List.getElem_mem hj) rx s3 ⟨_, hD3, ?_, s3.wrn hD, ?_⟩
    · rw [List.length_map, List.length_map, List.length_take]
      exact Nat.lt_of_le_of_lt (show min j L.length ≤ 1000000 by omega) (by decide)
    · rw [upd_same, List.take_succ_eq_append_getElem hj, List.map_append, List.map_append]
      rfl
  · rintro H3 ⟨s3, hD3⟩
    have hlen := RpL.len _ _ hr
    rw [hlen, List.length_map, List.take_length] at hD3
    exact hd H3 s3 hD3
end
section
variable {K : PySem.W.Frag} {H H' : Hp}
/-- [e for x in xs], each e data -/
theorem mapD_it {J : It} {G : Hp → Prop} {β : Type} {enc : β → PyData} {te : TE} {i : Nat} {σ : L2.St} {H2 : Hp} {D : Addr} {xs : List V} {L : List β} {Qd : Hp → Prop} (w : Walk J xs.length G (YAt xs)) (hG : ∀ H', Same H2 H' → G H') (g : β → PyData) (hr : RpL K H2 (L.map enc) xs) (hD : H2 D = none) (hl : L.length ≤ 1000000)
    (hte : ∀ (b : β) (x : V) (H' : Hp) (Q : VK), b ∈ L → Rp K H' (enc b) x → Same H2 H' → (∀ (H'' : Hp) (y : V), Same H' H'' → Rp K H'' (g b) y → Q y H'') → te (σ.set i (some x)) H' Q)
    (hd : ∀ (H' : Hp) (ys : List V), Same H2 H' → H' D = some (.lst ys) → RpL K H' (L.map g) ys → Qd H') :
    ∃ W : Nat → Nat → Hp → Prop, (∃ m, W 0 m (upd H2 D (.lst []))) ∧ ∀ j m H, W j m H →
      (J.stop j H ∧ Qd H) ∨ (J.go j H ∧ ∃ Nx : Hp → Prop, (∀ H', Nx H' → ∃ m', m' < m ∧ W (j + 1) m' H') ∧ ∀ x H', J.yld j H x H' → gName i x (wipe σ [i]) H' fun σ2 H2 => wipe σ2 [i] = wipe σ [i] ∧ tYes σ2 H2 fun b H3 =>
        if b = true then te σ2 H3 fun y H4 => ∃ acc, H4 D = some (.lst acc) ∧ acc.length < sizeLine ∧ Nx (upd H4 D (.lst (acc ++ [y]))) else Nx H3) := by
  refine lc_it w (fun j H => ∃ ys, Same H2 H ∧ H D = some (.lst ys) ∧ RpL K H ((L.take j).map g) ys)
    ⟨[], (L2.Same.refl H2).new hD, upd_same, RpL.nil⟩ (fun j H _ ⟨ys, s, _⟩ => hG H s) ?_ ?_
  · rintro j x H3 H3' hj ⟨ys, s3, hD3, hr3⟩ ⟨rfl, hx⟩
    have hlen := RpL.len _ _ hr
    rw [List.length_map] at hlen
    have hj : j < L.length := by omega
    obtain ⟨v, ev, rv⟩ := RpL.get _ _ hr j (enc L[j]) (by rw [List.getElem?_map, List.getElem?_eq_getElem hj]; rfl)
    have ex : v = x := Option.some.inj (ev.symm.trans hx)
    rw [ex] at rv
    have rx := Rp.tk (TK.of s3) _ _ rv
    show wipe ((wipe σ [i]).set i (some x)) [i] = wipe σ [i] ∧ _
    rw [set_wipe]
    refine ⟨wipe_set, tYes_t (iteT ?_)⟩
    refine hte L[j] x H3' _ (List.getElem_mem hj) rx s3 fun H4 y s4 ry => ⟨ys, s4 _ _ hD3, ?_, ys ++ [y], (s3.trans s4).wrn hD, upd_same, ?_⟩
    · have := RpL.len _ _ hr3
      rw [List.length_map, List.length_take] at this
      exact Nat.lt_of_le_of_lt (show ys.length ≤ 1000000 by omega) (by decide)
    · have tE : TK H4 (upd H4 D (.lst (ys ++ [y]))) := (TK.refl _).wr (s4 _ _ hD3) rfl
      rw [List.take_succ_eq_append_getElem hj, List.map_append]
      exact RpL.app (RpL.tk ((TK.of s4).trans tE) _ _ hr3) (RpL.cons (Rp.tk tE _ _ ry) RpL.nil)
  · rintro H3 ⟨ys, s3, hD3, hr3⟩
    have hlen := RpL.len _ _ hr
    rw [hlen, List.length_map, List.take_length] at hr3
    exact hd H3 ys s3 hD3 hr3
theorem RpL.ints : ∀ {ns : List Int} {ys : List V}, RpL K H (ns.map PyData.int) ys → ys = ns.map V.int
  | [], ys, h => by
    unfold List.map RpL at h
    exact h
  | n :: ns, ys, h => by
    rw [List.map_cons] at h
    unfold RpL at h
    obtain ⟨v, r, rfl, h1, h2⟩ := h
    unfold Rp at h1
    rw [RpL.ints h2, h1]
    rfl
theorem dp_ints : ∀ (ns : List Int), DpAll K H (ns.map V.int) (ns.map PyData.int)
  | [] => .nil
  | n :: ns => .cons (.int n) (dp_ints ns)
theorem LstAt.dict {α : Type} {enc : α → PyData} {a q : Addr} {ds : List PyData} {m : List (Int × α)} (h : LstAt K H a ds) (k : Kp [q] H H') (t : TK H H') (hq : DictAt enc K H q m) : LstAt K H' a ds := by
  obtain ⟨xs, h1, _⟩ := id h
  obtain ⟨kv, h2, _⟩ := hq
  exact h.kp k t (nin1 (ne_of h1 h2 (by intro z; cases z)))
theorem dep_ints (ns : List Int) : dep (.tuple (ns.map PyData.int)) ≤ 1 := by
  unfold dep
  have := deps_map_le (c := 0) (f := PyData.int) ns fun x _ => Nat.le_refl _
  omega
end
section
variable {K : PySem.W.Frag} {H H' : Hp}
/-- [e for i in range(..)], each e data -/
theorem mapR_it {J : It} {n : Nat} {fv : Nat → V} {te : TE} {i : Nat} {σ : L2.St} {H2 : Hp} {D : Addr} {Qd : Hp → Prop} (w : Walk J n (fun _ => True) (YFn fv)) (g : Nat → PyData) (hD : H2 D = none) (hl : n ≤ 1000000)
    (hte : ∀ (j : Nat) (H' : Hp) (Q : VK), j < n → Same H2 H' → (∀ (H'' : Hp) (y : V), Same H' H'' → Rp K H'' (g j) y → Q y H'') → te (σ.set i (some (fv j))) H' Q)
    (hd : ∀ (H' : Hp) (ys : List V), Same H2 H' → H' D = some (.lst ys) → RpL K H' ((List.range n).map g) ys → Qd H') :
    ∃ W : Nat → Nat → Hp → Prop, (∃ m, W 0 m (upd H2 D (.lst []))) ∧ ∀ j m H, W j m H →
      (J.stop j H ∧ Qd H) ∨ (J.go j H ∧ ∃ Nx : Hp → Prop, (∀ H', Nx H' → ∃ m', m' < m ∧ W (j + 1) m' H') ∧ ∀ x H', J.yld j H x H' → gName i x (wipe σ [i]) H' fun σ2 H2 => wipe σ2 [i] = wipe σ [i] ∧ tYes σ2 H2 fun b H3 =>
        if b = true then te σ2 H3 fun y H4 => ∃ acc, H4 D = some (.lst acc) ∧ acc.length < sizeLine ∧ Nx (upd H4 D (.lst (acc ++ [y]))) else Nx H3) := by
  refine lc_it w (fun j H => ∃ ys, Same H2 H ∧ H D = some (.lst ys) ∧ RpL K H ((List.range j).map g) ys)
    ⟨[], (L2.Same.refl H2).new hD, upd_same, RpL.nil⟩ (fun j H _ _ => trivial) ?_ ?_
  · rintro j x H3 H3' hj ⟨ys, s3, hD3, hr3⟩ ⟨rfl, rfl⟩
    show wipe ((wipe σ [i]).set i (some (fv j))) [i] = wipe σ [i] ∧ _
    rw [set_wipe]
    refine ⟨wipe_set, tYes_t (iteT ?_)⟩
    refine hte j H3' _ hj s3 fun H4 y s4 ry => ⟨ys, s4 _ _ hD3, ?_, ys ++ [y], (s3.trans s4).wrn hD, upd_same, ?_⟩
    · have := RpL.len _ _ hr3
      rw [List.length_map, List.length_range] at this
      exact Nat.lt_of_le_of_lt (show ys.length ≤ 1000000 by omega) (by decide)
    · have tE : TK H4 (upd H4 D (.lst (ys ++ [y]))) := (TK.refl _).wr (s4 _ _ hD3) rfl
      rw [List.range_succ, List.map_append]
      exact RpL.app (RpL.tk ((TK.of s4).trans tE) _ _ hr3) (RpL.cons (Rp.tk tE _ _ ry) RpL.nil)
  · rintro H3 ⟨ys, s3, hD3, hr3⟩
    exact hd H3 ys s3 hD3 hr3
end
end Wn

namespace Wn
open PySem PySem.Spec PyProof.Rows L2
/-- enumerate of a text: each sign in a new pair -/
def ItsE (x : Str) : It :=
  ⟨fun i _ => i < x.cps.size, fun i H v H' => ∃ T c, v = .ref T ∧ H T = none ∧ H' = upd H T (.tup [.int (i : Nat), .str ⟨#[c]⟩]) ∧ x.cps[i]? = some c, fun i _ => x.cps.size ≤ i⟩
theorem turn_enumS {P : Program} {w : World} {K : PySem.W.Frag} {elts : List Expr} {kk : Nat} {tpos : Pos} (e it : Addr) (x : Str) (t : Tok) (ty : String) (hty : ty = "str_ascii_iterator" ∨ ty = "str_iterator") :
    Turn P w K (.Tuple elts kk tpos) (ItsE x) [e, it] e (fun i h => (∃ old, IsEnum h e it ((i : Nat) : Int) old) ∧ h.IsStrIter it ty x t i ∧ e ≠ it) where
  mem := by simp
  obj := fun i h st b hb => by
    obtain ⟨⟨old, he⟩, ⟨o, ho, hc, hd⟩, _⟩ := st
    have e' : b = e ∨ b = it := by simpa using hb
    rcases e' with z | z
    · rw [z]; exact ⟨_, he, fun v q => nomatch q⟩
    · rw [z]; exact ⟨o, ho, fun v q => by rw [hd] at q; cases q⟩
  keep := fun i h h' st k => let ⟨⟨old, he⟩, ⟨o, ho, r⟩, hne⟩ := st; ⟨⟨old, k e (by simp) _ he⟩, ⟨o, k it (by simp) o ho, r⟩, hne⟩
  item := by
    intro X hP hw hK hc i pins s σ H E I hf st hg
    subst hP hw hK
    obtain ⟨⟨old, he⟩, hit, hne⟩ := st
    have hh : X.A.in1.handled = none := I.ok.hd hc
    have hel : e < s.heap.objs.size := Heap.lt_size he
    have hil : it < s.heap.objs.size := by obtain ⟨_, q, _⟩ := hit; exact Heap.lt_size q
    have D : Draws X.prog X.w X.A.in1 it [it] x.cps.size (fun i v => ∃ c u, x.cps[i]? = some c ∧ v = .str ⟨#[c]⟩ u) (fun i h => h.IsStrIter it ty x t i) := by
      rcases hty with z | z
      · rw [z]; exact Draws.strAscii hh it x t
      · rw [z]; exact Draws.strWide hh it x t
    refine wpAny_pyNext_enum_itemD D he hit hg hne (by simpa using hne) fun v h' tk hv ho hit' hT hsz hk => ?_
    obtain ⟨c, u, hcx, rfl⟩ := hv
    refine ⟨_, rfl, wpAny_letOwnedTupleGo_enum (s := { s with heap := h', toks := tk + 1 }) ho fun h'' he' sb => ?_⟩
    have hT2 : h''.get? s.heap.objs.size = some { cls := .type "tuple", data := .seq #[.int i tk, .str ⟨#[c]⟩ u] } := (sb.2 _ (Nat.ne_of_gt hel)).trans hT
    have new : ObjOk X.prog X.w (upd H s.heap.objs.size (.tup [.int (i : Nat), .str ⟨#[c]⟩])) h'' s.heap.objs.size (.tup [.int (i : Nat), .str ⟨#[c]⟩]) :=
      ⟨by show 2 ≤ sizeLine; decide, [.int i tk, .str ⟨#[c]⟩ u], .cons ⟨_, rfl⟩ (.cons ⟨_, rfl⟩ .nil), ⟨_, hT2, rfl, _, rfl⟩⟩
    have I1 : Inv X pins σ (upd H s.heap.objs.size (.tup [.int (i : Nat), .str ⟨#[c]⟩])) { s with heap := h'', toks := tk + 1 } :=
      I.turnedNew (ch := [e, it]) (fun b ob hb q => (sb.2 b (fun z => hb (by simp [z]))).trans (hk b ob (fun z => hb (by simp [z])) (fun z => hb (by simp [z])) q)) hf (Nat.le_refl _) new
    refine ⟨.ref s.heap.objs.size, _, I1, rfl, ⟨_, c, rfl, I.hok.fresh (Nat.le_refl _), rfl, hcx⟩, ⟨⟨.str ⟨#[c]⟩ u, ?_⟩, ?_, hne⟩, fun b hb => ?_⟩
    · have e1 : ((i + 1 : Nat) : Int) = (i : Int) + 1 := by omega
      rw [e1]; exact he'
    · obtain ⟨o, q, r⟩ := hit'
      exact ⟨o, (sb.2 it (Ne.symm hne)).trans q, r⟩
    · have hb' : b < s.heap.objs.size := by
        have e' : b = e ∨ b = it := by simpa using hb
        rcases e' with z | z
        · rw [z]; exact hel
        · rw [z]; exact hil
      rw [upd_ne (Nat.ne_of_lt hb')]
      exact (hf b hb).1
  done := by
    intro X hP hw hK hc i pins s σ H E I hf st hg
    subst hP hw hK
    obtain ⟨⟨old, he⟩, hit, hne⟩ := st
    have hh : X.A.in1.handled = none := I.ok.hd hc
    obtain ⟨f0, f1, f2, f3, f4, f5⟩ := hf it (by simp)
    have D : Draws X.prog X.w X.A.in1 it [it] i (fun i v => False) (fun j h => j = i ∧ h.IsStrIter it ty x t i) := by
      refine ⟨fun _ _ st => let ⟨o, ho, _⟩ := st.2; ⟨o, ho⟩, fun _ _ _ st hk => let ⟨o, ho, r⟩ := st.2; ⟨st.1, o, hk it (by simp) o ho, r⟩, fun j s Q E hj st => absurd st.1 (Nat.ne_of_lt hj), fun s Q E st hE => ?_⟩
      have hx : x.cps[i]? = none := Array.getElem?_eq_none hg
      have st2 := st.2
      rcases hty with z | z
      · rw [z] at st2; exact wpAny_nextOf_ascii_end hh st2 hx hE
      · rw [z] at st2; exact wpAny_nextOf_wide_end hh st2 hx hE
    exact wpAny_pyNext_enum_endD D he ⟨rfl, hit⟩ fun h' eb => ⟨rfl, I.turned (t' := s.toks) (fun b o hb q => eb b o hb q) f0 f1 f3 f4 f5⟩
  self := fun A i s Q E st h => let ⟨⟨_, he⟩, _⟩ := st; wpAny_pyIter_enum he h
def iEnumS (ta : TA) : TI := fun σ H R => ta σ H fun vs H1 => ∃ x, vs = [.str x] ∧ R (ItsE x) H1
theorem pi_enumS {X : Cx} {e : Expr} {ta : TA} {p pos tpos : Pos} {elts : List Expr} {kk : Nat} (hg : Gl X "enumerate") (hm : X.mg "enumerate" = none) (ha : PA X [e] ta) (hs : starEach [e] X.env = [(false, eval e X.env)] := by rfl) :
    PI X (.Tuple elts kk tpos) (.Call (.Name "enumerate" p) [e] [] pos) (iEnumS ta) := by
  refine ⟨fun pins s σ H R I h => ?_⟩
  refine Call_ (ld_blt I hg hm boot_enumerate (PyProof.Rows.callWith_type1 (thn (ha.run pos pins s σ H _ I h) fun us s1 ⟨vs, H1, I1, r1, q1⟩ => ?_) hs rfl))
  obtain ⟨x, ex, q⟩ := q1
  subst ex
  cases r1 with
  | cons r rr =>
    cases rr
    obtain ⟨t, rfl⟩ := r
    refine call_enumerate_str fun h' he hit hsz hk => wpAny_pyIter_enum he ?_
    have I2 : Inv X pins σ H1 { s1 with heap := h' } := I1.kept (t' := s1.toks) hk
    refine ⟨s1.heap.objs.size + 1, [s1.heap.objs.size + 1, s1.heap.objs.size], _, _, H1, rfl, I2, turn_enumS (s1.heap.objs.size + 1) s1.heap.objs.size x t (strIterType x) ?_, ⟨⟨.none, he⟩, hit, Nat.succ_ne_self _⟩, fun b hb => ?_, q⟩
    · unfold strIterType
      split
      · exact .inl rfl
      · exact .inr rfl
    have e' : b = s1.heap.objs.size + 1 ∨ b = s1.heap.objs.size := by simpa using hb
    have hle : s1.heap.objs.size ≤ b := by
      rcases e' with z | z
      · rw [z]; exact Nat.le_add_right _ _
      · rw [z]; exact Nat.le_refl _
    exact I1.fpOk hle (I1.hok.fresh hle)
theorem walk_enumS {x : Str} : Walk (ItsE x) x.cps.size (fun _ => True) (fun i H v H' => ∃ T c, v = .ref T ∧ H T = none ∧ H' = upd H T (.tup [.int (i : Nat), .str ⟨#[c]⟩]) ∧ x.cps[i]? = some c) :=
  ⟨fun _ _ hi _ => hi, fun _ _ => Nat.le_refl _, fun _ _ _ _ _ _ y => y⟩
end Wn

namespace Wn
open PySem L2
open SX (S S_len S_cat S_beq_eq join_S)
theorem joinK {X : Cx} {K : PySem.W.Frag} {o e : Expr} {to te : TE} {apos pos : Pos} (hK : X.K = K) (ho : PE X o to) (he : PE X e te) (hs : starEach [e] X.env = [(false, eval e X.env)] := by rfl) (hbase : attributeBase o "join" X.env (eval o X.env) = eval o X.env := by rfl) (hline : (apos.endLine == pos.line) = true := by rfl) :
    PE X (.Call (.Attribute o "join" apos) [e] [] pos) (tM1 (fun x xs H Q => ∃ a p, ∃ ys : List Str, x = .str a ∧ xs = [.ref p] ∧ (SqL K H p (ys.map V.str) ∨ SqT K H p (ys.map V.str)) ∧
      (ys.map (·.length)).sum + ys.length * a.length ≤ 16777216 ∧ Q (.str (Txt.join a ys)) H) to te) := hK ▸ pe_join ho he hs hbase hline
theorem drop_min {cs : List Nat} {a b : Nat} : (cs.drop (min a cs.length)).take (min b cs.length - min a cs.length) = (cs.drop a).take (b - a) := by
  by_cases h : a ≤ cs.length
  · rw [Nat.min_eq_left h]
    by_cases h2 : b ≤ cs.length
    · rw [Nat.min_eq_left h2]
    · rw [Nat.min_eq_right (by omega), List.take_of_length_le (by rw [List.length_drop]; exact Nat.le_refl _), List.take_of_length_le (by rw [List.length_drop]; omega)]
  · rw [show min a cs.length = cs.length by omega, List.drop_of_length_le (Nat.le_refl _), List.drop_of_length_le (show cs.length ≤ a by omega), List.take_nil, List.take_nil]
theorem cutS_S (cs : List Nat) (a b : Nat) : cutS (S cs) (some (a : Int)) (some (b : Int)) = S ((cs.drop a).take (b - a)) := by
  unfold cutS
  rw [HT.sIx_nat, HT.sIx_nat, S_len, drop_min]
theorem joinL_nil : ∀ ls : List (List Nat), TL.joinL [] ls = ls.flatten
  | [] => rfl
  | [p] => by
    show p = List.flatten [p]
    simp
  | p :: q :: r => by
    show p ++ ([] ++ TL.joinL [] (q :: r)) = _
    rw [List.nil_append, joinL_nil (q :: r)]
    rfl
/-- a list of signs, joined -/
theorem join_signs (cs : List Nat) : Txt.join (S []) (cs.map fun c => S [c]) = S cs := by
  rw [show (cs.map fun c => S [c]) = (cs.map fun c => [c]).map S by rw [List.map_map]; rfl, join_S, joinL_nil]
  congr 1
  induction cs with
  | nil => rfl
  | cons c cs ih =>
    show [c] ++ (cs.map fun c => [c]).flatten = c :: cs
    rw [ih]
    rfl
theorem sum_signs (cs : List Nat) : (((cs.map fun c => S [c]).map (·.length)).sum : Nat) = cs.length := by
  induction cs with
  | nil => rfl
  | cons c cs ih =>
    rw [List.map_cons, List.map_cons, List.sum_cons, ih, List.length_cons, S_len, List.length_singleton]
    omega
def OkSign (c : Nat) : Prop := 32 ≤ c ∧ c ≤ 126 ∧ c ≠ 37
def spSign : Sp := fun vs H Q _ => ∃ (d f : Addr) (n : Int), vs = [.ref d] ∧ Deck H d f n ∧ n < 2 ^ 60 ∧
  ∀ (c : Nat) (H' : Hp), OkSign c → Kp [d] H H' → Deck H' d f (n + 1) → Q (.str (S [c])) H'
def spText : Sp := fun vs H Q _ => ∃ (d f : Addr) (n most : Int), vs = [.ref d, .int most] ∧ Deck H d f n ∧ n < 2 ^ 59 ∧ 0 ≤ most ∧ most ≤ 100000 ∧
  ∀ (cs : List Nat) (H' : Hp), (cs.length : Int) ≤ most → (∀ c ∈ cs, OkSign c) → Kp [d] H H' → Deck H' d f (n + 1 + most) → Q (.str (S cs)) H'
end Wn

namespace Wn
open PySem L2
def top (i : Nat) : Stmt := PySem.Challenge.pw_wrapnets_k25_whole_cut_again_and_joined.main.body.getD i (.Pass ⟨0, 0, 0, 0⟩)
abbrev sMixed : Stmt := top 8
abbrev sDeck : Stmt := top 9
abbrev sNext : Stmt := top 10
abbrev sSame : Stmt := top 11
section
variable {P : Program} {w : World} {K : PySem.W.Frag} {mg : Str → Option Value} {base : Heap}
theorem scMixed : FnScope ["_law_cell", "_law_at", "_law_one"] ["_law_cell", "_law_at"] (defScope sMixed) := ⟨rfl, rfl, rfl, by decide +kernel, rfl, by decide +kernel, by decide +kernel⟩
theorem ok_mixed {f : Addr} {fd : FuncData} (F : Fun K "_law_mixed" "_law_mixed" sMixed f fd) : FnOk P w K mg base CX0 1 f fd ["_law_cell", "_law_at"] spMixed := by
  refine F.ok scMixed (fun vs H Q E h => ?_) (fun cdv A outer s H vs Q E hr h => ?_)
  · obtain ⟨c, a, rfl, _⟩ := h
    rfl
  · obtain ⟨c, a, rfl, ha, hb, k⟩ := h
    refine ⟨_, pss_cons (ps_set (i := 2) scMixed.nd rfl (Or.inl rfl) (pe_op op_mod (pe_op op_add (pe_op op_add (pe_op op_mul (pe_op op_mod (pv 0) pe_int) pe_int)
      (pe_op op_mul (pe_op op_mul (pe_op op_add (pv 1) pe_int) (pe_op op_add (pv 1) pe_int)) pe_int)) pe_int) pe_int))
      (pss_one (ps_ret (pe_op op_fdiv (pe_op op_mod (pe_op op_mul (pv 2) (pv 2)) pe_int) pe_int))), ?_⟩
    refine ⟨_, rfl, _, _, rfl, rfl, (by show (0 : Int) < 2147483629; decide), _, _, rfl, rfl, .inr ⟨by decide, by decide⟩, _, rfl, _, _, rfl, rfl, _, rfl, _, _, rfl, rfl, _, _, rfl, rfl, .inl ⟨by omega, by omega⟩, _, _, rfl, rfl, .inr ⟨by decide, by decide⟩,
      _, _, rfl, rfl, _, _, rfl, rfl, _, _, rfl, rfl, (by show (0 : Int) < 2147483647; decide), ?_⟩
    refine ⟨_, rfl, _, rfl, _, _, rfl, rfl, .inl ⟨?_, ?_⟩, _, _, rfl, rfl, (by show (0 : Int) < 2147483629; decide), _, _, rfl, rfl, ⟨by decide, by decide⟩, k _⟩
    · have := Int.emod_nonneg (c % 2147483629 * 48271 + (a + 1) * (a + 1) * 7919 + 11) (show (2147483647 : Int) ≠ 0 by decide)
      omega
    · have := Int.emod_lt_of_pos (c % 2147483629 * 48271 + (a + 1) * (a + 1) * 7919 + 11) (show (0 : Int) < 2147483647 by decide)
      omega
theorem scNext : FnScope ["_law_deck_here", "_law_many", "_law_at"] ["_law_deck_here", "_law_many"] (defScope sNext) := ⟨rfl, rfl, rfl, by decide +kernel, rfl, by decide +kernel, by decide +kernel⟩
theorem ok_next {f : Addr} {fd : FuncData} (F : Fun K "_law_next" "_law_next" sNext f fd) (zL : mg "len" = none) (M : Cd P w K mg base 1 "_law_mixed" ["_law_cell", "_law_at"] spMixed) : FnOk P w K mg base CX0 2 f fd ["_law_deck_here", "_law_many"] spNext := by
  obtain ⟨fM, fdM, GM, mM, kM, bM⟩ := M
  refine F.ok scNext (fun vs H Q E h => ?_) (fun cdv A outer s H vs Q E hr h => ?_)
  · obtain ⟨d, f, m, n, rfl, _⟩ := h
    rfl
  · obtain ⟨d, f, m, n, rfl, hm, hn, ⟨a, wh, xs, hd, hf, a0, an, hx⟩, k⟩ := h
    have ndf : f ≠ d := fun z => by
      rw [z, hd] at hf
      have := congrArg (fun o => match o with | some (HO.lst (_ :: _ :: .ref _ :: _)) => true | _ => false) hf
      simp only at this
      cases xs with
      | nil => cases hf
      | cons x xs => cases xs with
        | nil => cases hf
        | cons y xs => cases xs with
          | nil => cases hf
          | cons z xs => cases hf
    refine ⟨_, pss_cons (ps_set (i := 2) scNext.nd rfl (Or.inl rfl) (pe_ix ix_list (pv 0) pe_int (fun _ _ => rfl)))
      (pss_cons (ps_asg (pe_op op_add (pv 2) pe_int) (pg_sub (pv 0) pe_int set_list))
      (pss_cons (ps_if (pt_cmpR op_lt (pv 2) (pe_callB call_len (by rfl) zL PySem.boot_len (pa_cons (pe_ix ix_list (pv 0) pe_int (fun _ _ => rfl)) pa_nil)) (nomark _))
        (pss_one (ps_ret (pe_op op_mod (pe_ix ix_list (pe_ix ix_list (pv 0) pe_int (fun _ _ => rfl)) (pv 2) (fun _ _ => rfl)) (pv 1)))) pss_nil)
      (pss_one (ps_ret (pe_op op_mod (pe_call GM hr rfl mM kM bM .nil pass0 (pa_cons (pe_ix ix_list (pv 0) pe_int (fun _ _ => rfl)) (pa_cons (pv 2) pa_nil))) (pv 1)))))), ?_⟩
    have hd2 : upd H d (.lst [.int (a + 1), .int wh, .ref f]) d = some (.lst [.int (a + 1), .int wh, .ref f]) := upd_same
    have hf2 : upd H d (.lst [.int (a + 1), .int wh, .ref f]) f = some (.lst (xs.map V.int)) := (upd_ne ndf).trans hf
    have hk : Kp [d] H (upd H d (.lst [.int (a + 1), .int wh, .ref f])) := (Kp.refl _ _).wr (List.mem_singleton.mpr rfl)
    have hD : Deck (upd H d (.lst [.int (a + 1), .int wh, .ref f])) d f (n + 1) := ⟨a + 1, wh, xs, hd2, hf2, by omega, by omega, hx⟩
    refine ⟨_, rfl, d, _, _, .int a, rfl, rfl, SqL.of hd, rfl, ?_⟩
    refine ⟨_, rfl, _, _, rfl, rfl, _, rfl, d, _, _, 0, rfl, rfl, hd, rfl, ?_⟩
    refine ⟨_, rfl, _, rfl, d, _, _, .ref f, rfl, rfl, SqL.of hd2, rfl, _, _, rfl, .inl ⟨_, SqL.of hf2, rfl⟩, _, _, rfl, rfl, _, rfl, ?_⟩
    refine ite2 (fun hl => ?_) (fun _ => ?_)
    · have hl := of_decide_eq_true hl
      rw [List.length_map] at hl
      have hj : a.toNat < xs.length := by omega
      have ha : ((a.toNat : Nat) : Int) = a := by omega
      refine ⟨_, rfl, d, _, _, .ref f, rfl, rfl, SqL.of hd2, rfl, _, rfl, f, _, _, .int (xs[a.toNat]), rfl, rfl, SqL.of hf2, ?_, _, rfl, _, _, rfl, rfl, hm, ?_⟩
      · have := atI_nat (xs := xs.map V.int) (j := a.toNat) (v := .int (xs[a.toNat])) (by simp [hj])
        rw [ha] at this
        exact this
      · exact k _ _ (Int.emod_nonneg _ (by omega)) (Int.emod_lt_of_pos _ hm) hk hD
    · refine ⟨_, rfl, d, _, _, .int wh, rfl, rfl, SqL.of hd2, rfl, _, rfl, wh, a, rfl, by omega, by omega, fun r => ?_⟩
      exact ⟨_, rfl, _, _, rfl, rfl, hm, k _ _ (Int.emod_nonneg _ (by omega)) (Int.emod_lt_of_pos _ hm) hk hD⟩
end
end Wn
namespace Wn
open PySem L2
section
variable {P : Program} {w : World} {K : PySem.W.Frag} {mg : Str → Option Value} {base : Heap}
theorem scDeck : FnScope ["_law_script", "_law_found", "_law_whole", "_law_k", "_law_rest", "_law_at"] ["_law_script"] (defScope sDeck) := ⟨rfl, rfl, rfl, by decide +kernel, rfl, by decide +kernel, by decide +kernel⟩
def restOf (σ : L2.St) (_ : Hp) : Nat := match σ[4]? with | some (some (V.int r)) => r.toNat | _ => 0
theorem ok_deck {f : Addr} {fd : FuncData} (F : Fun K "_law_deck" "_law_deck" sDeck f fd) (zL : mg "len" = none) (zR : mg "range" = none) (zM : mg "min" = none) (M : Cd P w K mg base 1 "_law_mixed" ["_law_cell", "_law_at"] spMixed) : FnOk P w K mg base CX0 2 f fd ["_law_script"] (spDeck K) := by
  obtain ⟨fM, fdM, GM, mM, kM, bM⟩ := M
  refine F.ok scDeck (fun vs H Q E h => ?_) (fun cdv A outer s H vs Q E hr h => ?_)
  · obtain ⟨a, ns, rfl, _⟩ := h
    rfl
  · obtain ⟨a, ns, rfl, hS, hlen, k⟩ := h
    refine ⟨_, pss_cons (ps_set (i := 1) scDeck.nd rfl (Or.inl rfl) (pe_lst pa_nil)) (pss_cons (ps_set (i := 2) scDeck.nd rfl (Or.inl rfl) (pe_callB call_len (by rfl) zL PySem.boot_len (pa_cons (pv 0) pa_nil)))
      (pss_cons (ps_for PassesOwn.never rfl (pi_range1 rfl zR (pa_cons (pe_callB (call_min2 rfl) (by rfl) zM (by decide +kernel) (pa_cons (pe_callB call_len (by rfl) zL PySem.boot_len (pa_cons (pv 0) pa_nil)) (pa_cons pe_int pa_nil))) pa_nil)) (pg_name (i := 3) scDeck.nd rfl (Or.inr rfl))
        (pss_cons (ps_set (i := 4) scDeck.nd rfl (Or.inr rfl) (pe_ix ix_list (pv 0) (pv 3) (fun _ _ => rfl)))
        (pss_cons (ps_if (pt_cmpR op_ge (pv 4) (pe_op op_pow pe_int pe_int) (nomark _))
          (pss_one (ps_while PassesOwn.never (PW.pt (pw_and (pt_cmpR op_gt (pv 4) pe_int (nomark _)) (pw_and1 (pt_cmpR op_lt (pe_callB call_len (by rfl) zL PySem.boot_len (pa_cons (pv 1) pa_nil)) pe_int (nomark _)))))
            (pss_cons (ps_expr (pe_bm PySem.F.plainAttrs_list PySem.F.slot_list_append PySem.F.type_list_append mt_append (pv 1) (pa_cons (pe_op op_mod (pv 4) pe_int) pa_nil)))
            (pss_one (ps_set (i := 4) scDeck.nd rfl (Or.inr rfl) (pe_op op_fdiv (pv 4) pe_int))))))
          (pss_one (ps_expr (pe_bm PySem.F.plainAttrs_list PySem.F.slot_list_extend PySem.F.type_list_extend mt_extend (pv 1) (pa_cons
            (pe_lc (own := [("_law_at", 5)]) (g := gName 5) (tt := tYes) rfl scDeck.nd (pi_range1 rfl zR (pa_cons pe_int pa_nil)) (blkOk_by (N := ["_law_script", "_law_found", "_law_whole", "_law_k", "_law_rest", "_law_at"]) (sc := defScope sDeck) (by decide +kernel))
              (fun _ _ _ _ _ => pg_name (i := 5) scDeck.nd rfl (Or.inl rfl)) (fun _ _ _ _ _ => pts_nil)
              (fun _ _ _ _ _ => pe_call GM hr rfl mM kM bM .nil pass0 (pa_cons (pv 4) (pa_cons (pe_op op_add (pe_op op_mul pe_int (pv 3)) (pv 5)) pa_nil)))) pa_nil)))))
        (pss_one (ps_set (i := 2) scDeck.nd rfl (Or.inl rfl) (pe_op op_mod (pe_op op_add (pe_op op_mul (pv 2) pe_int) (pe_ix ix_list (pv 0) (pv 3) (fun _ _ => rfl))) pe_int))))))
      (pss_one (ps_ret (pe_lst (pa_cons pe_int (pa_cons (pv 2) (pa_cons (pv 1) pa_nil)))))))), ?_⟩
    refine ⟨Nat.zero_le _, fun l hl => ?_⟩
    have s0 : Same H (upd H l (.lst [])) := (L2.Same.refl H).new hl
    have hS0 := s0.seq hS
    refine ⟨_, rfl, _, _, rfl, .inl ⟨_, hS0, rfl⟩, ?_⟩
    refine ⟨_, rfl, _, _, rfl, .inl ⟨_, hS0, rfl⟩, _, _, rfl, _, rfl, ?_⟩
    have hn63 : (ns.map V.int).length ≤ 63 := by rw [List.length_map]; exact hlen
    refine ⟨by split <;> omega, by split <;> omega, ?_⟩
    refine for_range (fun i σ H' => ∃ (wh : Int) (v3 v4 v5 : Option V) (xs : List Int), σ = [some (.ref a), some (.ref l), some (.int wh), v3, v4, v5] ∧ Same H H' ∧ H' l = some (.lst (xs.map V.int)) ∧ xs.length ≤ 3000 + 6 * i)
      ⟨_, _, _, _, [], rfl, s0, upd_same, Nat.zero_le _⟩ ?_ ?_
    · rintro i σ H1 hi ⟨wh, v3, v4, v5, xs, rfl, s1, hl1, hxs⟩
      have hi2 : i < ns.length ∧ i < 63 := by
        rw [List.length_map] at hi
        split at hi <;> omega
      have hat : atI (ns.map V.int) (0 + (i : Int)) = some (V.int ns[i]) := by
        rw [Int.zero_add]
        exact atI_nat (by simp [hi2.1])
      have hS1 := s1.seq hS
      -- what is left of a turn
      have fin : ∀ (H2 : Hp) (v4 v5 : Option V) (ys : List Int), Same H H2 → H2 l = some (.lst (ys.map V.int)) → ys.length ≤ 3000 + 6 * (i + 1) → ∃ (wh' : Int) (v3 v4' v5' : Option V) (xs : List Int),
          [some (V.ref a), some (.ref l), some (.int ((wh * 31 + ns[i]) % 2147483647)), some (.int (0 + (i : Int))), v4, v5] = [some (.ref a), some (.ref l), some (.int wh'), v3, v4', v5'] ∧ Same H H2 ∧ H2 l = some (.lst (xs.map V.int)) ∧ xs.length ≤ 3000 + 6 * (i + 1) :=
        fun H2 v4 v5 ys a b c => ⟨_, _, _, _, ys, rfl, a, b, c⟩
      refine ⟨_, rfl, _, rfl, a, _, _, _, rfl, rfl, hS1, hat, ?_⟩
      refine ⟨_, rfl, _, _, rfl, rfl, ⟨by decide, by decide, by decide⟩, _, _, rfl, rfl, _, rfl, ?_⟩
      refine ite2 (fun _ => ?_) (fun _ => ?_)
      · refine while_m (fun σ H' => ∃ (r : Int) (xs : List Int), σ = [some (.ref a), some (.ref l), some (.int wh), some (.int (0 + (i : Int))), some (.int r), v5] ∧ Same H H' ∧ H' l = some (.lst (xs.map V.int)) ∧ xs.length ≤ 3000 + 6 * (i + 1)) restOf
          ⟨_, xs, rfl, s1, hl1, by omega⟩ ?_
        rintro m σ H2 hm ⟨r, ys, rfl, s2, hl2, hys⟩
        have hm' : m = r.toNat := hm
        refine ⟨_, rfl, _, _, rfl, rfl, _, rfl, ?_⟩
        refine ite2 (fun hr0 => ?_) (fun _ => ?_)
        · have hr0 := of_decide_eq_true hr0
          refine ⟨_, rfl, _, _, rfl, .inl ⟨_, SqL.of hl2, rfl⟩, _, _, rfl, rfl, _, rfl, ?_⟩
          refine ite2 (fun hb => ?_) (fun _ => ?_)
          · have hb := of_decide_eq_true hb
            rw [List.length_map] at hb
            refine ⟨fun σ' H' => (∃ (r : Int) (xs : List Int), σ' = [some (.ref a), some (.ref l), some (.int wh), some (.int (0 + (i : Int))), some (.int r), v5] ∧ Same H H' ∧ H' l = some (.lst (xs.map V.int)) ∧ xs.length ≤ 3000 + 6 * (i + 1)) ∧ restOf σ' H' < m, fun σ' H' q => ⟨_, q.2, rfl, q.1⟩, ?_⟩
            refine ⟨_, rfl, .inl ⟨rfl, _, SqL.of hl2⟩, _, rfl, _, _, rfl, rfl, (by show (0 : Int) < 1000000; decide), l, _, _, rfl, rfl, hl2, (by rw [List.length_map]; exact Nat.lt_of_le_of_lt (show ys.length ≤ 3000 by omega) (by decide)), ?_⟩
            refine ⟨_, rfl, _, _, rfl, rfl, ⟨by decide, by decide⟩, ?_⟩
            refine ⟨⟨_, ys ++ [r % 1000000], rfl, s2.wrn hl, ?_, ?_⟩, ?_⟩
            · rw [upd_same, List.map_append]
              rfl
            · rw [List.length_append, List.length_singleton]
              omega
            · show (r / 1000000).toNat < m
              omega
          · exact ⟨_, rfl, _, _, rfl, rfl, .inr ⟨by decide, by decide⟩, _, rfl, _, rfl, a, _, _, _, rfl, rfl, s2.seq hS, hat, _, _, rfl, rfl, _, _, rfl, rfl, (by show (0 : Int) < 2147483647; decide), fin H2 _ _ ys s2 hl2 hys⟩
        · exact ⟨_, rfl, _, _, rfl, rfl, .inr ⟨by decide, by decide⟩, _, rfl, _, rfl, a, _, _, _, rfl, rfl, s2.seq hS, hat, _, _, rfl, rfl, _, _, rfl, rfl, (by show (0 : Int) < 2147483647; decide), fin H2 _ _ ys s2 hl2 hys⟩
      · refine ⟨_, rfl, .inl ⟨rfl, _, SqL.of hl1⟩, 6, rfl, by decide, by decide, fun D hD => ?_⟩
        have nDl : l ≠ D := ne_of_none hl1 hD
        refine lc_range (lo := 0) (n := 6) (fun j H' => ∃ ys : List Int, H' D = some (.lst (ys.map V.int)) ∧ ys.length = j ∧ Same H1 H' ) ⟨[], upd_same, rfl, (L2.Same.refl H1).new hD⟩ ?_ ?_
        · rintro j H2 hj ⟨ys, hD2, hys, s2⟩
          refine ⟨rfl, _, rfl, _, rfl, _, _, rfl, rfl, .inl ⟨by decide, by decide⟩, _, rfl, _, _, rfl, rfl, _, _, rfl, by omega, by omega, fun r => ?_⟩
          refine ⟨_, hD2, by rw [List.length_map, hys]; exact Nat.lt_trans hj (by decide), ys ++ [r], ?_, by rw [List.length_append, hys]; rfl, s2.wrn hD⟩
          rw [upd_same, List.map_append]
          rfl
        · rintro H2 ⟨ys, hD2, hys, s2⟩
          refine ⟨l, D, _, _, rfl, rfl, s2 _ _ hl1, hD2, ?_, ?_⟩
          · rw [List.length_map, List.length_map, hys]
            exact Nat.le_trans (show xs.length + 6 ≤ 6000 by omega) (by decide)
          · refine ⟨_, rfl, _, _, rfl, rfl, .inr ⟨by decide, by decide⟩, _, rfl, _, rfl, a, _, _, _, rfl, rfl, ((s1.trans s2).wrn hl).seq hS, hat, _, _, rfl, rfl, _, _, rfl, rfl, (by show (0 : Int) < 2147483647; decide), fin _ _ _ (xs ++ ys) ((s1.trans s2).wrn hl) ?_ ?_⟩
            · rw [upd_same, List.map_append]
            · rw [List.length_append, hys]
              omega
    · rintro σ H1 ⟨wh, v3, v4, v5, xs, rfl, s1, hl1, hxs⟩
      refine ⟨_, rfl, _, rfl, (by show 3 ≤ sizeLine; decide), fun d hd => ?_⟩
      have hn : ns.length ≤ 63 := hlen
      have hxs' : xs.length ≤ 100000 := by
        rw [List.length_map] at hxs
        split at hxs <;> omega
      refine k _ d l (s1.free hd) hl (s1.new hd) ⟨0, wh, xs, upd_same, ?_, Int.le_refl _, Int.le_refl _, hxs'⟩
      rw [upd_ne (ne_of_none hl1 hd)]
      exact hl1
end
end Wn
namespace Wn
open PySem L2
section
variable {P : Program} {w : World} {K : PySem.W.Frag} {mg : Str → Option Value} {base : Heap}
theorem scSame : FnScope ["_law_thing", "_law_due", "_law_k"] ["_law_thing", "_law_due"] (defScope sSame) := ⟨rfl, rfl, rfl, by decide +kernel, rfl, by decide +kernel, by decide +kernel⟩
/-- builtins that same asks -/
structure SameB (mg : Str → Option Value) : Prop where
  isi : mg "isinstance" = none
  tup : mg "tuple" = none
  bl : mg "bool" = none
  str : mg "str" = none
  int : mg "int" = none
  all : mg "all" = none
  len : mg "len" = none
  rng : mg "range" = none
theorem ok_same_step {n : Nat} {f : Addr} {fd : FuncData} (F : Fun K "_law_same" "_law_same" sSame f fd) (B : SameB mg) (mS : mg "_law_same" = some (.ref f)) (kS : PySem.W.keepIn K (.ref f) = true) (bS : Binds K fd ["_law_thing", "_law_due"] [])
    (G : FnOk P w K mg base CX0 n f fd ["_law_thing", "_law_due"] (spSame K n)) : FnOk P w K mg base CX0 (n + 1) f fd ["_law_thing", "_law_due"] (spSame K (n + 1)) := by
  refine F.ok scSame (fun vs H Q E h => ?_) (fun cdv A outer s H vs Q E hr h => ?_)
  · obtain ⟨x, y, d, rfl, _⟩ := h
    rfl
  · obtain ⟨x, y, d, rfl, hx, hy, hd, hz, k⟩ := h
    refine ⟨_, pss_cons (ps_if (pt_val (pe_callB call_isi (by rfl) B.isi (by decide +kernel) (pa_cons (pv 1) (pa_cons (pe_bltn (v := .ty "tuple") (by rfl) B.tup PyProof.Rows.boot_tuple rfl) pa_nil))))
        (pss_cons (ps_if (PW.pt (pw_or (pt_not (pt_val (pe_callB call_isi (by rfl) B.isi (by decide +kernel) (pa_cons (pv 0) (pa_cons (pe_bltn (v := .ty "tuple") (by rfl) B.tup PyProof.Rows.boot_tuple rfl) pa_nil)))))
            (pw_or1 (pt_cmpR op_ne (pe_callB call_len (by rfl) B.len PySem.boot_len (pa_cons (pv 0) pa_nil)) (pe_callB call_len (by rfl) B.len PySem.boot_len (pa_cons (pv 1) pa_nil)) (nomark _)))))
          (pss_one (ps_ret pe_bl)) pss_nil)
        (pss_one (ps_ret (pe_callB (cr_all rfl) (by rfl) B.all (by decide +kernel) (pa_cons
          (pe_lc (own := [("_law_k", 2)]) (g := gName 2) (tt := tYes) rfl scSame.nd (pi_range1 rfl B.rng (pa_cons (pe_callB call_len (by rfl) B.len PySem.boot_len (pa_cons (pv 1) pa_nil)) pa_nil)) (blkOk_by (N := ["_law_thing", "_law_due", "_law_k"]) (sc := defScope sSame) (by decide +kernel))
              (fun _ _ _ _ _ => pg_name (i := 2) scSame.nd rfl (Or.inl rfl)) (fun _ _ _ _ _ => pts_nil)
              (fun _ _ _ _ _ => pe_call G hr rfl mS kS bS .nil pass0 (pa_cons (pe_ix (show IxR _ (rIxT K) from ix_tup) (pv 0) (pv 2) (fun _ _ => rfl)) (pa_cons (pe_ix (show IxR _ (rIxT K) from ix_tup) (pv 1) (pv 2) (fun _ _ => rfl)) pa_nil)))) pa_nil))))) pss_nil)
      (pss_cons (ps_if (PW.pt (pw_or (pt_val (pe_callB call_isi (by rfl) B.isi (by decide +kernel) (pa_cons (pv 1) (pa_cons (pe_bltn (v := .ty "bool") (by rfl) B.bl PyProof.Rows.boot_bool rfl) pa_nil)))) (pw_or1 (pt_cmp (pc_isN (pv 1))))))
        (pss_one (ps_ret (pe_and (pe_cmpR op_eq (pe_callB call_isi (by rfl) B.isi (by decide +kernel) (pa_cons (pv 0) (pa_cons (pe_bltn (v := .ty "bool") (by rfl) B.bl PyProof.Rows.boot_bool rfl) pa_nil))) (pe_callB call_isi (by rfl) B.isi (by decide +kernel) (pa_cons (pv 1) (pa_cons (pe_bltn (v := .ty "bool") (by rfl) B.bl PyProof.Rows.boot_bool rfl) pa_nil))) (nomark _))
          (pe_and (pe_cmpR op_eq (pe_cmp (pc_isN (pv 0)) rfl) (pe_cmp (pc_isN (pv 1)) rfl) (nomark _)) (pe_one (pe_cmpR op_eq (pv 0) (pv 1) (nomark _))))))) pss_nil)
      (pss_cons (ps_if (pt_val (pe_callB call_isi (by rfl) B.isi (by decide +kernel) (pa_cons (pv 1) (pa_cons (pe_bltn (v := .ty "str") (by rfl) B.str PyProof.Rows.boot_str rfl) pa_nil))))
        (pss_one (ps_ret (pe_and (pe_callB call_isi (by rfl) B.isi (by decide +kernel) (pa_cons (pv 0) (pa_cons (pe_bltn (v := .ty "str") (by rfl) B.str PyProof.Rows.boot_str rfl) pa_nil))) (pe_one (pe_cmpR op_eq (pv 0) (pv 1) (nomark _)))))) pss_nil)
      (pss_one (ps_ret (pe_and (pe_callB call_isi (by rfl) B.isi (by decide +kernel) (pa_cons (pv 0) (pa_cons (pe_bltn (v := .ty "int") (by rfl) B.int PyProof.Rows.boot_int rfl) pa_nil)))
        (pe_and (pe_not (pe_callB call_isi (by rfl) B.isi (by decide +kernel) (pa_cons (pv 0) (pa_cons (pe_bltn (v := .ty "bool") (by rfl) B.bl PyProof.Rows.boot_bool rfl) pa_nil)))) (pe_one (pe_cmpR op_eq (pv 0) (pv 1) (nomark _))))))))), ?_⟩
    cases d with
    | none =>
      cases hx
      cases hy
      refine ⟨_, rfl, _, _, _, _, false, rfl, .ty _, .base .non, kit_ty (by decide +kernel), _, rfl, iteF ?_⟩
      refine ⟨_, rfl, _, _, _, _, false, rfl, .ty _, .base .non, kit_ty (by decide +kernel), _, rfl, iteF ?_⟩
      refine ⟨_, rfl, _, rfl, iteT ?_⟩
      refine ⟨_, rfl, _, _, _, _, false, rfl, .ty _, .base .non, kit_ty (by decide +kernel), _, rfl, _, _, _, _, false, rfl, .ty _, .base .non, kit_ty (by decide +kernel), rfl, _, rfl, iteT ?_⟩
      refine ⟨_, rfl, _, rfl, rfl, _, rfl, iteT ?_⟩
      exact ⟨_, rfl, _, rfl, rfl, k _ (L2.Same.refl _)⟩
    | bool b =>
      cases hx
      cases hy
      refine ⟨_, rfl, _, _, _, _, false, rfl, .ty _, .base (.bl _), kit_ty (by decide +kernel), _, rfl, iteF ?_⟩
      refine ⟨_, rfl, _, _, _, _, true, rfl, .ty _, .base (.bl _), kit_ty (by decide +kernel), _, rfl, iteT ?_⟩
      refine ⟨_, rfl, _, _, _, _, true, rfl, .ty _, .base (.bl _), kit_ty (by decide +kernel), _, rfl, _, _, _, _, true, rfl, .ty _, .base (.bl _), kit_ty (by decide +kernel), rfl, _, rfl, iteT ?_⟩
      refine ⟨_, rfl, _, rfl, rfl, _, rfl, iteT ?_⟩
      refine ⟨_, rfl, _, rfl, rfl, ?_⟩
      show Q (.bl (decide (V.bl b = V.bl b))) H
      rw [decide_eq_true rfl]
      exact k _ (L2.Same.refl _)
    | int i =>
      cases hx
      cases hy
      refine ⟨_, rfl, _, _, _, _, false, rfl, .ty _, .base (.int _), kit_ty (by decide +kernel), _, rfl, iteF ?_⟩
      refine ⟨_, rfl, _, _, _, _, false, rfl, .ty _, .base (.int _), kit_ty (by decide +kernel), _, rfl, iteF ?_⟩
      refine ⟨_, rfl, _, rfl, iteF ?_⟩
      refine ⟨_, rfl, _, _, _, _, false, rfl, .ty _, .base (.int _), kit_ty (by decide +kernel), _, rfl, iteF ?_⟩
      refine ⟨_, rfl, _, _, _, _, true, rfl, .ty _, .base (.int _), kit_ty (by decide +kernel), _, rfl, iteT ?_⟩
      refine ⟨_, rfl, _, _, _, _, false, rfl, .ty _, .base (.int _), kit_ty (by decide +kernel), _, rfl, _, rfl, iteT ?_⟩
      refine ⟨_, rfl, _, rfl, rfl, ?_⟩
      show Q (.bl (decide (V.int i = V.int i))) H
      rw [decide_eq_true rfl]
      exact k _ (L2.Same.refl _)
    | str z =>
      cases hx
      cases hy
      refine ⟨_, rfl, _, _, _, _, false, rfl, .ty _, .base (.str _), kit_ty (by decide +kernel), _, rfl, iteF ?_⟩
      refine ⟨_, rfl, _, _, _, _, false, rfl, .ty _, .base (.str _), kit_ty (by decide +kernel), _, rfl, iteF ?_⟩
      refine ⟨_, rfl, _, rfl, iteF ?_⟩
      refine ⟨_, rfl, _, _, _, _, true, rfl, .ty _, .base (.str _), kit_ty (by decide +kernel), _, rfl, iteT ?_⟩
      refine ⟨_, rfl, _, _, _, _, true, rfl, .ty _, .base (.str _), kit_ty (by decide +kernel), _, rfl, iteT ?_⟩
      refine ⟨_, rfl, _, rfl, rfl, ?_⟩
      show Q (.bl (decide (V.str z = V.str z))) H
      rw [decide_eq_true rfl]
      exact k _ (L2.Same.refl _)
    | tuple ds =>
      unfold Rp at hx hy
      obtain ⟨a, xs, rfl, sa, la⟩ := hx
      obtain ⟨b, ys, rfl, sb, lb⟩ := hy
      have lx := RpL.len _ _ la
      have ly := RpL.len _ _ lb
      have hl : ds.length ≤ 1000000 := by
        have := szs_len ds
        unfold sz at hz
        omega
      have hlc : ((ds.length : Nat) : Int) ≤ 1000000 := by omega
      refine ⟨_, rfl, _, _, _, _, true, rfl, .ty _, ty_tup sb, kit_ty (by decide +kernel), _, rfl, iteT ?_⟩
      refine ⟨_, rfl, _, _, _, _, true, rfl, .ty _, ty_tup sa, kit_ty (by decide +kernel), _, rfl, iteF ?_⟩
      refine ⟨_, rfl, _, ds.length, rfl, .inr ⟨_, sa, lx.symm⟩, _, rfl, _, ds.length, rfl, .inr ⟨_, sb, ly.symm⟩, rfl, _, rfl, ?_⟩
      refine iteNS rfl ?_
      refine ⟨_, rfl, _, ds.length, rfl, .inr ⟨_, sb, ly.symm⟩, ds.length, rfl, by omega, by omega, fun D hD => ?_⟩
      refine lc_range (lo := 0) (n := _) (fun i H' => H' D = some (.lst ((List.replicate i true).map V.bl)) ∧ Same H H') ⟨upd_same, (L2.Same.refl H).new hD⟩ ?_ ?_
      · rintro i H2 hi ⟨hD2, s2⟩
        have hi : i < ds.length := by simpa using hi
        have e1 : ds[i]? = some ds[i] := by simp [hi]
        obtain ⟨u, eu, ru⟩ := RpL.get _ _ la i _ e1
        obtain ⟨v, ev, rv⟩ := RpL.get _ _ lb i _ e1
        have t2 := TK.of s2
        refine ⟨rfl, _, rfl, _, rfl, a, xs, _, u, rfl, rfl, SqT.tk sa t2, ?_, _, rfl, _, rfl, b, ys, _, v, rfl, rfl, SqT.tk sb t2, ?_, ?_⟩
        · rw [Int.zero_add]
          exact atI_nat eu
        · rw [Int.zero_add]
          exact atI_nat ev
        · refine ⟨u, v, ds[i], rfl, Rp.tk t2 _ _ ru, Rp.tk t2 _ _ rv, ?_, ?_, fun H3 s3 => ?_⟩
          · have := dep_get ds i _ e1
            unfold dep at hd
            omega
          · have := sz_get ds i _ e1
            unfold sz at hz
            omega
          · refine ⟨_, s3 _ _ hD2, ?_, ?_, ?_⟩
            · rw [List.length_map, List.length_replicate]
              exact Nat.lt_of_lt_of_le (Nat.lt_of_lt_of_le hi hl) (by decide)
            · rw [upd_same, List.replicate_succ', List.map_append]
              rfl
            · exact (s2.trans s3).wrn hD
      · rintro H2 ⟨hD2, s2⟩
        refine ⟨D, _, rfl, SqL.of hD2, ?_⟩
        have e : (List.replicate ((ds.length : Nat) : Int).toNat true).all id = true := by simp
        rw [e]
        exact k _ s2
    | list _ => cases hx
    | dict _ => cases hx
theorem ok_same {f : Addr} {fd : FuncData} (F : Fun K "_law_same" "_law_same" sSame f fd) (B : SameB mg) (mS : mg "_law_same" = some (.ref f)) (kS : PySem.W.keepIn K (.ref f) = true) (bS : Binds K fd ["_law_thing", "_law_due"] []) :
    ∀ n, FnOk P w K mg base CX0 n f fd ["_law_thing", "_law_due"] (spSame K n)
  | 0 => ⟨fun vs H Q E ⟨x, y, d, _, _, _, h, _⟩ => absurd h (Nat.not_lt_zero _), fun A outer s H args us vs Q E hr he hb hv ⟨x, y, d, _, _, _, h, _⟩ => absurd h (Nat.not_lt_zero _)⟩
  | n + 1 => ok_same_step F B mS kS bS (ok_same F B mS kS bS n)
end
end Wn

namespace Wn
open PySem L2
section
variable {α : Type}
theorem lookA_cons {p : Int × α} {m : List (Int × α)} {k : Int} : lookA (p :: m) k = if p.1 = k then some p.2 else lookA m k := by
  unfold lookA
  rw [List.find?_cons]
  by_cases e : p.1 = k <;> simp [e]
theorem lookA_map (k j : Int) (x : α) : ∀ m : List (Int × α), lookA (m.map fun kv => if kv.1 = k then (kv.1, x) else kv) j = (lookA m j).map fun y => if j = k then x else y
  | [] => rfl
  | p :: m => by
    rw [List.map_cons, lookA_cons, lookA_cons, lookA_map k j x m]
    by_cases e : p.1 = k
    · by_cases f : p.1 = j
      · simp [e, f, show j = k by omega]
      · simp only [e, if_true]
        rw [if_neg (by omega), if_neg (by omega)]
    · by_cases f : p.1 = j
      · simp [e, f, show ¬ j = k by omega]
      · simp [e, f]
theorem lookA_snoc (k j : Int) (x : α) : ∀ m : List (Int × α), lookA (m ++ [(k, x)]) j = match lookA m j with | some y => some y | none => if k = j then some x else none
  | [] => by
    show lookA [(k, x)] j = _
    rw [lookA_cons]
    rfl
  | p :: m => by
    show lookA (p :: (m ++ [(k, x)])) j = _
    rw [lookA_cons, lookA_cons, lookA_snoc k j x m]
    by_cases e : p.1 = j <;> simp [e]
theorem any_lookA (k : Int) : ∀ m : List (Int × α), (m.any fun kv => decide (kv.1 = k)) = (lookA m k).isSome
  | [] => rfl
  | p :: m => by
    rw [List.any_cons, lookA_cons, any_lookA k m]
    by_cases e : p.1 = k <;> simp [e]
theorem lookA_put (m : List (Int × α)) (k j : Int) (x : α) : lookA (putA m k x) j = if j = k then some x else lookA m j := by
  unfold putA
  rw [any_lookA]
  cases e : lookA m k with
  | none =>
    rw [if_neg (by simp), lookA_snoc]
    by_cases f : j = k
    · subst f
      simp [e]
    · rw [if_neg f]
      cases lookA m j with
      | none => simp [show ¬ k = j by omega]
      | some y => rfl
  | some z =>
    rw [if_pos (by simp), lookA_map]
    by_cases f : j = k
    · subst f
      rw [e]
      simp
    · rw [if_neg f]
      cases lookA m j with
      | none => rfl
      | some y => simp [f]
theorem mem_keys {k : Int} {m : List (Int × α)} : k ∈ m.map (·.1) ↔ (lookA m k).isSome = true := by
  constructor
  · intro h
    obtain ⟨x, e, _⟩ := lookA_mem h
    rw [e]
    rfl
  · intro h
    rw [← any_lookA, List.any_eq_true] at h
    obtain ⟨p, hp, e⟩ := h
    rw [decide_eq_true_eq] at e
    exact List.mem_map.mpr ⟨p, hp, e⟩
theorem keys_put_in {m : List (Int × α)} {k : Int} {x : α} (h : (lookA m k).isSome = true) : (putA m k x).map (·.1) = m.map (·.1) := by
  unfold putA
  rw [any_lookA, if_pos h, List.map_map]
  refine List.map_congr_left fun p _ => ?_
  show (if p.1 = k then (p.1, x) else p).1 = p.1
  split <;> rfl
theorem keys_put_new {m : List (Int × α)} {k : Int} {x : α} (h : lookA m k = none) : (putA m k x).map (·.1) = m.map (·.1) ++ [k] := by
  unfold putA
  rw [any_lookA, if_neg (by rw [h]; simp), List.map_append]
  rfl
theorem nodup_put {m : List (Int × α)} {k : Int} {x : α} (h : (m.map (·.1)).Nodup) : ((putA m k x).map (·.1)).Nodup := by
  cases e : lookA m k with
  | none =>
    rw [keys_put_new e, List.nodup_append]
    refine ⟨h, by simp, fun a ha b hb => ?_⟩
    rw [List.mem_singleton] at hb
    subst hb
    intro z
    subst z
    rw [mem_keys, e] at ha
    cases ha
  | some y =>
    rw [keys_put_in (by rw [e]; rfl)]
    exact h
end
theorem eq_of_lt : ∀ (a b : List Int), a.Pairwise (· < ·) → b.Pairwise (· < ·) → (∀ x, x ∈ a ↔ x ∈ b) → a = b
  | [], [], _, _, _ => rfl
  | [], y :: b, _, _, h => by
    have := (h y).mpr List.mem_cons_self
    cases this
  | x :: a, [], _, _, h => by
    have := (h x).mp List.mem_cons_self
    cases this
  | x :: a, y :: b, ha, hb, h => by
    rw [List.pairwise_cons] at ha hb
    have e : x = y := by
      have h1 := (h x).mp List.mem_cons_self
      have h2 := (h y).mpr List.mem_cons_self
      rcases List.mem_cons.mp h1 with h1 | h1
      · exact h1
      · rcases List.mem_cons.mp h2 with h2 | h2
        · exact h2.symm
        · have := ha.1 _ h2
          have := hb.1 _ h1
          omega
    subst e
    congr 1
    refine eq_of_lt a b ha.2 hb.2 fun z => ?_
    constructor
    · intro hz
      have h1 := (h z).mp (List.mem_cons_of_mem _ hz)
      rcases List.mem_cons.mp h1 with h1 | h1
      · have := ha.1 _ hz
        omega
      · exact h1
    · intro hz
      have h1 := (h z).mpr (List.mem_cons_of_mem _ hz)
      rcases List.mem_cons.mp h1 with h1 | h1
      · have := hb.1 _ hz
        omega
      · exact h1
theorem lt_of_nodup : ∀ {a : List Int}, a.Pairwise (· ≤ ·) → a.Nodup → a.Pairwise (· < ·)
  | [], _, _ => List.Pairwise.nil
  | x :: a, h, n => by
    rw [List.pairwise_cons] at h
    rw [List.nodup_cons] at n
    rw [List.pairwise_cons]
    refine ⟨fun y hy => ?_, lt_of_nodup h.2 n.2⟩
    have h1 := h.1 y hy
    have h2 : x ≠ y := fun z => n.1 (z ▸ hy)
    omega
end Wn

namespace Wn
open PySem L2
open SX (S S_len S_cat S_beq_eq join_S)
abbrev sSign : Stmt := top 12
abbrev sText : Stmt := top 13

def allSigns : Str := Str.ofString " !\"#$&'()*+,-./0123456789:;<=>?@ABCDEFGHIJKLMNOPQRSTUVWXYZ[\\]^_" ++ Str.ofString "`abcdefghijklmnopqrstuvwxyz{|}~"
theorem allSigns_len : allSigns.cps.toList.length = 94 := by decide +kernel
theorem allSigns_ok : (allSigns.cps.toList.all fun c => decide (32 ≤ c) && decide (c ≤ 126) && decide (c ≠ 37)) = true := by decide +kernel
theorem allSigns_sz : (Str.ofString " !\"#$&'()*+,-./0123456789:;<=>?@ABCDEFGHIJKLMNOPQRSTUVWXYZ[\\]^_").length + (Str.ofString "`abcdefghijklmnopqrstuvwxyz{|}~").length ≤ sizeLine := by decide +kernel
theorem allSigns_sz2 : allSigns.length ≤ sizeLine := by decide +kernel
section
variable {P : Program} {w : World} {K : PySem.W.Frag} {mg : Str → Option Value} {base : Heap}
theorem scSign : FnScope ["_law_deck_here", "_law_some"] ["_law_deck_here"] (defScope sSign) := ⟨rfl, rfl, rfl, by decide +kernel, rfl, by decide +kernel, by decide +kernel⟩
theorem ok_sign {f : Addr} {fd : FuncData} (F : Fun K "_law_sign" "_law_sign" sSign f fd)
    (cN : Cd P w K mg base 2 "_law_next" ["_law_deck_here", "_law_many"] spNext) : FnOk P w K mg base CX0 3 f fd ["_law_deck_here"] spSign := by
  obtain ⟨fN, fdN, GN, mN, kN, bN⟩ := cN.tk
  refine F.ok scSign (fun vs H Q E h => ?_) (fun cdv A outer s H vs Q E hr h => ?_)
  · obtain ⟨d, f, n, rfl, _⟩ := h
    rfl
  · obtain ⟨d, f, n, rfl, D0, hn, k⟩ := h
    have hr2 : Room 2 _ := hr
    refine ⟨_, (pss_cons (ps_set (i := 1) scSign.nd rfl (Or.inl rfl) pe_str)
       (pss_cons (ps_set (i := 1) scSign.nd rfl (Or.inl rfl) (pe_op op_add_str (pv 1) pe_str))
       (pss_one (ps_ret (pe_ix ix_str (pv 1) (pe_call GN hr2 rfl mN kN bN .nil pass0 (pa_cons (pv 0) (pa_cons pe_int pa_nil))) (fun _ _ => rfl)))))), ?_⟩
    refine ⟨_, rfl, _, _, rfl, rfl, allSigns_sz, ?_⟩
    refine ⟨_, rfl, _, rfl, d, f, 94, n, rfl, by decide, hn, D0, fun r H1 r0 r1 k1 D1 t1 => ?_⟩
    have hj : r.toNat < allSigns.cps.toList.length := by rw [allSigns_len]; omega
    have hr' : ((r.toNat : Nat) : Int) = r := by omega
    have ha : atI allSigns.cps.toList r = some (allSigns.cps.toList[r.toNat]) := by
      have := atI_nat (xs := allSigns.cps.toList) (j := r.toNat) (v := allSigns.cps.toList[r.toNat]) (by simp [hj])
      rw [hr'] at this
      exact this
    refine ⟨allSigns, r, _, rfl, rfl, allSigns_sz2, ha, k _ _ ?_ k1 D1⟩
    have h1 := List.all_eq_true.mp allSigns_ok _ (List.getElem_mem hj)
    simp only [Bool.and_eq_true, decide_eq_true_eq] at h1
    exact ⟨h1.1.1, h1.1.2, h1.2⟩
theorem scText : FnScope ["_law_deck_here", "_law_most", "_law_k"] ["_law_deck_here", "_law_most"] (defScope sText) := ⟨rfl, rfl, rfl, by decide +kernel, rfl, by decide +kernel, by decide +kernel⟩
theorem ok_text {f : Addr} {fd : FuncData} (F : Fun K "_law_text" "_law_text" sText f fd) (zR : mg "range" = none)
    (cN : Cd P w K mg base 2 "_law_next" ["_law_deck_here", "_law_many"] spNext) (cG : Cd P w K mg base 3 "_law_sign" ["_law_deck_here"] spSign) : FnOk P w K mg base CX0 4 f fd ["_law_deck_here", "_law_most"] spText := by
  obtain ⟨fN, fdN, GN, mN, kN, bN⟩ := cN.tk
  obtain ⟨fG, fdG, GG, mG, kG, bG⟩ := cG.tk
  refine F.ok scText (fun vs H Q E h => ?_) (fun cdv A outer s H vs Q E hr h => ?_)
  · obtain ⟨d, f, n, most, rfl, _⟩ := h
    rfl
  · obtain ⟨d, f, n, most, rfl, D0, hn, m0, m1, k⟩ := h
    have hr2 : Room 2 _ := hr.mono (by decide)
    have hr3 : Room 3 _ := hr
    refine ⟨_, (pss_one (ps_ret (joinK (K := K) rfl pe_str (pe_lc (own := [("_law_k", 2)]) (g := (gName 2)) (tt := tYes) rfl scText.nd (pi_range1 rfl zR (pa_cons (pe_call GN hr2 rfl mN kN bN .nil pass0 (pa_cons (pv 0) (pa_cons (pe_op op_add (pv 1) pe_int) pa_nil))) pa_nil)) (blkOk_by (N := ["_law_deck_here", "_law_most", "_law_k"]) (sc := defScope sText) (by decide +kernel))
       (fun _ _ _ _ _ => (pg_name (i := 2) scText.nd rfl (Or.inl rfl))) (fun _ _ _ _ _ => pts_nil) (fun _ _ _ _ _ => (pe_call GG hr3 rfl mG kG bG .nil pass0 (pa_cons (pv 0) pa_nil))))))), ?_⟩
    refine ⟨⟨_, rfl⟩, ?_⟩
    refine ⟨_, rfl, _, rfl, _, _, rfl, rfl, d, f, most + 1, n, rfl, by omega, by omega, D0, fun r H1 r0 r1 k1 D1 t1 => ?_⟩
    refine ⟨r, rfl, by omega, by omega, fun D hD => ?_⟩
    have nDd : D ≠ d := (ne_of_none D1.lst.choose_spec hD).symm
    have s2 : Same H1 (upd H1 D (.lst [])) := (L2.Same.refl H1).new hD
    refine lc_range (lo := 0) (n := r.toNat) (fun j H' => ∃ cs : List Nat, H' D = some (.lst ((cs.map fun c => S [c]).map V.str)) ∧ cs.length = j ∧ (∀ c ∈ cs, OkSign c) ∧ Kp [d] H1 H' ∧ Deck H' d f (n + 1 + j)) ⟨[], upd_same, rfl, (by intro c hc; cases hc), Kp.of s2, (D1.same s2).mono (by omega)⟩ ?_ ?_
    · rintro j H3 hj ⟨cs, hD3, lc, oc, k3, D3⟩
      refine ⟨rfl, _, rfl, d, f, n + 1 + j, rfl, D3, by omega, fun c H4 hc k4 D4 t4 => ?_⟩
      have hD4 := k4 _ _ (nin1 nDd) hD3
      refine ⟨_, hD4, ?_, cs ++ [c], ?_, by rw [List.length_append, lc]; rfl, ?_, (k3.trans k4).wrn hD, ?_⟩
      · rw [List.length_map, List.length_map, lc]
        exact Nat.lt_of_le_of_lt (show j ≤ 100000 by omega) (by decide)
      · rw [upd_same, List.map_append, List.map_append]
        rfl
      · intro c' hc'
        rcases List.mem_append.mp hc' with h | h
        · exact oc _ h
        · rw [List.mem_singleton.mp h]
          exact hc
      · have hf : f ≠ D := ne_of_none D1.lst2.choose_spec hD
        exact (D4.kp (M := [D]) ((Kp.refl _ _).wr (List.mem_singleton.mpr rfl)) (nin1 nDd.symm) (nin1 hf)).mono (by omega)
    · rintro H3 ⟨cs, hD3, lc, oc, k3, D3⟩
      refine ⟨_, D, cs.map fun c => S [c], rfl, rfl, .inl (SqL.of hD3), ?_, ?_⟩
      · rw [sum_signs, List.length_map]
        show cs.length + cs.length * 0 ≤ _
        omega
      · rw [show (Txt.join (Str.ofString "") (cs.map fun c => S [c])) = S cs from join_signs cs]
        exact k cs H3 (by omega) oc (k1.trans k3) (D3.mono (by omega))
end
end Wn

namespace Wn
open PySem L2
open SX (S S_len S_cat S_beq_eq join_S)
abbrev sCut : Stmt := top 4
abbrev sPut : Stmt := top 5
abbrev Part := Nat × List Nat
def partD (p : Part) : PyData := .tuple [.int (p.1 : Int), .str (S p.2)]
theorem partD_inv {K : PySem.W.Frag} {H : Hp} {x : Part} {u : V} (r : Rp K H (partD x) u) : ∃ a, u = .ref a ∧ SqT K H a [.int (x.1 : Int), .str (S x.2)] := by
  unfold partD Rp at r
  obtain ⟨a, xs, rfl, ha, hl⟩ := r
  unfold RpL at hl
  obtain ⟨v0, r0, rfl, h0, hl⟩ := hl
  unfold RpL at hl
  obtain ⟨v1, r1, rfl, h1, hl⟩ := hl
  unfold RpL at hl
  subst hl
  unfold Rp at h0 h1
  subst h0 h1
  exact ⟨a, rfl, ha⟩
def cutAt (cs : List Nat) (s i : Nat) : Part := (i * s, (cs.drop (i * s)).take s)
def cutN (cs : List Nat) (s : Nat) : Nat := (cs.length + s - 1) / s
def cutL (cs : List Nat) (s : Nat) : List Part := (List.range (cutN cs s)).map (cutAt cs s)
theorem rg_cut {cs : List Nat} {s : Nat} (h1 : 1 ≤ s) (h2 : s ≤ 100000) (h3 : cs.length ≤ 100000) : RgC 0 (cs.length : Int) (s : Int) (cutN cs s) := by
  have e := PyProof.Rows.rangeSize_pos (len := (cs.length : Int)) (c := (s : Int)) (by omega) (by omega)
  have e2 : ((cutN cs s : Nat) : Int) = ((cs.length : Int) + (s : Int) - 1) / (s : Int) := by
    unfold cutN
    rw [Int.natCast_ediv]
    congr 1
    omega
  have h4 : ((cutN cs s : Nat) : Int) ≤ 200000 := by
    rw [e2]
    refine Int.ediv_le_of_le_mul (by omega) ?_
    have : (200000 : Int) * 1 ≤ 200000 * (s : Int) := Int.mul_le_mul_of_nonneg_left (by omega) (by omega)
    omega
  refine ⟨by omega, by omega, ?_, by rw [e, e2]⟩
  unfold Builtin.Range.small
  rw [e, ← e2]
  simp only [Builtin.Range.rangeFitsLong, Bool.and_eq_true, Bool.or_eq_true, decide_eq_true_eq, beq_iff_eq]
  have h5 : 0 ≤ ((cutN cs s : Nat) : Int) := by omega
  generalize ((cutN cs s : Nat) : Int) = q at h4 h5
  simp only [show (s : Int) > 0 by omega, if_true]
  exact ⟨⟨⟨⟨⟨by omega, by omega⟩, by omega, by omega⟩, by omega, by omega⟩, by omega, by omega⟩, .inr (by simp only [Bool.and_eq_true, decide_eq_true_eq]; omega)⟩
theorem cutN_lt {cs : List Nat} {s i : Nat} (h1 : 1 ≤ s) : i < cutN cs s ↔ i * s < cs.length := by
  unfold cutN
  rw [Nat.lt_iff_add_one_le, Nat.le_div_iff_mul_le (by omega), Nat.add_mul]
  omega
def spCut (K : PySem.W.Frag) : Sp := fun vs H Q _ => ∃ (cs : List Nat) (s : Nat), vs = [.str (S cs), .int (s : Int)] ∧ 1 ≤ s ∧ s ≤ 100000 ∧ cs.length ≤ 100000 ∧
  ∀ (H' : Hp) (v : V), Same H H' → Rp K H' (.tuple ((cutL cs s).map partD)) v → Q v H'
def GoodParts (cs : List Nat) (ps : List Part) : Prop := (∀ p ∈ ps, p.2 = (cs.drop p.1).take p.2.length) ∧ (∀ p ∈ ps, p.1 + p.2.length ≤ cs.length) ∧ ∀ i, i < cs.length → ∃ p ∈ ps, p.1 ≤ i ∧ i < p.1 + p.2.length
def spPut (K : PySem.W.Frag) : Sp := fun vs H Q _ => ∃ (cs : List Nat) (v : V) (ps : List Part), vs = [.int (cs.length : Int), v] ∧ Rp K H (.tuple (ps.map partD)) v ∧ GoodParts cs ps ∧ cs.length ≤ 100000 ∧
  ∀ H', Same H H' → Q (.str (S cs)) H'
structure TB (mg : Str → Option Value) : Prop where
  tuple : mg "tuple" = none
  len : mg "len" = none
  range : mg "range" = none
  enumerate : mg "enumerate" = none
  list : mg "list" = none
  dict : mg "dict" = none
  sorted : mg "sorted" = none

section
variable {P : Program} {w : World} {K : PySem.W.Frag} {mg : Str → Option Value} {base : Heap}
theorem scCut : FnScope ["text", "size", "first"] ["text", "size"] (defScope sCut) := ⟨rfl, rfl, rfl, by decide +kernel, rfl, by decide +kernel, by decide +kernel⟩
theorem ok_cut {f : Addr} {fd : FuncData} (F : Fun K "cut" "cut" sCut f fd) (B : TB mg) : FnOk P w K mg base CX0 1 f fd ["text", "size"] (spCut K) := by
  refine F.ok scCut (fun vs H Q E h => ?_) (fun cdv A outer s H vs Q E hr h => ?_)
  · obtain ⟨cs, s, rfl, _⟩ := h
    rfl
  · obtain ⟨cs, s, rfl, h1, h2, h3, k⟩ := h
    refine ⟨_, (pss_one (ps_ret (pe_callTy (tupOfK (K := K) rfl) (by rfl) B.tuple PyProof.Rows.boot_tuple (pa_cons (pe_lc (own := [("first", 2)]) (g := (gName 2)) (tt := tYes) rfl scCut.nd (pi_range3 rfl B.range (pa_cons pe_int (pa_cons (pe_callB (lenK (K := K) rfl) (by rfl) B.len PySem.boot_len (pa_cons (pv 0) pa_nil)) (pa_cons (pv 1) pa_nil)))) (blkOk_by (N := ["text", "size", "first"]) (sc := defScope sCut) (by decide +kernel))
       (fun _ _ _ _ _ => (pg_name (i := 2) scCut.nd rfl (Or.inl rfl))) (fun _ _ _ _ _ => pts_nil) (fun _ _ _ _ _ => (pe_tup (pa_cons (pv 2) (pa_cons (pe_slice sl_str (pv 0) (po_some (pv 2)) (po_some (pe_op op_add (pv 2) (pv 1)))) pa_nil))))) pa_nil)))), ?_⟩
    have hcs : (S cs).length ≤ sizeLine := by rw [S_len]; exact Nat.le_trans h3 (by decide)
    refine ⟨_, rfl, _, cs.length, rfl, ⟨hcs, (S_len cs).symm⟩, _, rfl, _, _, _, _, rfl, rg_cut h1 h2 h3, fun D hD => ?_⟩
    have hN : cutN cs s ≤ 1000000 := by
      by_cases hz : cutN cs s = 0
      · omega
      · have := (cutN_lt (cs := cs) (i := cutN cs s - 1) h1).mp (by omega)
        have h4 : (cutN cs s - 1) * 1 ≤ (cutN cs s - 1) * s := Nat.mul_le_mul_left _ h1
        omega
    refine mapR_it (K := K) (walk_rangeC (lo := 0) (c := (s : Int)) (n := cutN cs s)) (fun i => partD (cutAt cs s i)) hD hN ?_ ?_
    · intro j H' Q' hj s' hQ
      have e1 : (0 : Int) + (j : Nat) * (s : Int) = ((j * s : Nat) : Int) := by rw [Int.natCast_mul]; omega
      have e2 : (0 : Int) + (j : Nat) * (s : Int) + (s : Int) = ((j * s + s : Nat) : Int) := by rw [e1]; omega
      refine ⟨_, rfl, _, rfl, _, rfl, _, rfl, _, rfl, _, rfl, _, _, rfl, rfl, _, rfl, _, rfl, hcs, (by show 2 ≤ sizeLine; decide), fun t ht => ?_⟩
      have ec : cutS (S cs) (some (0 + (j : Nat) * (s : Int))) (some (0 + (j : Nat) * (s : Int) + (s : Int))) = S (cutAt cs s j).2 := by
        rw [e2, e1, cutS_S]
        unfold cutAt
        rw [Nat.add_sub_cancel_left]
      refine hQ _ _ ((L2.Same.refl _).new ht) (Rp.tup upd_same ?_)
      rw [ec, e1]
      exact RpL.cons Rp.int (RpL.cons Rp.str RpL.nil)
    · intro H' ys s' hD' hr'
      refine ⟨D, ys, rfl, .inl ⟨SqL.of hD', fun t ht => ?_⟩⟩
      refine k _ _ (s'.new ht) (Rp.tup upd_same (RpL.tk ((TK.refl _).new ht) _ _ ?_))
      unfold cutL
      rw [List.map_map]
      exact hr'
end
end Wn

namespace Wn
open PySem L2
open SX (S S_len S_cat S_beq_eq join_S)

theorem lt_len {n : Int} : ∀ (l : List Int) (a : Int), l.Pairwise (· < ·) → (∀ x ∈ l, a ≤ x ∧ x < n) → (l.length : Int) ≤ if a ≤ n then n - a else 0
  | [], a, _, _ => by
    show (0 : Int) ≤ _
    split <;> omega
  | x :: l, a, h, b => by
    rw [List.pairwise_cons] at h
    have hx := b x List.mem_cons_self
    have ih := lt_len l (x + 1) h.2 fun y hy => ⟨by have := h.1 y hy; omega, (b y (List.mem_cons_of_mem _ hy)).2⟩
    rw [List.length_cons]
    split at ih <;> split <;> omega
theorem nodup_len {n : Nat} {l : List Int} (nd : l.Nodup) (b : ∀ x ∈ l, 0 ≤ x ∧ x < (n : Int)) : l.length ≤ n := by
  have p := sortI_perm l
  have h := lt_len (n := (n : Int)) (sortI l) 0 (lt_of_nodup (sortI_sorted l) (p.nodup_iff.mpr nd)) fun x hx => b x (p.mem_iff.mp hx)
  rw [p.length_eq, if_pos (by omega)] at h
  omega
theorem nodup_all {n : Nat} {l : List Int} (nd : l.Nodup) (b : ∀ x, x ∈ l ↔ 0 ≤ x ∧ x < (n : Int)) : l.length = n := by
  have p := sortI_perm l
  have e : sortI l = (List.range n).map fun (j : Nat) => (j : Int) := by
    refine eq_of_lt _ _ (lt_of_nodup (sortI_sorted l) (p.nodup_iff.mpr nd)) ?_ fun x => ?_
    · rw [List.pairwise_map]
      exact (List.pairwise_lt_range (n := n)).imp fun h => by omega
    · rw [p.mem_iff, b, List.mem_map]
      constructor
      · intro h
        exact ⟨x.toNat, by rw [List.mem_range]; omega, by omega⟩
      · rintro ⟨j, hj, rfl⟩
        rw [List.mem_range] at hj
        omega
  rw [← p.length_eq, e, List.length_map, List.length_range]
def signD (c : Nat) : PyData := .str (S [c])
/-- signs that have come, all of them those of the text -/
structure Come (cs : List Nat) (m : List (Int × Nat)) : Prop where
  nd : (m.map (·.1)).Nodup
  ok : ∀ i c, lookA m i = some c → 0 ≤ i ∧ i < (cs.length : Int) ∧ cs[i.toNat]? = some c
theorem Come.nil (cs : List Nat) : Come cs [] := ⟨List.nodup_nil, fun i c h => by cases h⟩
theorem Come.put {cs : List Nat} {m : List (Int × Nat)} (h : Come cs m) {j c : Nat} (hc : cs[j]? = some c) : Come cs (putA m (j : Int) c) := by
  refine ⟨nodup_put h.nd, fun i x e => ?_⟩
  rw [lookA_put] at e
  split at e
  · rename_i ei
    cases e
    have := (List.getElem?_eq_some_iff.mp hc).1
    exact ⟨by omega, by omega, by rw [ei]; exact hc⟩
  · exact h.ok i x e
theorem Come.len {cs : List Nat} {m : List (Int × Nat)} (h : Come cs m) : m.length ≤ cs.length := by
  have := nodup_len (n := cs.length) h.nd fun x hx => by
    obtain ⟨c, e, _⟩ := lookA_mem hx
    have := h.ok x c e
    exact ⟨this.1, this.2.1⟩
  rw [List.length_map] at this
  exact this
theorem Come.all {cs : List Nat} {m : List (Int × Nat)} (h : Come cs m) (a : ∀ i : Nat, i < cs.length → (lookA m (i : Int)).isSome = true) : m.length = cs.length := by
  have := nodup_all (n := cs.length) h.nd fun x => by
    constructor
    · intro hx
      obtain ⟨c, e, _⟩ := lookA_mem hx
      have := h.ok x c e
      exact ⟨this.1, this.2.1⟩
    · intro hx
      have := a x.toNat (by omega)
      rw [show ((x.toNat : Nat) : Int) = x by omega] at this
      exact mem_keys.mpr this
  rw [List.length_map] at this
  exact this
section
variable {P : Program} {w : World} {K : PySem.W.Frag} {mg : Str → Option Value} {base : Heap}
theorem scPut : FnScope ["whole", "parts", "signs", "torn", "first", "some", "at", "sign"] ["whole", "parts"] (defScope sPut) := ⟨rfl, rfl, rfl, by decide +kernel, rfl, by decide +kernel, by decide +kernel⟩
theorem ok_puttog {f : Addr} {fd : FuncData} (F : Fun K "put_together" "put_together" sPut f fd) (B : TB mg) : FnOk P w K mg base CX0 1 f fd ["whole", "parts"] (spPut K) := by
  refine F.ok scPut (fun vs H Q E h => ?_) (fun cdv A outer s H vs Q E hr h => ?_)
  · obtain ⟨cs, v, ps, rfl, _⟩ := h
    rfl
  · obtain ⟨cs, v, ps, rfl, rv, ⟨g1, g2, g3⟩, h3, k⟩ := h
    have hu := hu_of hr
    refine ⟨_, (pss_cons (ps_set (i := 2) scPut.nd rfl (Or.inr rfl) pe_dnewK)
       (pss_cons (ps_set (i := 3) scPut.nd rfl (Or.inl rfl) (pe_lst pa_nil))
       (pss_cons (ps_for PassesOwn.never rfl (pi_tup (pv 1)) (pg_tup rfl (pgs_cons (pg_name (i := 4) scPut.nd rfl (Or.inl rfl)) (pgs_cons (pg_name (i := 5) scPut.nd rfl (Or.inl rfl)) pgs_nil)))
       (pss_one (ps_for PassesOwn.never rfl (pi_enumS (by rfl) B.enumerate (pa_cons (pv 5) pa_nil)) (pg_tup rfl (pgs_cons (pg_name (i := 6) scPut.nd rfl (Or.inl rfl)) (pgs_cons (pg_name (i := 7) scPut.nd rfl (Or.inl rfl)) pgs_nil)))
       (pss_cons (ps_if (PW.pt (pw_or (pt_cmpR op_ge (pe_op op_add (pv 4) (pv 6)) (pv 0) (nomark _)) (pw_or1 (pt_cmpR op_ne (pe_dget2 hu (pv 2) (pe_op op_add (pv 4) (pv 6)) (pv 7) ⟨rfl, rfl, rfl, rfl⟩) (pv 7) (nomark _)))))
       (pss_one (ps_expr (pe_bm PySem.F.plainAttrs_list PySem.F.slot_list_append PySem.F.type_list_append mt_append (pv 3) (pa_cons (pe_op op_add (pv 4) (pv 6)) pa_nil))))
       pss_nil)
       (pss_one (ps_dput hu (pv 2) (pe_op op_add (pv 4) (pv 6)) (pv 7) rfl))))))
       (pss_cons (ps_if (pt_cmpR (neDK (K := K) rfl hr.units) (pv 3) (pe_lst pa_nil) (nomark _))
       (pss_one ps_never)
       pss_nil)
       (pss_cons (ps_if (pt_cmpR op_lt (pe_callB call_lenD (by rfl) B.len PySem.boot_len (pa_cons (pv 2) pa_nil)) (pv 0) (nomark _))
       (pss_one (ps_ret pe_non))
       pss_nil)
       (pss_one (ps_ret (joinK (K := K) rfl pe_str (pe_lc (own := [("at", 6)]) (g := (gName 6)) (tt := tYes) rfl scPut.nd (pi_range1 rfl B.range (pa_cons (pv 0) pa_nil)) (blkOk_by (N := ["whole", "parts", "signs", "torn", "first", "some", "at", "sign"]) (sc := defScope sPut) (by decide +kernel))
       (fun _ _ _ _ _ => (pg_name (i := 6) scPut.nd rfl (Or.inl rfl))) (fun _ _ _ _ _ => pts_nil) (fun _ _ _ _ _ => (pe_dget hu (pv 2) (pv 6) (fun _ _ => rfl)))))))))))), ?_⟩
    unfold Rp at rv
    obtain ⟨a, xs, rfl, ha, rl⟩ := rv
    intro sd nsd
    refine ⟨Nat.zero_le _, fun ta nta => ?_⟩
    have s1 : Same H (upd H sd (.dK [])) := (L2.Same.refl H).new nsd
    have s2 : Same H (upd (upd H sd (.dK [])) ta (.lst [])) := s1.new nta
    have hsd2 : upd (upd H sd (.dK [])) ta (.lst []) sd = some (.dK []) := (upd_ne (ne_of_none upd_same nta)).trans upd_same
    have hta2 : upd (upd H sd (.dK [])) ta (.lst []) ta = some (.lst []) := upd_same
    have nta0 : H ta = none := s1.free nta
    generalize upd (upd H sd (.dK [])) ta (.lst []) = H2 at s2 hsd2 hta2
    have lxs := RpL.len _ _ rl
    rw [List.length_map] at lxs
    refine ⟨_, rfl, a, rfl, ⟨_, SqT.tk ha (TK.of s2)⟩, ?_⟩
    refine for_tup (K := K) (a := a) (xs := xs) (fun i σ H' => ∃ (m : List (Int × Nat)) (v4 v5 v6 v7 : Option V), σ = [some (.int (cs.length : Int)), some (.ref a), some (.ref sd), some (.ref ta), v4, v5, v6, v7] ∧ Same H H' ∧ H' ta = some (.lst []) ∧ DictAt signD K H' sd m ∧ Come cs m ∧ ∀ p ∈ ps.take i, ∀ j : Nat, p.1 ≤ j → j < p.1 + p.2.length → (lookA m (j : Int)).isSome = true)
      ⟨[], _, _, _, _, rfl, s2, hta2, ⟨[], hsd2, rfl⟩, Come.nil cs, (by intro p hp; cases hp)⟩ (fun i σ H' _ ⟨_, _, _, _, _, _, s, _⟩ => SqT.tk ha (TK.of s)) ?_ ?_
    · rintro i x σ H3 hx ⟨m, v4, v5, v6, v7, rfl, s3, hta3, hd3, cm, cov⟩
      have hi : i < ps.length := by
        have q := (List.getElem?_eq_some_iff.mp hx).1
        omega
      obtain ⟨v, ev, rv⟩ := RpL.get _ _ rl i (partD ps[i]) (by rw [List.getElem?_map, List.getElem?_eq_getElem hi]; rfl)
      have ex : v = x := Option.some.inj (ev.symm.trans hx)
      rw [ex] at rv
      obtain ⟨pa, rfl, hpa⟩ := partD_inv (Rp.tk (TK.of s3) _ _ rv)
      have hp1 := g1 _ (List.getElem_mem hi)
      have hp2 := g2 _ (List.getElem_mem hi)
      generalize hpe : ps[i] = p at hpa hp1 hp2 rv
      have hsg : ∀ l c, p.2[l]? = some c → cs[p.1 + l]? = some c := fun l c hc => by
        rw [hp1, List.getElem?_take] at hc
        split at hc
        · rw [List.getElem?_drop] at hc
          exact hc
        · cases hc
      refine ⟨pa, _, rfl, hpa, rfl, _, _, rfl, _, _, rfl, rfl, ?_⟩
      refine ⟨_, rfl, _, rfl, ?_⟩
      refine for_it (walk_enumS (x := S p.2)) (fun l σ H' => ∃ (m : List (Int × Nat)) (v6 v7 : Option V), σ = [some (.int (cs.length : Int)), some (.ref a), some (.ref sd), some (.ref ta), some (.int (p.1 : Int)), some (.str (S p.2)), v6, v7] ∧ Same H H' ∧ H' ta = some (.lst []) ∧ DictAt signD K H' sd m ∧ Come cs m ∧ (∀ q ∈ ps.take i, ∀ j : Nat, q.1 ≤ j → j < q.1 + q.2.length → (lookA m (j : Int)).isSome = true) ∧ ∀ j : Nat, p.1 ≤ j → j < p.1 + l → (lookA m (j : Int)).isSome = true)
        ⟨m, _, _, rfl, s3, hta3, hd3, cm, cov, fun j h1 h2 => by omega⟩ (fun _ _ _ _ _ => trivial) ?_ ?_
      · rintro l y σ H4 H5 hl ⟨m, v6, v7, rfl, s4, hta4, hd4, cm4, cov4, cov4'⟩ ⟨T, c, rfl, nT, rfl, hc⟩
        have hc : p.2[l]? = some c := by
          have : (p.2.toArray)[l]? = some c := hc
          rw [List.getElem?_toArray] at this
          exact this
        have hcc := hsg l c hc
        have hll : l < p.2.length := (List.getElem?_eq_some_iff.mp hc).1
        have s45 : Same H4 (upd H4 T (.tup [.int (l : Nat), .str ⟨#[c]⟩])) := (L2.Same.refl _).new nT
        have hT5 : upd H4 T (.tup [.int (l : Nat), .str ⟨#[c]⟩]) T = some (.tup [.int (l : Nat), .str ⟨#[c]⟩]) := upd_same
        generalize upd H4 T (.tup [.int (l : Nat), .str ⟨#[c]⟩]) = H5 at s45 hT5
        have hd5 := hd4.same s45
        have hta5 := s45 _ _ hta4
        have s5 := s4.trans s45
        obtain ⟨kvs, hk5, rk5⟩ := id hd5
        have e0 : ((p.1 : Nat) : Int) + ((l : Nat) : Int) = ((p.1 + l : Nat) : Int) := by omega
        refine ⟨T, _, rfl, SqT.of hT5, rfl, _, _, rfl, _, _, rfl, rfl, ?_⟩
        have kE : Kp [sd] H5 (upd H5 sd (.dK (putK kvs (Sum.inl ((p.1 + l : Nat) : Int)) (.str ⟨#[c]⟩)))) := (Kp.refl _ _).wr (List.mem_singleton.mpr rfl)
        have tE : TK H5 (upd H5 sd (.dK (putK kvs (Sum.inl ((p.1 + l : Nat) : Int)) (.str ⟨#[c]⟩)))) := (TK.refl _).wr hk5 rfl
        have nts : ta ≠ sd := ne_of hta5 hk5 (by intro z; cases z)
        have fin : ∃ (m : List (Int × Nat)) (v6 v7 : Option V), [some (V.int (cs.length : Int)), some (.ref a), some (.ref sd), some (.ref ta), some (.int (p.1 : Int)), some (.str (S p.2)), some (.int (l : Nat)), some (.str ⟨#[c]⟩)] = [some (.int (cs.length : Int)), some (.ref a), some (.ref sd), some (.ref ta), some (.int (p.1 : Int)), some (.str (S p.2)), v6, v7] ∧ Same H (upd H5 sd (.dK (putK kvs (Sum.inl ((p.1 + l : Nat) : Int)) (.str ⟨#[c]⟩)))) ∧ (upd H5 sd (.dK (putK kvs (Sum.inl ((p.1 + l : Nat) : Int)) (.str ⟨#[c]⟩)))) ta = some (.lst []) ∧ DictAt signD K (upd H5 sd (.dK (putK kvs (Sum.inl ((p.1 + l : Nat) : Int)) (.str ⟨#[c]⟩)))) sd m ∧ Come cs m ∧ (∀ q ∈ ps.take i, ∀ j : Nat, q.1 ≤ j → j < q.1 + q.2.length → (lookA m (j : Int)).isSome = true) ∧ ∀ j : Nat, p.1 ≤ j → j < p.1 + (l + 1) → (lookA m (j : Int)).isSome = true := by
          refine ⟨putA m ((p.1 + l : Nat) : Int) c, _, _, rfl, s5.wrn nsd, (upd_ne nts).trans hta5, ⟨_, upd_same, (rk5.put (x := c) Rp.str).tk tE⟩, cm4.put hcc, fun q hq j h1 h2 => ?_, fun j h1 h2 => ?_⟩
          · rw [lookA_put]
            split
            · rfl
            · exact cov4 q hq j h1 h2
          · rw [lookA_put]
            split
            · rfl
            · exact cov4' j h1 (by omega)
        refine ⟨_, rfl, _, rfl, _, _, rfl, rfl, _, rfl, _, _, rfl, rfl, _, rfl, ?_⟩
        rw [show decide ((cs.length : Int) ≤ ((p.1 : Nat) : Int) + ((l : Nat) : Int)) = false from decide_eq_false (by omega)]
        refine iteF ?_
        have g := DGet.k (k := Sum.inl ((p.1 + l : Nat) : Int)) hk5
        have g' : DGet H5 sd (.int (((p.1 : Nat) : Int) + ((l : Nat) : Int))) (valV kvs (Sum.inl ((p.1 + l : Nat) : Int))) := by rw [e0]; exact g
        refine ⟨_, rfl, sd, rfl, .inl ⟨kvs, .inl hk5⟩, _, rfl, _, rfl, _, _, rfl, rfl, _, rfl, _, g', ?_⟩
        have eo : (valV kvs (Sum.inl ((p.1 + l : Nat) : Int))).getD (.str ⟨#[c]⟩) = .str ⟨#[c]⟩ := by
          rcases rk5.val (k := ((p.1 + l : Nat) : Int)) with ⟨e1, e2⟩ | ⟨x, u, e1, e2, r⟩
          · rw [e2]
            rfl
          · rw [e2]
            have h1 := (cm4.ok _ _ e1).2.2
            rw [Int.toNat_natCast, hcc] at h1
            unfold signD Rp at r
            rw [r, Option.some.inj h1]
            rfl
        rw [eo]
        refine ⟨_, rfl, rfl, _, rfl, ?_⟩
        refine iteNS rfl ?_
        have dp : DPut H5 sd (.int (((p.1 : Nat) : Int) + ((l : Nat) : Int))) (.str ⟨#[c]⟩) (upd H5 sd (.dK (putK kvs (Sum.inl ((p.1 + l : Nat) : Int)) (.str ⟨#[c]⟩)))) := by
          rw [e0]
          exact DPut.k (k := Sum.inl ((p.1 + l : Nat) : Int)) hk5 (by rw [rk5.len]; exact Nat.lt_of_le_of_lt (Nat.le_trans cm4.len h3) (by decide))
        exact ⟨_, rfl, _, rfl, _, rfl, _, rfl, _, _, rfl, rfl, sd, _, rfl, dp, fin⟩
      · rintro σ H4 ⟨m, v6, v7, rfl, s4, hta4, hd4, cm4, cov4, cov4'⟩
        have el : (S p.2).cps.size = p.2.length := by simp
        rw [el] at cov4'
        refine ⟨m, _, _, _, _, rfl, s4, hta4, hd4, cm4, fun q hq j h1 h2 => ?_⟩
        rw [List.take_succ_eq_append_getElem hi] at hq
        rcases List.mem_append.mp hq with hq | hq
        · exact cov4 q hq j h1 h2
        · rw [List.mem_singleton, hpe] at hq
          subst hq
          exact cov4' j h1 h2
    · rintro σ H3 ⟨m, v4, v5, v6, v7, rfl, s3, hta3, hd3, cm, cov⟩
      obtain ⟨kvs, hk3, rk3⟩ := id hd3
      have call : m.length = cs.length := cm.all fun i hi => by
        obtain ⟨p, hp, h1, h2⟩ := g3 i hi
        rw [lxs, List.take_length] at cov
        exact cov p hp i h1 h2
      refine ⟨_, rfl, Nat.zero_le _, fun l nl => ?_⟩
      have s4 : Same H3 (upd H3 l (.lst [])) := (L2.Same.refl _).new nl
      have hl4 : upd H3 l (.lst []) l = some (.lst []) := upd_same
      generalize upd H3 l (.lst []) = H4 at s4 hl4
      refine ⟨.list [], .list [], .lst (SqL.of (s4 _ _ hta3)) .nil, .lst (SqL.of hl4) .nil, rfl, rfl, _, rfl, ?_⟩
      rw [show PyData.eqv (.list []) (.list []) = true from SeqAt.eqv_refl _ rfl]
      refine iteF ?_
      refine ⟨_, rfl, sd, kvs, rfl, s4 _ _ hk3, _, rfl, _, _, rfl, rfl, _, rfl, ?_⟩
      rw [show decide (((kvs.length : Nat) : Int) < (cs.length : Int)) = false from decide_eq_false (by rw [rk3.len, call]; omega)]
      refine iteF ?_
      refine ⟨⟨_, rfl⟩, ?_⟩
      refine ⟨_, rfl, _, rfl, by omega, by omega, fun D hD => ?_⟩
      have s34 := s3.trans s4
      refine lc_range (lo := 0) (n := _) (fun j H' => H' D = some (.lst (((cs.take j).map fun c => S [c]).map V.str)) ∧ Same H4 H') ⟨upd_same, (L2.Same.refl _).new hD⟩ ?_ ?_
      · rintro j H5 hj ⟨hD5, s5⟩
        have hj : j < cs.length := by simpa using hj
        have e0 : (0 : Int) + (j : Int) = ((j : Nat) : Int) := by omega
        have hs : (lookA m (j : Int)).isSome = true := by
          obtain ⟨p, hp, h1, h2⟩ := g3 j hj
          rw [lxs, List.take_length] at cov
          exact cov p hp j h1 h2
        have ev : valV kvs (Sum.inl ((j : Nat) : Int)) = some (.str (S [cs[j]])) := by
          rcases rk3.val (k := ((j : Nat) : Int)) with ⟨e1, e2⟩ | ⟨x, u, e1, e2, r⟩
          · rw [e1] at hs
            cases hs
          · have h1 := (cm.ok _ _ e1).2.2
            rw [Int.toNat_natCast, List.getElem?_eq_getElem hj] at h1
            unfold signD Rp at r
            rw [e2, r, Option.some.inj h1]
        have g := DGet.k (k := Sum.inl ((j : Nat) : Int)) (s5 _ _ (s4 _ _ hk3))
        rw [ev] at g
        have g' : DGet H5 sd (.int (0 + (j : Int))) (some (.str (S [cs[j]]))) := by rw [e0]; exact g
        refine ⟨rfl, _, rfl, _, rfl, sd, _, rfl, g', _, hD5, ?_, ?_, s5.wrn hD⟩
        · rw [List.length_map, List.length_map, List.length_take]
          exact Nat.lt_of_le_of_lt (show min j cs.length ≤ 100000 by omega) (by decide)
        · rw [upd_same, List.take_succ_eq_append_getElem hj, List.map_append, List.map_append]
          rfl
      · rintro H5 ⟨hD5, s5⟩
        have hD5 : H5 D = some (.lst ((cs.map fun c => S [c]).map V.str)) := by
          rw [Int.toNat_natCast, List.take_length] at hD5
          exact hD5
        refine ⟨_, D, cs.map fun c => S [c], rfl, rfl, .inl (SqL.of hD5), ?_, ?_⟩
        · rw [sum_signs, List.length_map]
          show cs.length + cs.length * 0 ≤ _
          omega
        · rw [show (Txt.join (Str.ofString "") (cs.map fun c => S [c])) = S cs from join_signs cs]
          exact k H5 (s34.trans s5)
end
end Wn

namespace Wn
open PySem L2
open SX (S S_len S_cat S_beq_eq join_S)
abbrev sHInit : Stmt := inClass (top 6) 0
abbrev sHAdd : Stmt := inClass (top 6) 1
abbrev sHPlaces : Stmt := inClass (top 6) 2
abbrev sHIs : Stmt := inClass (top 6) 3
abbrev sHText : Stmt := inClass (top 6) 4
abbrev sHCopy : Stmt := inClass (top 6) 5
theorem many_signs : (("many" : Str) == "signs") = false := by decide +kernel
theorem signs_many : (("signs" : Str) == "many") = false := by decide +kernel
theorem many_signs' : ¬ (("many" : Str) = "signs") := by decide +kernel
def hf (n : Int) (q : Addr) : List (Str × V) := [("many", .int n), ("signs", .ref q)]
theorem hf_many {n : Int} {q : Addr} : (hf n q).lookup ("many" : Str) = some (.int n) := by
  unfold hf
  simp only [List.lookup, beq_self_eq_true]
theorem hf_signs {n : Int} {q : Addr} : (hf n q).lookup ("signs" : Str) = some (.ref q) := by
  unfold hf
  simp only [List.lookup, signs_many, beq_self_eq_true]
theorem hf_ne {n : Int} {q : Addr} {m : Str} (h1 : (m == "many") = false) (h2 : (m == "signs") = false) : (hf n q).lookup m = none := by
  unfold hf
  simp only [List.lookup, h1, h2]
theorem hf_put {n : Int} {q q' : Addr} : putF "signs" (.ref q') (hf n q) = hf n q' := by
  show (if ("many" : Str) = "signs" then _ else (("many" : Str), V.int n) :: (if ("signs" : Str) = "signs" then (("signs" : Str), V.ref q') :: [] else _)) = _
  rw [if_neg many_signs', if_pos rfl]
  rfl
theorem hf_new {n : Int} {q : Addr} : putF "signs" (.ref q) (putF "many" (.int n) []) = hf n q := by
  show (if ("many" : Str) = "signs" then _ else (("many" : Str), V.int n) :: putF "signs" (.ref q) []) = _
  rw [if_neg many_signs']
  rfl
def HeapAt (K : PySem.W.Frag) (C : Addr) (H : Hp) (p q : Addr) (n : Int) (m : List (Int × Nat)) : Prop := (∃ dx, H p = some (.ins C dx (hf n q))) ∧ DictAt signD K H q m
section
variable {K : PySem.W.Frag} {C : Addr} {H H' : Hp} {p q : Addr} {n : Int} {m : List (Int × Nat)}
theorem HeapAt.kp {M : List Addr} (h : HeapAt K C H p q n m) (k : Kp M H H') (t : TK H H') (n1 : p ∉ M) (n2 : q ∉ M) : HeapAt K C H' p q n m := by
  obtain ⟨⟨dx, a⟩, b⟩ := h
  exact ⟨⟨dx, k _ _ n1 a⟩, b.kp k t n2⟩
theorem HeapAt.same (h : HeapAt K C H p q n m) (s : Same H H') : HeapAt K C H' p q n m := h.kp (M := []) (Kp.of s) (TK.of s) (by simp) (by simp)
theorem HeapAt.lst {d : Addr} {zs : List V} (h : HeapAt K C H p q n m) (k : Kp [d] H H') (t : TK H H') (hd : H d = some (.lst zs)) : HeapAt K C H' p q n m := by
  obtain ⟨⟨dx, a⟩, kv, b, _⟩ := id h
  exact h.kp k t (nin1 (ne_of a hd (by intro z; cases z))) (nin1 (ne_of b hd (by intro z; cases z)))
end
def SubPart (cs : List Nat) (p : Part) : Prop := p.2 = (cs.drop p.1).take p.2.length ∧ p.1 + p.2.length ≤ cs.length ∧ 1 ≤ p.2.length
def placesD (m : List (Int × Nat)) : PyData := .tuple ((sortI (m.map (·.1))).map PyData.int)
def textOf (m : List (Int × Nat)) : List Nat := (sortI (m.map (·.1))).map fun k => (lookA m k).getD 0
def spHInit (K : PySem.W.Frag) (C : Addr) : Sp := fun vs H Q _ => ∃ (p dx : Addr) (n : Int), vs = [.ref p, .int n] ∧ H p = some (.ins C dx []) ∧
  ∀ (H' : Hp) (q : Addr), H q = none → Kp [p] H H' → HeapAt K C H' p q n [] → Q .non H'
def spHAdd (K : PySem.W.Frag) (C : Addr) : Sp := fun vs H Q _ => ∃ (p q : Addr) (n : Int) (m : List (Int × Nat)) (cs : List Nat) (t : Part), vs = [.ref p, .int (t.1 : Int), .str (S t.2)] ∧ HeapAt K C H p q n m ∧ SubPart cs t ∧ Come cs m ∧ cs.length ≤ 100000 ∧
  ∀ (H' : Hp) (m' : List (Int × Nat)), Kp [q] H H' → HeapAt K C H' p q n m' → Come cs m' → (∀ j : Int, (lookA m' j).isSome = true ↔ (lookA m j).isSome = true ∨ ((t.1 : Int) ≤ j ∧ j < (t.1 : Int) + t.2.length)) → Q .non H'
def spHPlaces (K : PySem.W.Frag) (C : Addr) : Sp := fun vs H Q _ => ∃ (p q : Addr) (n : Int) (m : List (Int × Nat)), vs = [.ref p] ∧ HeapAt K C H p q n m ∧
  ∀ (H' : Hp) (v : V), Same H H' → Rp K H' (placesD m) v → Q v H'
def spHIs (K : PySem.W.Frag) (C : Addr) : Sp := fun vs H Q _ => ∃ (p q : Addr) (n : Int) (m : List (Int × Nat)), vs = [.ref p] ∧ HeapAt K C H p q n m ∧ Q (.bl (decide ((m.length : Int) = n))) H
def spHText (K : PySem.W.Frag) (C : Addr) : Sp := fun vs H Q _ => ∃ (p q : Addr) (n : Int) (m : List (Int × Nat)), vs = [.ref p] ∧ HeapAt K C H p q n m ∧ m.length ≤ 100000 ∧
  ∀ (H' : Hp), Same H H' → Q (.str (S (textOf m))) H'
def spHCopy (K : PySem.W.Frag) (C : Addr) : Sp := fun vs H Q _ => ∃ (p q : Addr) (n : Int) (m : List (Int × Nat)), vs = [.ref p] ∧ HeapAt K C H p q n m ∧
  ∀ (H' : Hp) (p' q' : Addr), H p' = none → H q' = none → Same H H' → HeapAt K C H' p' q' n m → Q (.ref p') H'
structure TH (K : PySem.W.Frag) (mg : Str → Option Value) (C : Addr) : Prop where
  cl : Cls K C
  nM : NoAttr K C "many"
  nS : NoAttr K C "signs"
  mgC : mg "Heap" = some (.ref C)

section
variable {P : Program} {w : World} {K : PySem.W.Frag} {mg : Str → Option Value} {base : Heap}
theorem scHInit : FnScope ["self", "whole"] ["self", "whole"] (defScope sHInit) := ⟨rfl, rfl, rfl, by decide +kernel, rfl, by decide +kernel, by decide +kernel⟩
theorem ok_hinit {f C : Addr} {fd : FuncData} (F : Fun K "__init__" "Heap.__init__" sHInit f fd) (T : TH K mg C) : FnOk P w K mg base CX0 1 f fd ["self", "whole"] (spHInit K C) := by
  refine F.ok scHInit (fun vs H Q E h => ?_) (fun cdv A outer s H vs Q E hr h => ?_)
  · obtain ⟨p, dx, n, rfl, _⟩ := h
    rfl
  · obtain ⟨p, dx, n, rfl, hp, k⟩ := h
    refine ⟨_, (pss_cons (ps_fld (pv 0) (pv 1) rfl)
       (pss_one (ps_fld (pv 0) pe_dnewK rfl))), ?_⟩
    refine ⟨_, rfl, _, rfl, p, C, dx, [], rfl, hp, T.cl, T.nM, (by show 0 < 1000; decide), ?_⟩
    intro q hq
    have npq : p ≠ q := ne_of_none upd_same hq
    have hq0 : H q = none := by
      rw [upd_ne npq.symm] at hq
      exact hq
    refine ⟨_, rfl, p, C, dx, _, rfl, (upd_ne npq).trans upd_same, T.cl, T.nS, (by show 1 < 1000; decide), ?_⟩
    rw [hf_new]
    exact k _ q hq0 ((((Kp.refl [p] H).wr (List.mem_singleton.mpr rfl)).new hq).wr (List.mem_singleton.mpr rfl)) ⟨⟨dx, upd_same⟩, [], by rw [upd_ne npq.symm, upd_same], rfl⟩
theorem scHAdd : FnScope ["self", "first", "signs", "at", "sign"] ["self", "first", "signs"] (defScope sHAdd) := ⟨rfl, rfl, rfl, by decide +kernel, rfl, by decide +kernel, by decide +kernel⟩
theorem ok_hadd {f C : Addr} {fd : FuncData} (F : Fun K "add" "Heap.add" sHAdd f fd) (T : TH K mg C) (B : TB mg) : FnOk P w K mg base CX0 1 f fd ["self", "first", "signs"] (spHAdd K C) := by
  refine F.ok scHAdd (fun vs H Q E h => ?_) (fun cdv A outer s H vs Q E hr h => ?_)
  · obtain ⟨p, q, n, m, cs, t, rfl, _⟩ := h
    rfl
  · obtain ⟨p, q, n, m, cs, t, rfl, hH, hs, cm, h3, k⟩ := h
    have hu := hu_of hr
    refine ⟨_, (pss_one (ps_for PassesOwn.never rfl (pi_enumS (by rfl) B.enumerate (pa_cons (pv 2) pa_nil)) (pg_tup rfl (pgs_cons (pg_name (i := 3) scHAdd.nd rfl (Or.inl rfl)) (pgs_cons (pg_name (i := 4) scHAdd.nd rfl (Or.inl rfl)) pgs_nil)))
       (pss_one (ps_dput hu (fldK (K := K) rfl (pv 0) rfl) (pe_op op_add (pv 1) (pv 3)) (pv 4) rfl)))), ?_⟩
    have hsg : ∀ l c, t.2[l]? = some c → cs[t.1 + l]? = some c := fun l c hc => by
      rw [hs.1, List.getElem?_take] at hc
      split at hc
      · rw [List.getElem?_drop] at hc
        exact hc
      · cases hc
    refine ⟨_, rfl, _, rfl, ?_⟩
    refine for_it (walk_enumS (x := S t.2)) (fun l σ H' => ∃ (m' : List (Int × Nat)) (v3 v4 : Option V), σ = [some (.ref p), some (.int (t.1 : Int)), some (.str (S t.2)), v3, v4] ∧ Kp [q] H H' ∧ HeapAt K C H' p q n m' ∧ Come cs m' ∧ ∀ j : Int, (lookA m' j).isSome = true ↔ (lookA m j).isSome = true ∨ ((t.1 : Int) ≤ j ∧ j < (t.1 : Int) + l))
      ⟨m, _, _, rfl, Kp.refl _ _, hH, cm, fun j => ⟨.inl, fun h => h.elim id (fun z => by omega)⟩⟩ (fun _ _ _ _ _ => trivial) ?_ ?_
    · rintro l y σ H4 H5 hl ⟨m', v3, v4, rfl, k4, hH4, cm4, cov4⟩ ⟨T', c, rfl, nT, rfl, hc⟩
      have hc : t.2[l]? = some c := by
        have : (t.2.toArray)[l]? = some c := hc
        rw [List.getElem?_toArray] at this
        exact this
      have hcc := hsg l c hc
      have s45 : Same H4 (upd H4 T' (.tup [.int (l : Nat), .str ⟨#[c]⟩])) := (L2.Same.refl _).new nT
      have hT5 : upd H4 T' (.tup [.int (l : Nat), .str ⟨#[c]⟩]) T' = some (.tup [.int (l : Nat), .str ⟨#[c]⟩]) := upd_same
      generalize upd H4 T' (.tup [.int (l : Nat), .str ⟨#[c]⟩]) = H5 at s45 hT5
      obtain ⟨⟨dx, hp5⟩, kvs, hk5, rk5⟩ := hH4.same s45
      have e0 : ((t.1 : Nat) : Int) + ((l : Nat) : Int) = ((t.1 + l : Nat) : Int) := by omega
      have dp : DPut H5 q (.int (((t.1 : Nat) : Int) + ((l : Nat) : Int))) (.str ⟨#[c]⟩) (upd H5 q (.dK (putK kvs (Sum.inl ((t.1 + l : Nat) : Int)) (.str ⟨#[c]⟩)))) := by
        rw [e0]
        exact DPut.k (k := Sum.inl ((t.1 + l : Nat) : Int)) hk5 (by rw [rk5.len]; exact Nat.lt_of_le_of_lt (Nat.le_trans cm4.len h3) (by decide))
      have tE : TK H5 (upd H5 q (.dK (putK kvs (Sum.inl ((t.1 + l : Nat) : Int)) (.str ⟨#[c]⟩)))) := (TK.refl _).wr hk5 rfl
      have hne : p ≠ q := ne_of hp5 hk5 (by intro z; cases z)
      refine ⟨T', _, rfl, SqT.of hT5, rfl, _, _, rfl, _, _, rfl, rfl, ?_⟩
      refine ⟨_, rfl, _, rfl, p, C, dx, _, _, rfl, hp5, T.cl, T.nS, hf_signs, _, rfl, _, rfl, _, _, rfl, rfl, q, _, rfl, dp, ?_⟩
      refine ⟨putA m' ((t.1 + l : Nat) : Int) c, _, _, rfl, (k4.trans (Kp.of s45)).wr (List.mem_singleton.mpr rfl), ⟨⟨dx, (upd_ne hne).trans hp5⟩, _, upd_same, (rk5.put (x := c) Rp.str).tk tE⟩, cm4.put hcc, fun j => ?_⟩
      rw [lookA_put]
      split
      · rename_i ej
        exact ⟨fun _ => .inr ⟨by omega, by omega⟩, fun _ => rfl⟩
      · rename_i ej
        rw [cov4]
        constructor
        · rintro (h | h)
          · exact .inl h
          · exact .inr ⟨h.1, by omega⟩
        · rintro (h | h)
          · exact .inl h
          · exact .inr ⟨h.1, by omega⟩
    · rintro σ H4 ⟨m', v3, v4, rfl, k4, hH4, cm4, cov4⟩
      have el : (S t.2).cps.size = t.2.length := by simp
      rw [el] at cov4
      exact k H4 m' k4 hH4 cm4 cov4
theorem scHPlaces : FnScope ["self"] ["self"] (defScope sHPlaces) := ⟨rfl, rfl, rfl, by decide +kernel, rfl, by decide +kernel, by decide +kernel⟩
theorem ok_hplaces {f C : Addr} {fd : FuncData} (F : Fun K "places" "Heap.places" sHPlaces f fd) (T : TH K mg C) (B : TB mg) : FnOk P w K mg base CX0 1 f fd ["self"] (spHPlaces K C) := by
  refine F.ok scHPlaces (fun vs H Q E h => ?_) (fun cdv A outer s H vs Q E hr h => ?_)
  · obtain ⟨p, q, n, m, rfl, _⟩ := h
    rfl
  · obtain ⟨p, q, n, m, rfl, ⟨⟨dx, hp⟩, kvs, hq, hm⟩, k⟩ := h
    refine ⟨_, (pss_one (ps_ret (pe_callTy (tupOfK (K := K) rfl) (by rfl) B.tuple PyProof.Rows.boot_tuple (pa_cons (pe_callB (sortIK (K := K) rfl) (by rfl) B.sorted (by decide +kernel) (pa_cons (pe_callTy (call_listD rfl) (by rfl) B.list (by decide +kernel) (pa_cons (fldK (K := K) rfl (pv 0) rfl) pa_nil)) pa_nil)) pa_nil)))), ?_⟩
    refine ⟨_, rfl, p, C, dx, _, _, rfl, hp, T.cl, T.nS, hf_signs, q, kvs, rfl, .inl hq, fun l hl => ?_⟩
    have s1 : Same H (upd H l (.lst (kvs.map fun kv => kV kv.1))) := (L2.Same.refl H).new hl
    refine ⟨l, m.map (·.1), rfl, SqL.of (by rw [upd_same, hm.keys]), fun ns' S' perm rising hS => ?_⟩
    have hns : ns' = sortI (m.map (·.1)) := sortI_eq perm rising
    have s2 := s1.new (o := .lst (ns'.map V.int)) hS
    refine ⟨S', _, rfl, .inl ⟨SqL.of upd_same, fun t ht => ?_⟩⟩
    refine k _ _ (s2.new ht) (Rp.tup upd_same ?_)
    rw [hns]
    have : ∀ (H : Hp) (ns : List Int), RpL K H (ns.map PyData.int) (ns.map V.int) := fun H ns => by
      induction ns with
      | nil => exact RpL.nil
      | cons n ns ih => exact RpL.cons Rp.int ih
    exact this _ _
theorem scHIs : FnScope ["self"] ["self"] (defScope sHIs) := ⟨rfl, rfl, rfl, by decide +kernel, rfl, by decide +kernel, by decide +kernel⟩
theorem ok_his {f C : Addr} {fd : FuncData} (F : Fun K "is_whole" "Heap.is_whole" sHIs f fd) (T : TH K mg C) (B : TB mg) : FnOk P w K mg base CX0 1 f fd ["self"] (spHIs K C) := by
  refine F.ok scHIs (fun vs H Q E h => ?_) (fun cdv A outer s H vs Q E hr h => ?_)
  · obtain ⟨p, q, n, m, rfl, _⟩ := h
    rfl
  · obtain ⟨p, q, n, m, rfl, ⟨⟨dx, hp⟩, kvs, hq, hm⟩, k⟩ := h
    refine ⟨_, (pss_one (ps_ret (pe_cmpR op_eq (pe_callB call_lenD (by rfl) B.len PySem.boot_len (pa_cons (fldK (K := K) rfl (pv 0) rfl) pa_nil)) (fldK (K := K) rfl (pv 0) rfl) (nomark _)))), ?_⟩
    refine ⟨_, rfl, p, C, dx, _, _, rfl, hp, T.cl, T.nS, hf_signs, q, kvs, rfl, hq, _, rfl, p, C, dx, _, _, rfl, hp, T.cl, T.nM, hf_many, rfl, ?_⟩
    show Q (.bl (decide (V.int ((kvs.length : Nat) : Int) = V.int n))) H
    rw [show decide (V.int ((kvs.length : Nat) : Int) = V.int n) = decide ((m.length : Int) = n) from decide_eq_decide.mpr (by rw [V.int.injEq, hm.len])]
    exact k
theorem scHText : FnScope ["self", "at"] ["self"] (defScope sHText) := ⟨rfl, rfl, rfl, by decide +kernel, rfl, by decide +kernel, by decide +kernel⟩
theorem ok_htext {f C : Addr} {fd : FuncData} (F : Fun K "text" "Heap.text" sHText f fd) (T : TH K mg C) (B : TB mg) (tP : Md P w K mg base 1 C "places" ["self"] (spHPlaces K C)) : FnOk P w K mg base CX0 2 f fd ["self"] (spHText K C) := by
  obtain ⟨fP, fdP, GP, mP, bP⟩ := tP
  refine F.ok scHText (fun vs H Q E h => ?_) (fun cdv A outer s H vs Q E hr h => ?_)
  · obtain ⟨p, q, n, m, rfl, _⟩ := h
    rfl
  · obtain ⟨p, q, n, m, rfl, hH, hl, k⟩ := h
    have hu := hu_of hr
    have hr1 : Room 1 _ := hr
    refine ⟨_, (pss_one (ps_ret (joinK (K := K) rfl pe_str (pe_lc (own := [("at", 1)]) (g := (gName 1)) (tt := tYes) rfl scHText.nd (pi_tup (pe_meth0 (pv 0) T.cl mP GP hr1 bP .nil pass0)) (blkOk_by (N := ["self", "at"]) (sc := defScope sHText) (by decide +kernel))
       (fun _ _ _ _ _ => (pg_name (i := 1) scHText.nd rfl (Or.inl rfl))) (fun _ _ _ _ _ => pts_nil) (fun _ _ _ _ _ => (pe_dget hu (fldK (K := K) rfl (pv 0) rfl) (pv 1) (fun _ _ => rfl))))))), ?_⟩
    obtain ⟨⟨dx, hp⟩, _⟩ := id hH
    refine ⟨⟨_, rfl⟩, ?_⟩
    refine ⟨_, rfl, p, dx, _, rfl, hp, hf_ne (by decide +kernel) (by decide +kernel), p, q, n, m, rfl, hH, fun H1 v s1 rv => ?_⟩
    unfold placesD Rp at rv
    obtain ⟨a, xs, rfl, ha, rl⟩ := rv
    have ex := rl.ints
    subst ex
    refine ⟨a, rfl, ⟨_, ha⟩, fun D hD => ?_⟩
    have lk : (sortI (m.map (·.1))).length = m.length := by rw [(sortI_perm _).length_eq, List.length_map]
    refine mapD_it (K := K) (walk_tup (K := K) (a := a) (xs := (sortI (m.map (·.1))).map V.int)) (enc := PyData.int) (fun H' s' => SqT.tk ha (TK.of s')) (fun k => signD ((lookA m k).getD 0)) rl hD (by omega) ?_ ?_
    · intro b x H' Q' hb rb s' hQ
      unfold Rp at rb
      subst rb
      obtain ⟨⟨dx', hp'⟩, kvs, hk', rk'⟩ := hH.same (s1.trans s')
      have hb' : b ∈ m.map (·.1) := (sortI_perm _).mem_iff.mp hb
      have g := DGet.k (k := Sum.inl b) hk'
      rcases rk'.val (k := b) with ⟨e1, e2⟩ | ⟨y, u, e1, e2, r⟩
      · obtain ⟨z, e3, _⟩ := lookA_mem hb'
        rw [e1] at e3
        cases e3
      · rw [e2] at g
        refine ⟨_, rfl, p, C, dx', _, _, rfl, hp', T.cl, T.nS, hf_signs, _, rfl, q, _, rfl, g, hQ _ _ (L2.Same.refl _) ?_⟩
        rw [e1]
        exact r
    intro H2 ys s2 hD2 rD2
    have ey : ys = ((textOf m).map fun c => S [c]).map V.str := by
      unfold textOf
      rw [List.map_map, List.map_map]
      have : ∀ (ks : List Int) (ys : List V), RpL K H2 (ks.map fun k => signD ((lookA m k).getD 0)) ys → ys = ks.map (fun k => V.str (S [(lookA m k).getD 0])) := fun ks => by
        induction ks with
        | nil => intro ys h; unfold List.map RpL at h; exact h
        | cons k' ks ih =>
          intro ys h
          rw [List.map_cons] at h
          unfold RpL at h
          obtain ⟨v, r, rfl, h1, h2⟩ := h
          unfold signD Rp at h1
          rw [ih r h2, h1]
          rfl
      exact this _ _ rD2
    subst ey
    refine ⟨_, D, (textOf m).map fun c => S [c], rfl, rfl, .inl (SqL.of hD2), ?_, ?_⟩
    · have lt : (textOf m).length = m.length := by unfold textOf; rw [List.length_map, lk]
      rw [sum_signs, List.length_map, lt]
      show m.length + m.length * 0 ≤ _
      omega
    · rw [show (Txt.join (Str.ofString "") ((textOf m).map fun c => S [c])) = S (textOf m) from join_signs _]
      exact k H2 (s1.trans s2)
theorem scHCopy : FnScope ["self", "found"] ["self"] (defScope sHCopy) := ⟨rfl, rfl, rfl, by decide +kernel, rfl, by decide +kernel, by decide +kernel⟩
theorem ok_hcopy {f C fI : Addr} {fd fdI : FuncData} (F : Fun K "copy" "Heap.copy" sHCopy f fd) (T : TH K mg C) (B : TB mg) (M : Mk K C fI) (GI : FnOk P w K mg base CX0 1 fI fdI ["self", "whole"] (spHInit K C)) (bI : Binds K fdI ["self", "whole"] []) : FnOk P w K mg base CX0 3 f fd ["self"] (spHCopy K C) := by
  refine F.ok scHCopy (fun vs H Q E h => ?_) (fun cdv A outer s H vs Q E hr h => ?_)
  · obtain ⟨p, q, n, m, rfl, _⟩ := h
    rfl
  · obtain ⟨p, q, n, m, rfl, ⟨⟨dx, hp⟩, kvs, hq, hm⟩, k⟩ := h
    have hr2 : Room 2 _ := hr
    refine ⟨_, (pss_cons (ps_set (i := 1) scHCopy.nd rfl (Or.inl rfl) (pe_make M GI hr2 rfl T.mgC bI .nil pass0 (pa_cons (fldK (K := K) rfl (pv 0) rfl) pa_nil)))
       (pss_cons (ps_fld (pv 1) (pe_callTy call_dictD (by rfl) B.dict (by decide +kernel) (pa_cons (fldK (K := K) rfl (pv 0) rfl) pa_nil)) rfl)
       (pss_one (ps_ret (pv 1))))), ?_⟩
    refine ⟨_, rfl, p, C, dx, _, _, rfl, hp, T.cl, T.nM, hf_many, ?_⟩
    intro x dy nx ndy nex
    have s0 : Same H (upd (upd H dy (.own x)) x (.ins C dy [])) := ((L2.Same.refl H).new ndy).new (by rw [upd_ne nex.symm]; exact nx)
    refine ⟨x, dy, n, rfl, upd_same, fun H1 q1 nq1 k1 ⟨⟨dz, hx1⟩, _⟩ => ?_⟩
    have s1 : Same H H1 := fun b o e => k1 b o (nin1 (ne_of_none e nx)) (s0 b o e)
    refine ⟨rfl, _, rfl, p, C, dx, _, _, rfl, s1 _ _ hp, T.cl, T.nS, hf_signs, q, kvs, rfl, .inl (s1 _ _ hq), fun q2 hq2 => ?_⟩
    have hx2 : upd H1 q2 (.dK kvs) x = some (.ins C dz (hf n q1)) := by
      rw [upd_ne (ne_of_none hx1 hq2)]
      exact hx1
    have nxq : x ≠ q2 := ne_of_none hx1 hq2
    refine ⟨_, rfl, x, C, dz, _, rfl, hx2, T.cl, T.nS, (by show 2 < 1000; decide), ?_⟩
    refine ⟨_, rfl, ?_⟩
    rw [hf_put]
    have s2 : Same H (upd (upd H1 q2 (.dK kvs)) x (.ins C dz (hf n q2))) := (s1.new hq2).wrn nx
    refine k _ x q2 nx (s1.free hq2) s2 ⟨⟨dz, upd_same⟩, kvs, ?_, hm.tk (TK.of s2)⟩
    rw [upd_ne nxq.symm, upd_same]
end
end Wn

namespace Wn
open PySem L2
open SX (S S_len S_cat S_beq_eq join_S)
theorem take_len_take {l : List Nat} {s : Nat} : l.take (l.take s).length = l.take s := by
  have h := List.take_length (l := l.take s)
  rw [List.take_take, Nat.min_eq_left (by rw [List.length_take]; omega)] at h
  exact h
theorem cutAt_len {cs : List Nat} {s i : Nat} : (cutAt cs s i).2.length = min s (cs.length - i * s) := by
  unfold cutAt
  rw [List.length_take, List.length_drop]
theorem cut_good {cs : List Nat} {s : Nat} (h1 : 1 ≤ s) : GoodParts cs (cutL cs s) := by
  have mem : ∀ p ∈ cutL cs s, ∃ i, i < cutN cs s ∧ p = cutAt cs s i := fun p hp => by
    unfold cutL at hp
    obtain ⟨i, hi, rfl⟩ := List.mem_map.mp hp
    exact ⟨i, List.mem_range.mp hi, rfl⟩
  refine ⟨fun p hp => ?_, fun p hp => ?_, fun i hi => ?_⟩
  · obtain ⟨i, hi, rfl⟩ := mem p hp
    exact take_len_take.symm
  · obtain ⟨i, hi, rfl⟩ := mem p hp
    have hl := (cutN_lt (cs := cs) (i := i) h1).mp hi
    rw [cutAt_len]
    show i * s + _ ≤ _
    omega
  · have hq : i / s * s ≤ i := Nat.div_mul_le_self i s
    have hr : i < i / s * s + s := by
      have := Nat.lt_div_mul_add (a := i) (b := s) (by omega)
      omega
    refine ⟨cutAt cs s (i / s), ?_, hq, ?_⟩
    · unfold cutL
      exact List.mem_map.mpr ⟨_, List.mem_range.mpr ((cutN_lt (cs := cs) h1).mpr (by omega)), rfl⟩
    · rw [cutAt_len]
      show i < i / s * s + _
      omega
theorem cutL_len {cs : List Nat} {s : Nat} (h1 : 1 ≤ s) : (cutL cs s).length ≤ cs.length := by
  unfold cutL
  rw [List.length_map, List.length_range]
  by_cases hz : cutN cs s = 0
  · omega
  · have := (cutN_lt (cs := cs) (i := cutN cs s - 1) h1).mp (by omega)
    have h4 : (cutN cs s - 1) * 1 ≤ (cutN cs s - 1) * s := Nat.mul_le_mul_left _ h1
    omega
theorem cutL_part {cs : List Nat} {s : Nat} : ∀ p ∈ cutL cs s, p.2.length ≤ cs.length := fun p hp => by
  unfold cutL at hp
  obtain ⟨i, hi, rfl⟩ := List.mem_map.mp hp
  rw [cutAt_len]
  omega

theorem isSome_mem {α : Type} {m : List (Int × α)} {x : Int} : x ∈ m.map (·.1) ↔ (lookA m x).isSome = true := mem_keys
def Match (m : List (Int × Nat)) (ks : List Int) : Prop := ks.Nodup ∧ ∀ x, x ∈ ks ↔ (lookA m x).isSome = true
theorem Match.sort {cs : List Nat} {m : List (Int × Nat)} {ks : List Int} (h : Match m ks) (c : Come cs m) : sortI ks = sortI (m.map (·.1)) := by
  refine eq_of_lt _ _ (lt_of_nodup (sortI_sorted _) ((sortI_perm _).nodup_iff.mpr h.1)) (lt_of_nodup (sortI_sorted _) ((sortI_perm _).nodup_iff.mpr c.nd)) fun x => ?_
  rw [(sortI_perm _).mem_iff, (sortI_perm _).mem_iff, h.2, mem_keys]
theorem Match.len {cs : List Nat} {m : List (Int × Nat)} {ks : List Int} (h : Match m ks) (c : Come cs m) : ks.length = m.length := by
  have := congrArg List.length (h.sort c)
  rw [(sortI_perm _).length_eq, (sortI_perm _).length_eq, List.length_map] at this
  exact this
theorem Come.full {cs : List Nat} {m : List (Int × Nat)} (h : Come cs m) (a : ∀ i : Nat, i < cs.length → (lookA m (i : Int)).isSome = true) : textOf m = cs := by
  have e : sortI (m.map (·.1)) = (List.range cs.length).map fun (j : Nat) => (j : Int) := by
    refine eq_of_lt _ _ (lt_of_nodup (sortI_sorted _) ((sortI_perm _).nodup_iff.mpr h.nd)) ?_ fun x => ?_
    · rw [List.pairwise_map]
      exact (List.pairwise_lt_range (n := cs.length)).imp fun h => by omega
    · rw [(sortI_perm _).mem_iff, List.mem_map (l := List.range _)]
      constructor
      · intro hx
        obtain ⟨c, e, _⟩ := lookA_mem hx
        have := h.ok x c e
        exact ⟨x.toNat, by rw [List.mem_range]; omega, by omega⟩
      · rintro ⟨j, hj, rfl⟩
        exact mem_keys.mpr (a j (List.mem_range.mp hj))
  unfold textOf
  rw [e, List.map_map]
  refine List.ext_getElem? fun i => ?_
  rw [List.getElem?_map]
  by_cases hi : i < cs.length
  · rw [List.getElem?_range hi]
    have hs := a i hi
    cases e2 : lookA m (i : Int) with
    | none =>
      rw [e2] at hs
      cases hs
    | some c =>
      have := (h.ok _ _ e2).2.2
      rw [Int.toNat_natCast] at this
      rw [this]
      show some ((lookA m (i : Int)).getD 0) = _
      rw [e2]
      rfl
  · rw [List.getElem?_eq_none (by rw [List.length_range]; omega), List.getElem?_eq_none (by omega)]
    rfl
theorem sub_cut {cs : List Nat} {p : Part} {s i : Nat} (h1 : 1 ≤ s) (hp : SubPart cs p) (hi : i < cutN p.2 s) : SubPart cs (p.1 + (cutAt p.2 s i).1, (cutAt p.2 s i).2) := by
  have hl := (cutN_lt (cs := p.2) (i := i) h1).mp hi
  have hlen := cutAt_len (cs := p.2) (s := s) (i := i)
  have e1 : (cutAt p.2 s i).1 = i * s := rfl
  refine ⟨?_, ?_, ?_⟩
  · show (cutAt p.2 s i).2 = (cs.drop (p.1 + (cutAt p.2 s i).1)).take (cutAt p.2 s i).2.length
    rw [hlen, e1]
    unfold cutAt
    show (p.2.drop (i * s)).take s = _
    have h2 := hp.1
    have h3 : p.2.drop (i * s) = (cs.drop (p.1 + i * s)).take (p.2.length - i * s) := by
      conv => lhs; rw [h2]
      rw [List.drop_take, List.drop_drop]
    rw [h3, List.take_take]
  · show p.1 + (cutAt p.2 s i).1 + (cutAt p.2 s i).2.length ≤ cs.length
    rw [hlen, e1]
    have := hp.2.1
    omega
  · show 1 ≤ (cutAt p.2 s i).2.length
    rw [hlen]
    omega
def InP (p : Part) (j : Nat) : Prop := p.1 ≤ j ∧ j < p.1 + p.2.length
end Wn

namespace Wn
open PySem L2
open SX (S S_len S_cat S_beq_eq join_S)
abbrev sTurned : Stmt := top 14
abbrev sNarrowed : Stmt := top 15
abbrev sHeaped : Stmt := top 16
def spTurned (K : PySem.W.Frag) : Sp := fun vs H Q _ => ∃ (d f ra : Addr) (n : Int) (L : List Part), vs = [.ref d, .ref ra] ∧ Deck H d f n ∧ n < 2 ^ 59 ∧ LstAt K H ra (L.map partD) ∧ ra ≠ d ∧ L.length ≤ 5000000 ∧
  ∀ (H' : Hp) (a : Addr) (T : List Part), H a = none → Kp [d] H H' → Deck H' d f (n + L.length) → LstAt K H' a (T.map partD) → (∀ r, r ∈ T ↔ r ∈ L) → T.length = L.length → Q (.ref a) H'
def spNarrowed (K : PySem.W.Frag) : Sp := fun vs H Q _ => ∃ (d f ra : Addr) (n : Int) (L : List Part) (cs : List Nat), vs = [.ref d, .ref ra] ∧ Deck H d f n ∧ n < 2 ^ 59 ∧ LstAt K H ra (L.map partD) ∧ ra ≠ d ∧ L.length ≤ 25600 ∧ cs.length ≤ 80 ∧ (∀ p ∈ L, SubPart cs p) ∧
  ∀ (H' : Hp) (a : Addr) (T : List Part), H a = none → Kp [d] H H' → Deck H' d f (n + 81 * L.length) → LstAt K H' a (T.map partD) → (∀ p ∈ T, SubPart cs p) → (∀ j, (∃ p ∈ L, InP p j) → ∃ p ∈ T, InP p j) → T.length ≤ 160 * L.length → Q (.ref a) H'
def spHeaped (K : PySem.W.Frag) (C : Addr) : Sp := fun vs H Q _ => ∃ (pa hp q ka : Addr) (cs : List Nat) (ps : List Part) (m : List (Int × Nat)) (ks : List Int), vs = [.int (cs.length : Int), .ref pa, .ref hp, .ref ka] ∧ LstAt K H pa (ps.map partD) ∧ (∀ p ∈ ps, SubPart cs p) ∧ HeapAt K C H hp q cs.length m ∧ H ka = some (.lst (ks.map V.int)) ∧ Match m ks ∧ Come cs m ∧ pa ≠ ka ∧ cs.length ≤ 1000 ∧
  ∀ (H' : Hp) (m' : List (Int × Nat)) (ks' : List Int), Kp [q, ka] H H' → HeapAt K C H' hp q cs.length m' → H' ka = some (.lst (ks'.map V.int)) → Match m' ks' → Come cs m' → (∀ j : Nat, (lookA m' (j : Int)).isSome = true ↔ (lookA m (j : Int)).isSome = true ∨ ∃ p ∈ ps, InP p j) → Q (.bl true) H'

theorem mem_ins {α : Type} (T : List α) (k : Nat) (x r : α) : r ∈ T.take k ++ [x] ++ T.drop k ↔ r = x ∨ r ∈ T := by
  have e : r ∈ T ↔ r ∈ T.take k ∨ r ∈ T.drop k := by
    rw [← List.mem_append, List.take_append_drop]
  rw [List.mem_append, List.mem_append, List.mem_singleton, e]
  constructor
  · rintro ((h | h) | h)
    · exact .inr (.inl h)
    · exact .inl h
    · exact .inr (.inr h)
  · rintro (h | h | h)
    · exact .inl (.inr h)
    · exact .inl (.inl h)
    · exact .inr h
theorem len_ins {α : Type} (T : List α) (k : Nat) (x : α) : (T.take k ++ [x] ++ T.drop k).length = T.length + 1 := by
  rw [List.length_append, List.length_append, List.length_take, List.length_drop, List.length_singleton]
  omega
section
variable {P : Program} {w : World} {K : PySem.W.Frag} {mg : Str → Option Value} {base : Heap}
theorem scTurned : FnScope ["_law_deck_here", "_law_rows", "_law_found", "_law_row"] ["_law_deck_here", "_law_rows"] (defScope sTurned) := ⟨rfl, rfl, rfl, by decide +kernel, rfl, by decide +kernel, by decide +kernel⟩
theorem ok_turned {f : Addr} {fd : FuncData} (F : Fun K "_law_turned" "_law_turned" sTurned f fd) (B : TB mg)
    (cN : Cd P w K mg base 2 "_law_next" ["_law_deck_here", "_law_many"] spNext) :
    FnOk P w K mg base CX0 3 f fd ["_law_deck_here", "_law_rows"] (spTurned K) := by
  obtain ⟨fN, fdN, GN, mN, kN, bN⟩ := cN.tk
  refine F.ok scTurned (fun vs H Q E h => ?_) (fun cdv A outer s H vs Q E hr h => ?_)
  · obtain ⟨d, f, ra, n, L, rfl, _⟩ := h
    rfl
  · obtain ⟨d, f, ra, n, L, rfl, D0, hn, ⟨xs, hra, rra⟩, nrd, hL, k⟩ := h
    have hr2 : Room 2 _ := hr
    refine ⟨_, (pss_cons (ps_set (i := 2) scTurned.nd rfl (Or.inl rfl) (pe_lst pa_nil))
       (pss_cons (ps_for PassesOwn.never rfl (pi_list (pv 1)) (pg_name (i := 3) scTurned.nd rfl (Or.inl rfl))
       (pss_one (ps_expr (pe_bm PySem.F.plainAttrs_list PySem.F.slot_list_insert PySem.F.type_list_insert mt_insert (pv 2) (pa_cons (pe_call GN hr2 rfl mN kN bN .nil pass0 (pa_cons (pv 0) (pa_cons (pe_op op_add (pe_callB (lenK (K := K) rfl) (by rfl) B.len PySem.boot_len (pa_cons (pv 2) pa_nil)) pe_int) pa_nil))) (pa_cons (pv 3) pa_nil))))))
       (pss_one (ps_ret (pv 2))))), ?_⟩
    refine ⟨Nat.zero_le _, fun fa nfa => ?_⟩
    have s1 : Same H (upd H fa (.lst [])) := (L2.Same.refl H).new nfa
    have D1 := D0.same s1
    have hfa1 : LstAt K (upd H fa (.lst [])) fa (([] : List Part).map partD) := ⟨[], upd_same, RpL.nil⟩
    have nfd : fa ≠ d := (ne_of_none D0.lst.choose_spec nfa).symm
    have nfaf : f ≠ fa := ne_of_none D0.lst2.choose_spec nfa
    have k01 : Kp [d] H (upd H fa (.lst [])) := Kp.of s1
    have t01 := TK.of s1
    generalize upd H fa (.lst []) = H1 at s1 D1 hfa1 k01 t01
    refine ⟨_, rfl, ra, rfl, ⟨_, SqL.of (s1 _ _ hra)⟩, ?_⟩
    have lxs := RpL.len _ _ rra
    rw [List.length_map] at lxs
    refine for_list (K := K) (a := ra) (xs := xs) (fun i σ H' => ∃ (T : List Part) (v3 : Option V), σ = [some (.ref d), some (.ref ra), some (.ref fa), v3] ∧ LstAt K H' fa (T.map partD) ∧ (∀ r, r ∈ T ↔ r ∈ L.take i) ∧ T.length = i ∧ Kp [d] H H' ∧ TK H H' ∧ Deck H' d f (n + i))
      ⟨[], _, rfl, hfa1, fun r => by simp, rfl, k01, t01, D1.mono (by omega)⟩ (fun i σ H' _ ⟨_, _, _, _, _, _, kp, _⟩ => SqL.of (kp _ _ (nin1 nrd) hra)) ?_ ?_
    · rintro i x σ H2 hx ⟨T, v3, rfl, hfa2, hT, lT, kp2, t2, D2⟩
      have hi : i < L.length := by
        have q := (List.getElem?_eq_some_iff.mp hx).1
        omega
      obtain ⟨v, ev, rv⟩ := RpL.get _ _ rra i (partD L[i]) (by rw [List.getElem?_map, List.getElem?_eq_getElem hi]; rfl)
      have ex : v = x := Option.some.inj (ev.symm.trans hx)
      rw [ex] at rv
      have et : L.take (i + 1) = L.take i ++ [L[i]] := List.take_succ_eq_append_getElem hi
      obtain ⟨ys, hy2, ry2⟩ := id hfa2
      have ly := RpL.len _ _ ry2
      rw [List.length_map] at ly
      refine ⟨_, rfl, .inl ⟨rfl, _, SqL.of hy2⟩, _, rfl, _, rfl, _, ys.length, rfl, .inl ⟨_, SqL.of hy2, rfl⟩, _, _, rfl, rfl, d, f, (ys.length : Int) + 1, n + i, rfl, by omega, by omega, D2, fun at1 H3 a0 a1 k3 D3 t3 => ?_⟩
      have hy3 := k3 _ _ (nin1 nfd) hy2
      refine ⟨_, rfl, fa, _, _, _, rfl, rfl, hy3, Nat.lt_of_le_of_lt (show ys.length ≤ 5000000 by omega) (by decide), a0, by omega, ?_⟩
      have t4 : TK H3 (upd H3 fa (.lst (ys.take at1.toNat ++ [x] ++ ys.drop at1.toNat))) := (TK.refl _).wr hy3 rfl
      have k4 : Kp [fa] H3 (upd H3 fa (.lst (ys.take at1.toNat ++ [x] ++ ys.drop at1.toNat))) := (Kp.refl _ _).wr (List.mem_singleton.mpr rfl)
      have t04 := (t2.trans t3).trans t4
      refine ⟨T.take at1.toNat ++ [L[i]] ++ T.drop at1.toNat, _, rfl, ⟨_, upd_same, ?_⟩, fun r => ?_, ?_, (kp2.trans k3).wrn nfa, t04, (D3.kp k4 (nin1 nfd.symm) (nin1 nfaf)).mono (by omega)⟩
      · rw [List.map_append, List.map_append, List.map_take, List.map_drop]
        have r4 := RpL.tk (t3.trans t4) _ _ ry2
        exact RpL.app (RpL.app (RpL.take _ r4) (RpL.cons (Rp.tk t04 _ _ rv) RpL.nil)) (RpL.drop _ r4)
      · rw [mem_ins, hT, et, List.mem_append, List.mem_singleton]
        exact Or.comm
      · rw [len_ins, lT]
    · rintro σ H2 ⟨T, v3, rfl, hfa2, hT, lT, kp2, t2, D2⟩
      rw [lxs] at lT D2
      refine ⟨_, rfl, k _ fa T nfa kp2 D2 hfa2 (fun r => ?_) lT⟩
      rw [hT r, lxs, List.take_length]
theorem scNarrowed : FnScope ["_law_deck_here", "_law_parts", "_law_found", "_law_first", "_law_signs", "_law_size", "_law_k", "_law_some"] ["_law_deck_here", "_law_parts"] (defScope sNarrowed) := ⟨rfl, rfl, rfl, by decide +kernel, rfl, by decide +kernel, by decide +kernel⟩
theorem ok_narrowed {f : Addr} {fd : FuncData} (F : Fun K "_law_narrowed" "_law_narrowed" sNarrowed f fd)
    (cN : Cd P w K mg base 2 "_law_next" ["_law_deck_here", "_law_many"] spNext) (cC : Cd P w K mg base 1 "cut" ["text", "size"] (spCut K)) :
    FnOk P w K mg base CX0 3 f fd ["_law_deck_here", "_law_parts"] (spNarrowed K) := by
  obtain ⟨fN, fdN, GN, mN, kN, bN⟩ := cN.tk
  obtain ⟨fC, fdC, GC, mC, kC, bC⟩ := cC
  refine F.ok scNarrowed (fun vs H Q E h => ?_) (fun cdv A outer s H vs Q E hr h => ?_)
  · obtain ⟨d, f, ra, n, L, cs, rfl, _⟩ := h
    rfl
  · obtain ⟨d, f, ra, n, L, cs, rfl, D0, hn, ⟨xs, hra, rra⟩, nrd, hL, hcs, hsub, k⟩ := h
    have hr2 : Room 2 _ := hr
    have hr1 : Room 1 _ := hr.mono (by decide)
    refine ⟨_, (pss_cons (ps_set (i := 2) scNarrowed.nd rfl (Or.inl rfl) (pe_lst pa_nil))
       (pss_cons (ps_for PassesOwn.never rfl (pi_list (pv 1)) (pg_tup rfl (pgs_cons (pg_name (i := 3) scNarrowed.nd rfl (Or.inl rfl)) (pgs_cons (pg_name (i := 4) scNarrowed.nd rfl (Or.inl rfl)) pgs_nil)))
       (pss_cons (ps_set (i := 5) scNarrowed.nd rfl (Or.inl rfl) (pe_op op_add pe_int (pe_call GN hr2 rfl mN kN bN .nil pass0 (pa_cons (pv 0) (pa_cons pe_int pa_nil)))))
       (pss_one (ps_for PassesOwn.never rfl (pi_tup (pe_call GC hr1 rfl mC kC bC .nil pass0 (pa_cons (pv 4) (pa_cons (pv 5) pa_nil)))) (pg_tup rfl (pgs_cons (pg_name (i := 6) scNarrowed.nd rfl (Or.inl rfl)) (pgs_cons (pg_name (i := 7) scNarrowed.nd rfl (Or.inl rfl)) pgs_nil)))
       (pss_cons (ps_expr (pe_bm PySem.F.plainAttrs_list PySem.F.slot_list_append PySem.F.type_list_append mt_append (pv 2) (pa_cons (pe_tup (pa_cons (pe_op op_add (pv 3) (pv 6)) (pa_cons (pv 7) pa_nil))) pa_nil)))
       (pss_one (ps_if (pt_cmpR op_eq (pe_call GN hr2 rfl mN kN bN .nil pass0 (pa_cons (pv 0) (pa_cons pe_int pa_nil))) pe_int (nomark _))
       (pss_one (ps_expr (pe_bm PySem.F.plainAttrs_list PySem.F.slot_list_append PySem.F.type_list_append mt_append (pv 2) (pa_cons (pe_tup (pa_cons (pe_op op_add (pv 3) (pv 6)) (pa_cons (pv 7) pa_nil))) pa_nil))))
       pss_nil)))))))
       (pss_one (ps_ret (pv 2))))), ?_⟩
    refine ⟨Nat.zero_le _, fun fa nfa => ?_⟩
    have s1 : Same H (upd H fa (.lst [])) := (L2.Same.refl H).new nfa
    have D1 := D0.same s1
    have hfa1 : LstAt K (upd H fa (.lst [])) fa (([] : List Part).map partD) := ⟨[], upd_same, RpL.nil⟩
    have nfd : fa ≠ d := (ne_of_none D0.lst.choose_spec nfa).symm
    have nfaf : f ≠ fa := ne_of_none D0.lst2.choose_spec nfa
    have k01 : Kp [d] H (upd H fa (.lst [])) := Kp.of s1
    have t01 := TK.of s1
    generalize upd H fa (.lst []) = H1 at s1 D1 hfa1 k01 t01
    refine ⟨_, rfl, ra, rfl, ⟨_, SqL.of (s1 _ _ hra)⟩, ?_⟩
    have lxs := RpL.len _ _ rra
    rw [List.length_map] at lxs
    refine for_list (K := K) (a := ra) (xs := xs) (fun i σ H' => ∃ (T : List Part) (v3 v4 v5 v6 v7 : Option V), σ = [some (.ref d), some (.ref ra), some (.ref fa), v3, v4, v5, v6, v7] ∧ LstAt K H' fa (T.map partD) ∧ (∀ p ∈ T, SubPart cs p) ∧ (∀ j, (∃ p ∈ L.take i, InP p j) → ∃ p ∈ T, InP p j) ∧ T.length ≤ 160 * i ∧ Kp [d] H H' ∧ TK H H' ∧ Deck H' d f (n + 81 * i))
      ⟨[], _, _, _, _, _, rfl, hfa1, (by intro p hp; cases hp), (by rintro j ⟨p, hp, _⟩; cases hp), Nat.le_refl _, k01, t01, D1.mono (by omega)⟩ (fun i σ H' _ ⟨_, _, _, _, _, _, _, _, _, _, _, kp, _⟩ => SqL.of (kp _ _ (nin1 nrd) hra)) ?_ ?_
    · rintro i x σ H2 hx ⟨T, v3, v4, v5, v6, v7, rfl, hfa2, hT, cov, lT, kp2, t2, D2⟩
      have hi : i < L.length := by
        have q := (List.getElem?_eq_some_iff.mp hx).1
        omega
      obtain ⟨v, ev, rv⟩ := RpL.get _ _ rra i (partD L[i]) (by rw [List.getElem?_map, List.getElem?_eq_getElem hi]; rfl)
      have ex : v = x := Option.some.inj (ev.symm.trans hx)
      rw [ex] at rv
      have et : L.take (i + 1) = L.take i ++ [L[i]] := List.take_succ_eq_append_getElem hi
      obtain ⟨pa, rfl, hpa⟩ := partD_inv (Rp.tk t2 _ _ rv)
      have hp := hsub _ (List.getElem_mem hi)
      generalize hpe : L[i] = p at hpa hp rv et
      have lp : p.2.length ≤ 80 := by have := hp.2.1; omega
      refine ⟨pa, _, rfl, hpa, rfl, _, _, rfl, _, _, rfl, rfl, ?_⟩
      refine ⟨_, rfl, d, f, 12, n + 81 * i, rfl, by decide, by omega, D2, fun z H3 z0 z1 k3 D3 t3 => ?_⟩
      obtain ⟨s', ez⟩ : ∃ s' : Nat, 1 + z = (s' : Int) := ⟨(1 + z).toNat, by omega⟩
      have hs1 : 1 ≤ s' := by omega
      refine ⟨_, _, rfl, rfl, ?_⟩
      rw [show (fun i j => V.int (i + j)) 1 z = V.int (s' : Int) from congrArg V.int ez]
      have hfa3 := hfa2.kp k3 t3 (nin1 nfd)
      refine ⟨_, rfl, _, rfl, p.2, s', rfl, hs1, by omega, by omega, fun H4 cv s4 rc4 => ?_⟩
      unfold Rp at rc4
      obtain ⟨ca, cx, rfl, hca, rca⟩ := rc4
      refine ⟨ca, rfl, ⟨_, hca⟩, ?_⟩
      have lcx := RpL.len _ _ rca
      rw [List.length_map] at lcx
      have lcut := cutL_len (cs := p.2) hs1
      have ln : cutN p.2 s' ≤ p.2.length := by
        unfold cutL at lcut
        rw [List.length_map, List.length_range] at lcut
        exact lcut
      have lcx' : cx.length = cutN p.2 s' := by
        rw [lcx]
        unfold cutL
        rw [List.length_map, List.length_range]
      have t24 := (t2.trans t3).trans (TK.of s4)
      refine for_tup (K := K) (a := ca) (xs := cx) (fun l σ H' => ∃ (T' : List Part) (v6 v7 : Option V), σ = [some (.ref d), some (.ref ra), some (.ref fa), some (.int (p.1 : Int)), some (.str (S p.2)), some (.int (s' : Int)), v6, v7] ∧ LstAt K H' fa (T'.map partD) ∧ (∀ q ∈ T', SubPart cs q) ∧ (∀ q ∈ T, q ∈ T') ∧ (∀ c, c < l → (p.1 + (cutAt p.2 s' c).1, (cutAt p.2 s' c).2) ∈ T') ∧ T'.length ≤ 160 * i + 2 * l ∧ Kp [d] H H' ∧ TK H4 H' ∧ Deck H' d f (n + 81 * i + 1 + l))
        ⟨T, _, _, rfl, hfa3.same s4, hT, fun q hq => hq, (by intro c hc; exact absurd hc (Nat.not_lt_zero _)), by omega, (kp2.trans k3).trans (Kp.of s4), TK.refl _, (D3.same s4).mono (by omega)⟩ (fun l σ H' _ ⟨_, _, _, _, _, _, _, _, _, _, t', _⟩ => SqT.tk hca t') ?_ ?_
      · rintro l y σ H5 hy ⟨T', w6, w7, rfl, hfa5, hT5, sub5, cov5, lT5, kp5, t5, D5⟩
        have hl : l < cutN p.2 s' := by
          have q := (List.getElem?_eq_some_iff.mp hy).1
          omega
        obtain ⟨u, eu, ru⟩ := RpL.get _ _ rca l (partD (cutAt p.2 s' l)) (by
          unfold cutL
          rw [List.map_map, List.getElem?_map, List.getElem?_range hl]
          rfl)
        have ey : u = y := Option.some.inj (eu.symm.trans hy)
        rw [ey] at ru
        obtain ⟨ya, rfl, hya⟩ := partD_inv (Rp.tk t5 _ _ ru)
        have hsc := sub_cut (s := s') hs1 hp hl
        have npe : ((p.1 : Nat) : Int) + (((cutAt p.2 s' l).1 : Nat) : Int) = ((p.1 + (cutAt p.2 s' l).1 : Nat) : Int) := by omega
        generalize hct : (cutAt p.2 s' l) = ct at hya hsc npe
        obtain ⟨zs, hz5, rz5⟩ := id hfa5
        have lz := RpL.len _ _ rz5
        rw [List.length_map] at lz
        refine ⟨ya, _, rfl, hya, rfl, _, _, rfl, _, _, rfl, rfl, ?_⟩
        have one : ∀ (G : Hp) (zs : List V) (U : List Part), G fa = some (.lst zs) → RpL K G (U.map partD) zs → U.length ≤ 5000000 → ∀ t, G t = none → ∃ G', G' = upd (upd G t (.tup [.int (((p.1 : Nat) : Int) + ((ct.1 : Nat) : Int)), .str (S ct.2)])) fa (.lst (zs ++ [.ref t])) ∧ (upd G t (.tup [.int (((p.1 : Nat) : Int) + ((ct.1 : Nat) : Int)), .str (S ct.2)])) fa = some (.lst zs) ∧ zs.length < sizeLine ∧ G' fa = some (.lst (zs ++ [.ref t])) ∧ RpL K G' ((U ++ [(p.1 + ct.1, ct.2)]).map partD) (zs ++ [.ref t]) ∧ TK G G' ∧ Kp [fa] G G' := fun G zs U hG rG lU t nt => by
          have s6 : Same G (upd G t (.tup [.int (((p.1 : Nat) : Int) + ((ct.1 : Nat) : Int)), .str (S ct.2)])) := (L2.Same.refl _).new nt
          have rt : Rp K (upd G t (.tup [.int (((p.1 : Nat) : Int) + ((ct.1 : Nat) : Int)), .str (S ct.2)])) (partD (p.1 + ct.1, ct.2)) (.ref t) := by
            refine Rp.tup upd_same ?_
            rw [npe]
            exact RpL.cons Rp.int (RpL.cons Rp.str RpL.nil)
          have lz' := RpL.len _ _ rG
          rw [List.length_map] at lz'
          have tE : TK (upd G t (.tup [.int (((p.1 : Nat) : Int) + ((ct.1 : Nat) : Int)), .str (S ct.2)])) (upd (upd G t (.tup [.int (((p.1 : Nat) : Int) + ((ct.1 : Nat) : Int)), .str (S ct.2)])) fa (.lst (zs ++ [.ref t]))) := (TK.refl _).wr (s6 _ _ hG) rfl
          refine ⟨_, rfl, s6 _ _ hG, Nat.lt_of_le_of_lt (show zs.length ≤ 5000000 by omega) (by decide), upd_same, ?_, (TK.of s6).trans tE, (Kp.of s6).wr (List.mem_singleton.mpr rfl)⟩
          rw [List.map_append]
          exact RpL.tk tE _ _ (RpL.app (RpL.tk (TK.of s6) _ _ rG) (RpL.cons rt RpL.nil))
        have snoc : ∀ U : List Part, (∀ q ∈ U, SubPart cs q) → ∀ q ∈ U ++ [(p.1 + ct.1, ct.2)], SubPart cs q := fun U hU q hq => by
          rcases List.mem_append.mp hq with h | h
          · exact hU q h
          · rw [List.mem_singleton.mp h]
            exact hsc
        refine ⟨_, rfl, .inl ⟨rfl, _, SqL.of hz5⟩, _, rfl, _, rfl, _, _, rfl, rfl, _, rfl, (by show 2 ≤ sizeLine; decide), fun t nt => ?_⟩
        obtain ⟨G, eG, g1, g2, g3, g4, g5, g6⟩ := one H5 zs T' hz5 rz5 (by omega) t nt
        refine ⟨fa, _, _, rfl, rfl, g1, g2, ?_⟩
        have kpG : Kp [d] H G := by
          rw [eG]
          exact (kp5.new nt).wrn nfa
        rw [← eG]
        clear eG g1
        have DG := D5.kp g6 (nin1 nfd.symm) (nin1 nfaf)
        refine ⟨_, rfl, d, f, 6, n + 81 * i + 1 + l, rfl, by decide, by omega, DG, fun r H8 r0 r1 k8 D8 t8 => ?_⟩
        have g8 := k8 _ _ (nin1 nfd) g3
        have r8 := RpL.tk t8 _ _ g4
        have cv : ∀ U : List Part, (∀ q ∈ T' ++ [(p.1 + ct.1, ct.2)], q ∈ U) → (∀ q ∈ T, q ∈ U) ∧ ∀ c, c < l + 1 → (p.1 + (cutAt p.2 s' c).1, (cutAt p.2 s' c).2) ∈ U := fun U hU => by
          refine ⟨fun q hq => hU q (List.mem_append_left _ (sub5 q hq)), fun c hc => ?_⟩
          by_cases e : c = l
          · subst e
            refine hU _ (List.mem_append_right _ (List.mem_singleton.mpr ?_))
            rw [hct]
          · exact hU _ (List.mem_append_left _ (cov5 c (by omega)))
        refine ⟨rfl, _, rfl, ?_⟩
        refine ite2 (fun _ => ?_) (fun _ => ?_)
        · refine ⟨_, rfl, .inl ⟨rfl, _, SqL.of g8⟩, _, rfl, _, rfl, _, _, rfl, rfl, _, rfl, (by show 2 ≤ sizeLine; decide), fun t2 nt2 => ?_⟩
          obtain ⟨G2, eG2, j1, j2, j3, j4, j5, j6⟩ := one H8 _ _ g8 r8 (by rw [List.length_append, List.length_singleton]; omega) t2 nt2
          refine ⟨fa, _, _, rfl, rfl, j1, j2, ?_⟩
          have kpG2 : Kp [d] H G2 := by
            rw [eG2]
            exact ((kpG.trans k8).new nt2).wrn nfa
          rw [← eG2]
          obtain ⟨c1, c2⟩ := cv _ (fun q hq => List.mem_append_left [(p.1 + ct.1, ct.2)] hq)
          refine ⟨T' ++ [(p.1 + ct.1, ct.2)] ++ [(p.1 + ct.1, ct.2)], _, _, rfl, ⟨_, j3, j4⟩, snoc _ (snoc _ hT5), c1, c2, ?_, kpG2, ((t5.trans g5).trans t8).trans j5, ((D8.kp j6 (nin1 nfd.symm) (nin1 nfaf))).mono (by omega)⟩
          rw [List.length_append, List.length_append, List.length_singleton]
          omega
        · obtain ⟨c1, c2⟩ := cv _ (fun q hq => hq)
          refine ⟨T' ++ [(p.1 + ct.1, ct.2)], _, _, rfl, ⟨_, g8, r8⟩, snoc _ hT5, c1, c2, ?_, kpG.trans k8, (t5.trans g5).trans t8, D8.mono (by omega)⟩
          rw [List.length_append, List.length_singleton]
          omega
      · rintro σ H5 ⟨T', w6, w7, rfl, hfa5, hT5, sub5, cov5, lT5, kp5, t5, D5⟩
        rw [lcx'] at cov5 lT5 D5
        refine ⟨T', _, _, _, _, _, rfl, hfa5, hT5, fun j hj => ?_, by omega, kp5, t24.trans t5, D5.mono (by omega)⟩
        obtain ⟨q, hq, hj⟩ := hj
        rw [et] at hq
        rcases List.mem_append.mp hq with hq | hq
        · obtain ⟨q', hq', hj'⟩ := cov j ⟨q, hq, hj⟩
          exact ⟨q', sub5 _ hq', hj'⟩
        · rw [List.mem_singleton] at hq
          subst hq
          obtain ⟨c, hc, h1, h2⟩ := (cut_good (cs := q.2) hs1).2.2 (j - q.1) (by have := hj.1; have := hj.2; omega)
          unfold cutL at hc
          obtain ⟨ci, hci, rfl⟩ := List.mem_map.mp hc
          refine ⟨_, cov5 ci (List.mem_range.mp hci), ?_, ?_⟩
          · show q.1 + (cutAt q.2 s' ci).1 ≤ j
            have := hj.1
            omega
          · show j < q.1 + (cutAt q.2 s' ci).1 + (cutAt q.2 s' ci).2.length
            have := hj.1
            omega
    · rintro σ H2 ⟨T, v3, v4, v5, v6, v7, rfl, hfa2, hT, cov, lT, kp2, t2, D2⟩
      rw [lxs] at lT D2
      rw [lxs, List.take_length] at cov
      exact ⟨_, rfl, k _ fa T nfa kp2 D2 hfa2 hT cov lT⟩
end
end Wn

namespace Wn
open PySem L2
open SX (S S_len S_cat S_beq_eq join_S)

theorem Match.put {m m' : List (Int × Nat)} {ks ks' : List Int} {a b : Int} (h : Match m ks) (nd : ks'.Nodup) (hk : ∀ x, x ∈ ks' ↔ x ∈ ks ∨ (a ≤ x ∧ x < b)) (hm : ∀ j : Int, (lookA m' j).isSome = true ↔ (lookA m j).isSome = true ∨ (a ≤ j ∧ j < b)) : Match m' ks' :=
  ⟨nd, fun x => by rw [hk, hm, h.2]⟩
theorem dep_pl (m : List (Int × Nat)) : dep (placesD m) < 3 := by
  have := dep_ints (sortI (m.map (·.1)))
  unfold placesD
  omega
theorem sz_pl (m : List (Int × Nat)) (h : m.length ≤ 1000) : sz (placesD m) ≤ 1000000 := by
  unfold placesD sz
  have := szs_map_le (c := 1) (f := PyData.int) (sortI (m.map (·.1))) fun x _ => by simp [sz]
  rw [(sortI_perm _).length_eq, List.length_map] at this
  omega
theorem rpl_ints {K : PySem.W.Frag} (H : Hp) (ns : List Int) : RpL K H (ns.map PyData.int) (ns.map V.int) := by
  induction ns with
  | nil => exact RpL.nil
  | cons n ns ih => exact RpL.cons Rp.int ih
section
variable {P : Program} {w : World} {K : PySem.W.Frag} {mg : Str → Option Value} {base : Heap}
theorem scHeaped : FnScope ["_law_whole", "_law_parts", "_law_heap", "_law_known", "_law_first", "_law_signs", "_law_k"] ["_law_whole", "_law_parts", "_law_heap", "_law_known"] (defScope sHeaped) := ⟨rfl, rfl, rfl, by decide +kernel, rfl, by decide +kernel, by decide +kernel⟩
theorem ok_heaped {f C : Addr} {fd : FuncData} (F : Fun K "_law_heaped" "_law_heaped" sHeaped f fd) (T : TH K mg C) (B : TB mg)
    (cS : Cd P w K mg base 3 "_law_same" ["_law_thing", "_law_due"] (spSame K 3)) (tA : Md P w K mg base 1 C "add" ["self", "first", "signs"] (spHAdd K C)) (tP : Md P w K mg base 1 C "places" ["self"] (spHPlaces K C)) (tI : Md P w K mg base 1 C "is_whole" ["self"] (spHIs K C)) :
    FnOk P w K mg base CX0 4 f fd ["_law_whole", "_law_parts", "_law_heap", "_law_known"] (spHeaped K C) := by
  obtain ⟨fS, fdS, GS, mS, kS, bS⟩ := cS
  obtain ⟨fA, fdA, GA, mA, bA⟩ := tA.tk
  obtain ⟨fP, fdP, GP, mP, bP⟩ := tP
  obtain ⟨fI, fdI, GI, mI, bI⟩ := tI
  refine F.ok scHeaped (fun vs H Q E h => ?_) (fun cdv A outer s H vs Q E hr h => ?_)
  · obtain ⟨pa, hp, q, ka, cs, ps, m, ks, rfl, _⟩ := h
    rfl
  · obtain ⟨pa, hp, q, ka, cs, ps, m, ks, rfl, ⟨xs, hpa, rpa⟩, hsub, hH, hka, hM, cm, npk, hcs, k⟩ := h
    have hr1 : Room 1 _ := hr.mono (by decide)
    have hr3 : Room 3 _ := hr
    refine ⟨_, (pss_cons (ps_for PassesOwn.never rfl (pi_list (pv 1)) (pg_tup rfl (pgs_cons (pg_name (i := 4) scHeaped.nd rfl (Or.inl rfl)) (pgs_cons (pg_name (i := 5) scHeaped.nd rfl (Or.inl rfl)) pgs_nil)))
       (pss_cons (ps_expr (pe_meth (pv 2) T.cl mA GA hr1 bA .nil pass0 (pa_cons (pv 4) (pa_cons (pv 5) pa_nil))))
       (pss_cons (ps_for PassesOwn.never rfl (pi_range1 rfl B.range (pa_cons (pe_callB (lenK (K := K) rfl) (by rfl) B.len PySem.boot_len (pa_cons (pv 5) pa_nil)) pa_nil)) (pg_name (i := 6) scHeaped.nd rfl (Or.inl rfl))
       (pss_one (ps_if (pt_cmpR (notInSeqK (K := K) rfl) (pe_op op_add (pv 4) (pv 6)) (pv 3) (by rfl))
       (pss_one (ps_expr (pe_bm PySem.F.plainAttrs_list PySem.F.slot_list_append PySem.F.type_list_append mt_append (pv 3) (pa_cons (pe_op op_add (pv 4) (pv 6)) pa_nil))))
       pss_nil)))
       (pss_one (ps_if (PW.pt (pw_or (pt_not (pt_val (pe_call GS hr3 rfl mS kS bS .nil pass0 (pa_cons (pe_meth0 (pv 2) T.cl mP GP hr1 bP .nil pass0) (pa_cons (pe_callTy (tupOfK (K := K) rfl) (by rfl) B.tuple PyProof.Rows.boot_tuple (pa_cons (pe_callB (sortIK (K := K) rfl) (by rfl) B.sorted (by decide +kernel) (pa_cons (pv 3) pa_nil)) pa_nil)) pa_nil))))) (pw_or1 (pt_cmpR op_ne (pe_meth0 (pv 2) T.cl mI GI hr1 bI .nil pass0) (pe_cmpR op_eq (pe_callB (lenK (K := K) rfl) (by rfl) B.len PySem.boot_len (pa_cons (pv 3) pa_nil)) (pv 0) (nomark _)) (nomark _)))))
       (pss_one (ps_ret pe_bl))
       pss_nil)))))
       (pss_one (ps_ret pe_bl))), ?_⟩
    have lxs := RpL.len _ _ rpa
    rw [List.length_map] at lxs
    obtain ⟨⟨dx0, hp0⟩, kv0, hq0, _⟩ := id hH
    have npq : pa ≠ q := ne_of hpa hq0 (by intro z; cases z)
    have nkq : ka ≠ q := ne_of hka hq0 (by intro z; cases z)
    have nhk : hp ≠ ka := ne_of hp0 hka (by intro z; cases z)
    have nhq : hp ≠ q := ne_of hp0 hq0 (by intro z; cases z)
    refine ⟨_, rfl, pa, rfl, ⟨_, SqL.of hpa⟩, ?_⟩
    refine for_list (K := K) (a := pa) (xs := xs) (fun i σ H' => ∃ (m' : List (Int × Nat)) (ks' : List Int) (v4 v5 v6 : Option V), σ = [some (.int (cs.length : Int)), some (.ref pa), some (.ref hp), some (.ref ka), v4, v5, v6] ∧ Kp [q, ka] H H' ∧ TK H H' ∧ HeapAt K C H' hp q cs.length m' ∧ H' ka = some (.lst (ks'.map V.int)) ∧ Match m' ks' ∧ Come cs m' ∧ ∀ j : Nat, (lookA m' (j : Int)).isSome = true ↔ (lookA m (j : Int)).isSome = true ∨ ∃ p ∈ ps.take i, InP p j)
      ⟨m, ks, _, _, _, rfl, Kp.refl _ _, TK.refl _, hH, hka, hM, cm, fun j => ⟨.inl, fun z => z.elim id (by rintro ⟨p, hp, _⟩; cases hp)⟩⟩ (fun i σ H' _ ⟨_, _, _, _, _, _, kp, _⟩ => SqL.of (kp _ _ (nin2 npq npk) hpa)) ?_ ?_
    · rintro i x σ H2 hx ⟨m2, ks2, v4, v5, v6, rfl, kp2, t2, hH2, hka2, hM2, cm2, cov2⟩
      have hi : i < ps.length := by
        have q := (List.getElem?_eq_some_iff.mp hx).1
        omega
      obtain ⟨v, ev, rv⟩ := RpL.get _ _ rpa i (partD ps[i]) (by rw [List.getElem?_map, List.getElem?_eq_getElem hi]; rfl)
      have ex : v = x := Option.some.inj (ev.symm.trans hx)
      rw [ex] at rv
      have et : ps.take (i + 1) = ps.take i ++ [ps[i]] := List.take_succ_eq_append_getElem hi
      obtain ⟨ya, rfl, hya⟩ := partD_inv (Rp.tk t2 _ _ rv)
      have hs := hsub _ (List.getElem_mem hi)
      generalize ps[i] = p at hya hs rv et
      have lp : p.2.length ≤ 1000 := by have := hs.2.1; omega
      have hps : (S p.2).length ≤ sizeLine := by rw [S_len]; exact Nat.le_trans lp (by decide)
      obtain ⟨⟨dx2, hp2⟩, kv2, hq2, _⟩ := id hH2
      refine ⟨ya, _, rfl, hya, rfl, _, _, rfl, _, _, rfl, rfl, ?_⟩
      refine ⟨_, rfl, hp, dx2, _, rfl, hp2, hf_ne (by decide +kernel) (by decide +kernel), _, rfl, _, rfl, hp, q, _, m2, cs, p, rfl, hH2, hs, cm2, by omega, fun H3 m3 k3 hH3 cm3 cov3 t3 => ?_⟩
      have hka3 := k3 _ _ (nin1 nkq) hka2
      refine ⟨_, rfl, _, p.2.length, rfl, ⟨hps, (S_len p.2).symm⟩, p.2.length, rfl, by omega, by omega, ?_⟩
      refine for_range (lo := 0) (fun l σ H' => ∃ (ks4 : List Int) (v6 : Option V), σ = [some (.int (cs.length : Int)), some (.ref pa), some (.ref hp), some (.ref ka), some (.int (p.1 : Int)), some (.str (S p.2)), v6] ∧ Kp [ka] H3 H' ∧ TK H3 H' ∧ H' ka = some (.lst (ks4.map V.int)) ∧ ks4.Nodup ∧ (∀ x, x ∈ ks4 ↔ x ∈ ks2 ∨ ((p.1 : Int) ≤ x ∧ x < (p.1 : Int) + l)) ∧ ks4.length ≤ ks2.length + l)
        ⟨ks2, _, rfl, Kp.refl _ _, TK.refl _, hka3, hM2.1, fun x => ⟨.inl, fun z => z.elim id (fun h => by omega)⟩, by omega⟩ ?_ ?_
      · rintro l σ H4 hl ⟨ks4, w6, rfl, k4, t4, hka4, nd4, mem4, len4⟩
        have hl : l < p.2.length := by omega
        have e0 : (0 : Int) + (l : Int) = (l : Int) := by omega
        have lk2 := hM2.len cm2
        have lm2 := cm2.len
        refine ⟨_, rfl, _, rfl, _, _, rfl, rfl, _, rfl, ka, _, rfl, .inl (SqL.of hka4), rfl, flat_ints ks4, _, rfl, ?_⟩
        refine ite2 (fun hc => ?_) (fun hc => ?_)
        · have hc : ¬ ((p.1 : Int) + (0 + (l : Int))) ∈ ks4 := fun z => by
            have : (!inV (.int ((p.1 : Int) + (0 + (l : Int)))) (ks4.map V.int)) = true := hc
            rw [inV_int, decide_eq_true z] at this
            cases this
          refine ⟨_, rfl, .inl ⟨rfl, _, SqL.of hka4⟩, _, rfl, _, rfl, _, _, rfl, rfl, ka, _, _, rfl, rfl, hka4, (by rw [List.length_map]; exact Nat.lt_of_le_of_lt (show ks4.length ≤ 5000 by omega) (by decide)), ?_⟩
          refine ⟨ks4 ++ [(p.1 : Int) + (0 + (l : Int))], _, rfl, k4.wr (List.mem_singleton.mpr rfl), t4.wr hka4 rfl, ?_, ?_, fun x => ?_, ?_⟩
          · rw [upd_same, List.map_append]
            rfl
          · rw [List.nodup_append]
            refine ⟨nd4, by simp, fun a ha b hb => ?_⟩
            rw [List.mem_singleton] at hb
            subst hb
            exact fun z => hc (z ▸ ha)
          · rw [List.mem_append, mem4, List.mem_singleton]
            constructor
            · rintro ((h | h) | h)
              · exact .inl h
              · exact .inr ⟨h.1, by omega⟩
              · exact .inr ⟨by omega, by omega⟩
            · rintro (h | h)
              · exact .inl (.inl h)
              · by_cases e : x = (p.1 : Int) + (0 + (l : Int))
                · exact .inr e
                · exact .inl (.inr ⟨h.1, by omega⟩)
          · rw [List.length_append, List.length_singleton]
            omega
        · have hc : ((p.1 : Int) + (0 + (l : Int))) ∈ ks4 := Decidable.byContradiction fun z => hc (by
            show (!inV (.int ((p.1 : Int) + (0 + (l : Int)))) (ks4.map V.int)) = true
            rw [inV_int, decide_eq_false z]
            rfl)
          refine ⟨ks4, _, rfl, k4, t4, hka4, nd4, fun x => ?_, by omega⟩
          rw [mem4]
          constructor
          · rintro (h | h)
            · exact .inl h
            · exact .inr ⟨h.1, by omega⟩
          · rintro (h | h)
            · exact .inl h
            · by_cases e : x = (p.1 : Int) + (0 + (l : Int))
              · rw [← e, mem4] at hc
                exact hc
              · exact .inr ⟨h.1, by omega⟩
      · rintro σ H4 ⟨ks4, w6, rfl, k4, t4, hka4, nd4, mem4, len4⟩
        rw [Int.toNat_natCast] at mem4 len4
        have hM4 : Match m3 ks4 := hM2.put nd4 mem4 cov3
        have hH4 : HeapAt K C H4 hp q cs.length m3 := hH3.kp k4 t4 (nin1 nhk) (nin1 nkq.symm)
        have lm3 := cm3.len
        obtain ⟨⟨dx4, hp4⟩, _⟩ := id hH4
        refine ⟨_, rfl, hp, dx4, _, rfl, hp4, hf_ne (by decide +kernel) (by decide +kernel), hp, q, _, m3, rfl, hH4, fun H5 pv s5 rp5 => ?_⟩
        refine ⟨_, rfl, ka, ks4, rfl, SqL.of (s5 _ _ hka4), fun ns' S' perm rising hS => ?_⟩
        have hns : ns' = sortI (m3.map (·.1)) := (sortI_eq perm rising).trans (hM4.sort cm3)
        have s6 : Same H5 (upd H5 S' (.lst (ns'.map V.int))) := (L2.Same.refl _).new hS
        refine ⟨S', _, rfl, .inl ⟨SqL.of upd_same, fun t nt => ?_⟩⟩
        have s7 := s6.new (o := .tup (ns'.map V.int)) nt
        have rt : Rp K (upd (upd H5 S' (.lst (ns'.map V.int))) t (.tup (ns'.map V.int))) (placesD m3) (.ref t) := by
          unfold placesD
          refine Rp.tup upd_same ?_
          rw [hns]
          exact rpl_ints _ _
        refine ⟨pv, .ref t, _, rfl, Rp.tk (TK.of s7) _ _ rp5, rt, dep_pl _, sz_pl _ (by omega), fun H8 s8 => ?_⟩
        refine ⟨_, rfl, iteF ?_⟩
        have s48 := (s5.trans s7).trans s8
        have hH8 := hH4.same s48
        obtain ⟨⟨dx8, hp8⟩, _⟩ := id hH8
        have hka8 := s48 _ _ hka4
        refine ⟨_, rfl, hp, dx8, _, rfl, hp8, hf_ne (by decide +kernel) (by decide +kernel), hp, q, _, m3, rfl, hH8, ?_⟩
        refine ⟨_, rfl, _, ks4.length, rfl, .inl ⟨_, SqL.of hka8, by rw [List.length_map]⟩, _, rfl, rfl, rfl, _, rfl, ?_⟩
        refine iteNS ?_ ?_
        · show V.bl (decide ((m3.length : Int) = (cs.length : Int))) = V.bl (decide (V.int ((ks4.length : Nat) : Int) = V.int (cs.length : Int)))
          rw [hM4.len cm3]
          congr 1
          exact decide_eq_decide.mpr (by rw [V.int.injEq])
        · have t38 := t4.trans (TK.of s48)
          refine ⟨m3, ks4, _, _, _, rfl, ((kp2.trans (k3.mono (by simp))).trans (k4.mono (by simp))).trans (Kp.of s48), (t2.trans t3).trans t38, hH8, hka8, hM4, cm3, fun j => ?_⟩
          rw [cov3, cov2, et]
          constructor
          · rintro ((h | ⟨r, hr, hj⟩) | h)
            · exact .inl h
            · exact .inr ⟨r, List.mem_append_left _ hr, hj⟩
            · exact .inr ⟨p, List.mem_append_right _ (List.mem_singleton.mpr rfl), by unfold InP; omega⟩
          · rintro (h | ⟨r, hr, hj⟩)
            · exact .inl (.inl h)
            · rcases List.mem_append.mp hr with hr | hr
              · exact .inl (.inr ⟨r, hr, hj⟩)
              · rw [List.mem_singleton] at hr
                subst hr
                unfold InP at hj
                exact .inr ⟨by omega, by omega⟩
    · rintro σ H2 ⟨m2, ks2, v4, v5, v6, rfl, kp2, t2, hH2, hka2, hM2, cm2, cov2⟩
      rw [lxs, List.take_length] at cov2
      exact k H2 m2 ks2 kp2 hH2 hka2 hM2 cm2 cov2
end
end Wn

namespace Wn
open PySem L2
open SX (S S_len S_cat S_beq_eq join_S)
abbrev sLaw : Stmt := top 17

theorem at3i {a b c : Int} {r : Int} (h0 : 0 ≤ r) (h1 : r < 3) : ∃ v : Int, atI [V.int a, .int b, .int c] r = some (.int v) ∧ (v = a ∨ v = b ∨ v = c) := by
  have h : r = 0 ∨ r = 1 ∨ r = 2 := by omega
  rcases h with rfl | rfl | rfl
  · exact ⟨a, rfl, .inl rfl⟩
  · exact ⟨b, rfl, .inr (.inl rfl)⟩
  · exact ⟨c, rfl, .inr (.inr rfl)⟩
theorem cutV_to (xs : List V) (k : Nat) : cutV xs none (some (k : Int)) = xs.take k := by
  unfold cutV
  rw [HT.sIx_nat, HT.sIx_none, List.drop_zero, Nat.sub_zero]
  by_cases h : k ≤ xs.length
  · rw [Nat.min_eq_left h]
  · rw [Nat.min_eq_right (by omega), List.take_length, List.take_of_length_le (by omega)]
theorem cutV_from (xs : List V) (k : Nat) : cutV xs (some (k : Int)) none = xs.drop k := by
  unfold cutV
  rw [HT.sIx_nat, HT.sIx_none]
  by_cases h : k ≤ xs.length
  · rw [Nat.min_eq_left h, List.take_of_length_le (by rw [List.length_drop]; exact Nat.le_refl _)]
  · rw [Nat.min_eq_right (by omega), Nat.sub_self, List.take_zero, List.drop_of_length_le (by omega)]
def CovAll (cs : List Nat) (ps : List Part) : Prop := (∀ p ∈ ps, SubPart cs p) ∧ ∀ j, j < cs.length → ∃ p ∈ ps, InP p j
theorem CovAll.good {cs : List Nat} {ps : List Part} (h : CovAll cs ps) : GoodParts cs ps := ⟨fun p hp => (h.1 p hp).1, fun p hp => (h.1 p hp).2.1, fun i hi => h.2 i hi⟩
theorem signs_of {K : PySem.W.Frag} {H : Hp} (g : Int → Nat) : ∀ (ks : List Int) (ys : List V), RpL K H (ks.map fun k => signD (g k)) ys → ys = ((ks.map g).map fun c => S [c]).map V.str
  | [], ys, h => by
    unfold List.map RpL at h
    exact h
  | k :: ks, ys, h => by
    rw [List.map_cons] at h
    unfold RpL at h
    obtain ⟨v, r, rfl, h1, h2⟩ := h
    unfold signD Rp at h1
    rw [signs_of g ks r h2, h1]
    rfl
section
variable {P : Program} {w : World} {K : PySem.W.Frag} {mg : Str → Option Value} {base : Heap}
theorem scLaw : FnScope ["_law_script", "_law_deck_here", "_law_turn", "_law_text_here", "_law_parts", "_law_k", "_law_at", "_law_heap", "_law_known", "_law_twin"] ["_law_script"] (defScope sLaw) := ⟨rfl, rfl, rfl, by decide +kernel, rfl, by decide +kernel, by decide +kernel⟩
theorem ok_law {f C fI : Addr} {fd fdI : FuncData} (F : Fun K "law" "law" sLaw f fd) (T : TH K mg C) (B : TB mg) (M : Mk K C fI) (GI : FnOk P w K mg base CX0 1 fI fdI ["self", "whole"] (spHInit K C)) (bI : Binds K fdI ["self", "whole"] [])
    (cN : Cd P w K mg base 2 "_law_next" ["_law_deck_here", "_law_many"] spNext) (cD : Cd P w K mg base 2 "_law_deck" ["_law_script"] (spDeck K)) (cG : Cd P w K mg base 3 "_law_sign" ["_law_deck_here"] spSign) (cX : Cd P w K mg base 4 "_law_text" ["_law_deck_here", "_law_most"] spText)
    (cW : Cd P w K mg base 3 "_law_narrowed" ["_law_deck_here", "_law_parts"] (spNarrowed K)) (cT : Cd P w K mg base 3 "_law_turned" ["_law_deck_here", "_law_rows"] (spTurned K)) (cE : Cd P w K mg base 4 "_law_heaped" ["_law_whole", "_law_parts", "_law_heap", "_law_known"] (spHeaped K C))
    (cP : Cd P w K mg base 1 "put_together" ["whole", "parts"] (spPut K)) (cS : Cd P w K mg base 3 "_law_same" ["_law_thing", "_law_due"] (spSame K 3))
    (tC : Md P w K mg base 3 C "copy" ["self"] (spHCopy K C)) (tL : Md P w K mg base 1 C "places" ["self"] (spHPlaces K C)) (tH : Md P w K mg base 1 C "is_whole" ["self"] (spHIs K C)) (tU : Md P w K mg base 2 C "text" ["self"] (spHText K C)) :
    FnOk P w K mg base CX0 5 f fd ["_law_script"] (spLaw K) := by
  obtain ⟨fN, fdN, GN, mN, kN, bN⟩ := cN.tk
  obtain ⟨fD, fdD, GD, mD, kD, bD⟩ := cD
  obtain ⟨fG, fdG, GG, mG, kG, bG⟩ := cG
  obtain ⟨fX, fdX, GX, mX, kX, bX⟩ := cX
  obtain ⟨fW, fdW, GW, mW, kW, bW⟩ := cW.tk
  obtain ⟨fT, fdT, GT, mT, kT, bT⟩ := cT.tk
  obtain ⟨fE, fdE, GE, mE, kE, bE⟩ := cE.tk
  obtain ⟨fP, fdP, GP, mP, kP, bP⟩ := cP
  obtain ⟨fS, fdS, GS, mS, kS, bS⟩ := cS
  obtain ⟨fC, fdC, GC, mC, bC⟩ := tC
  obtain ⟨fL, fdL, GL, mL, bL⟩ := tL
  obtain ⟨fH, fdH, GH, mH, bH⟩ := tH
  obtain ⟨fU, fdU, GU, mU, bU⟩ := tU
  refine F.ok scLaw (fun vs H Q E h => ?_) (fun cdv A outer s H vs Q E hr h => ?_)
  · obtain ⟨a, ns, rfl, _⟩ := h
    rfl
  · obtain ⟨a, ns, rfl, hS, hlen, k⟩ := h
    have hr1 : Room 1 _ := hr.mono (by decide)
    have hr2 : Room 2 _ := hr.mono (by decide)
    have hr3 : Room 3 _ := hr.mono (by decide)
    have hr4 : Room 4 _ := hr
    refine ⟨_, (pss_cons (ps_set (i := 1) scLaw.nd rfl (Or.inl rfl) (pe_call GD hr2 rfl mD kD bD .nil pass0 (pa_cons (pv 0) pa_nil)))
       (pss_cons (ps_for PassesOwn.never rfl (pi_range1 rfl B.range (pa_cons pe_int pa_nil)) (pg_name (i := 2) scLaw.nd rfl (Or.inl rfl))
       (pss_cons (ps_set (i := 3) scLaw.nd rfl (Or.inr rfl) (pe_op op_add_str (pe_call GG hr3 rfl mG kG bG .nil pass0 (pa_cons (pv 1) pa_nil)) (pe_call GX hr4 rfl mX kX bX .nil pass0 (pa_cons (pv 1) (pa_cons (pe_ix (ixL (K := K) rfl) (pe_lst (pa_cons pe_int (pa_cons pe_int (pa_cons pe_int pa_nil)))) (pe_call GN hr2 rfl mN kN bN .nil pass0 (pa_cons (pv 1) (pa_cons pe_int pa_nil))) (fun _ _ => rfl)) pa_nil)))))
       (pss_cons (ps_set (i := 4) scLaw.nd rfl (Or.inl rfl) (pe_lst (pa_cons (pe_tup (pa_cons pe_int (pa_cons (pv 3) pa_nil))) pa_nil)))
       (pss_cons (ps_for PassesOwn.never rfl (pi_range1 rfl B.range (pa_cons (pe_call GN hr2 rfl mN kN bN .nil pass0 (pa_cons (pv 1) (pa_cons pe_int pa_nil))) pa_nil)) (pg_name (i := 5) scLaw.nd rfl (Or.inl rfl))
       (pss_one (ps_set (i := 4) scLaw.nd rfl (Or.inl rfl) (pe_call GW hr3 rfl mW kW bW .nil pass0 (pa_cons (pv 1) (pa_cons (pv 4) pa_nil))))))
       (pss_cons (ps_set (i := 4) scLaw.nd rfl (Or.inl rfl) (pe_call GT hr3 rfl mT kT bT .nil pass0 (pa_cons (pv 1) (pa_cons (pv 4) pa_nil))))
       (pss_cons (ps_set (i := 6) scLaw.nd rfl (Or.inl rfl) (pe_call GN hr2 rfl mN kN bN .nil pass0 (pa_cons (pv 1) (pa_cons (pe_op op_add (pe_callB (lenK (K := K) rfl) (by rfl) B.len PySem.boot_len (pa_cons (pv 4) pa_nil)) pe_int) pa_nil))))
       (pss_cons (ps_set (i := 7) scLaw.nd rfl (Or.inl rfl) (pe_make M GI hr2 rfl T.mgC bI .nil pass0 (pa_cons (pe_callB (lenK (K := K) rfl) (by rfl) B.len PySem.boot_len (pa_cons (pv 3) pa_nil)) pa_nil)))
       (pss_cons (ps_set (i := 8) scLaw.nd rfl (Or.inl rfl) (pe_lst pa_nil))
       (pss_cons (ps_if (pt_not (pt_val (pe_call GE hr4 rfl mE kE bE .nil pass0 (pa_cons (pe_callB (lenK (K := K) rfl) (by rfl) B.len PySem.boot_len (pa_cons (pv 3) pa_nil)) (pa_cons (pe_slice (slL (K := K) rfl) (pv 4) po_none (po_some (pv 6))) (pa_cons (pv 7) (pa_cons (pv 8) pa_nil)))))))
       (pss_one (ps_ret pe_bl))
       pss_nil)
       (pss_cons (ps_if (pt_cmpR op_ne (pe_meth0 (pv 7) T.cl mU GU hr2 bU .nil pass0) (joinK (K := K) rfl pe_str (pe_lc (own := [("_law_k", 5)]) (g := (gName 5)) (tt := tYes) rfl scLaw.nd (pi_list (pe_callB (sortIK (K := K) rfl) (by rfl) B.sorted (by decide +kernel) (pa_cons (pv 8) pa_nil))) (blkOk_by (N := ["_law_script", "_law_deck_here", "_law_turn", "_law_text_here", "_law_parts", "_law_k", "_law_at", "_law_heap", "_law_known", "_law_twin"]) (sc := defScope sLaw) (by decide +kernel))
       (fun _ _ _ _ _ => (pg_name (i := 5) scLaw.nd rfl (Or.inl rfl))) (fun _ _ _ _ _ => pts_nil) (fun _ _ _ _ _ => (pe_ix ix_str (pv 3) (pv 5) (fun _ _ => rfl))))) (nomark _))
       (pss_one (ps_ret pe_bl))
       pss_nil)
       (pss_cons (ps_set (i := 9) scLaw.nd rfl (Or.inl rfl) (pe_meth0 (pv 7) T.cl mC GC hr3 bC .nil pass0))
       (pss_cons (ps_if (pt_not (pt_val (pe_call GE hr4 rfl mE kE bE .nil pass0 (pa_cons (pe_callB (lenK (K := K) rfl) (by rfl) B.len PySem.boot_len (pa_cons (pv 3) pa_nil)) (pa_cons (pe_slice (slL (K := K) rfl) (pv 4) (po_some (pv 6)) po_none) (pa_cons (pv 7) (pa_cons (pe_callTy (lstOfK (K := K) rfl) (by rfl) B.list (by decide +kernel) (pa_cons (pv 8) pa_nil)) pa_nil)))))))
       (pss_one (ps_ret pe_bl))
       pss_nil)
       (pss_cons (ps_if (pt_not (pt_val (pe_call GS hr3 rfl mS kS bS .nil pass0 (pa_cons (pe_meth0 (pv 9) T.cl mL GL hr1 bL .nil pass0) (pa_cons (pe_callTy (tupOfK (K := K) rfl) (by rfl) B.tuple PyProof.Rows.boot_tuple (pa_cons (pe_callB (sortIK (K := K) rfl) (by rfl) B.sorted (by decide +kernel) (pa_cons (pv 8) pa_nil)) pa_nil)) pa_nil)))))
       (pss_one (ps_ret pe_bl))
       pss_nil)
       (pss_cons (ps_if (PW.pt (pw_or (pt_not (pt_val (pe_meth0 (pv 7) T.cl mH GH hr1 bH .nil pass0))) (pw_or (pt_cmpR op_ne (pe_meth0 (pv 7) T.cl mU GU hr2 bU .nil pass0) (pv 3) (nomark _)) (pw_or1 (pt_cmpR op_ne (pe_call GP hr1 rfl mP kP bP .nil pass0 (pa_cons (pe_callB (lenK (K := K) rfl) (by rfl) B.len PySem.boot_len (pa_cons (pv 3) pa_nil)) (pa_cons (pe_callTy (tupOfK (K := K) rfl) (by rfl) B.tuple PyProof.Rows.boot_tuple (pa_cons (pv 4) pa_nil)) pa_nil))) (pv 3) (nomark _))))))
       (pss_one (ps_ret pe_bl))
       pss_nil)
       (pss_one (ps_if (PW.pt (pw_or (pt_not (pt_val (pe_call GE hr4 rfl mE kE bE .nil pass0 (pa_cons (pe_callB (lenK (K := K) rfl) (by rfl) B.len PySem.boot_len (pa_cons (pv 3) pa_nil)) (pa_cons (pe_slice (slL (K := K) rfl) (pv 4) (po_some (pv 6)) po_none) (pa_cons (pv 9) (pa_cons (pv 8) pa_nil))))))) (pw_or1 (pt_cmpR op_ne (pe_meth0 (pv 9) T.cl mU GU hr2 bU .nil pass0) (pv 3) (nomark _)))))
       (pss_one (ps_ret pe_bl))
       pss_nil))))))))))))))))
       (pss_one (ps_ret pe_bl)))), ?_⟩
    refine ⟨_, rfl, a, ns, rfl, hS, hlen, fun H1 d f nd nf s1 D1 => ?_⟩
    refine ⟨5, rfl, by decide, by decide, ?_⟩
    refine for_range (lo := 0) (fun i σ H' => ∃ v2 v3 v4 v5 v6 v7 v8 v9, σ = [some (.ref a), some (.ref d), v2, v3, v4, v5, v6, v7, v8, v9] ∧ Deck H' d f (100000000 * i)) ⟨_, _, _, _, _, _, _, _, rfl, D1.mono (by omega)⟩ ?_ ?_
    · rintro i σ H2 hi ⟨v2, v3, v4, v5, v6, v7, v8, v9, rfl, D2⟩
      have hi : i < 5 := hi
      refine ⟨_, rfl, d, f, 100000000 * i, rfl, D2, by omega, fun c0 H3 oc0 k3 D3 => ?_⟩
      refine ⟨_, rfl, (by show 3 ≤ sizeLine; decide), fun l nl => ?_⟩
      have s4 : Same H3 (upd H3 l (.lst [.int 3, .int 30, .int 79])) := (L2.Same.refl _).new nl
      have hl4 : upd H3 l (.lst [.int 3, .int 30, .int 79]) l = some (.lst [.int 3, .int 30, .int 79]) := upd_same
      have nld : l ≠ d := (ne_of_none D3.lst.choose_spec nl).symm
      generalize upd H3 l (.lst [.int 3, .int 30, .int 79]) = H4 at s4 hl4
      refine ⟨_, rfl, d, f, 3, 100000000 * i + 1, rfl, by decide, by omega, D3.same s4, fun r H5 r0 r1 k5 D5 t5 => ?_⟩
      obtain ⟨most, hmost, hm3⟩ := at3i (a := 3) (b := 30) (c := 79) r0 r1
      refine ⟨l, _, _, _, rfl, rfl, SqL.of (k5 _ _ (nin1 nld) hl4), hmost, ?_⟩
      refine ⟨d, f, 100000000 * i + 1 + 1, most, rfl, D5, by omega, by omega, by omega, fun cs' H6 lcs' ocs' k6 D6 => ?_⟩
      refine ⟨_, _, rfl, rfl, ?_, ?_⟩
      · rw [S_len, S_len, List.length_singleton]
        exact Nat.le_trans (show 1 + cs'.length ≤ 1000 by omega) (by decide)
      rw [S_cat]
      have lcs : ([c0] ++ cs').length ≤ 80 := by rw [List.length_append, List.length_singleton]; omega
      have lcs0 : 0 < ([c0] ++ cs').length := by rw [List.length_append, List.length_singleton]; omega
      generalize [c0] ++ cs' = cs at lcs lcs0
      have hcs : (S cs).length ≤ sizeLine := by rw [S_len]; exact Nat.le_trans lcs (by decide)
      have hcs' : LenV K (.str (S cs)) = LenV K (.str (S cs)) := rfl
      refine ⟨_, rfl, (by show 2 ≤ sizeLine; decide), fun t0 nt0 => ?_⟩
      refine ⟨(by show 1 ≤ sizeLine; decide), fun pa0 npa0 => ?_⟩
      have s7 : Same H6 (upd H6 t0 (.tup [.int 0, .str (S cs)])) := (L2.Same.refl _).new nt0
      have s8 : Same H6 (upd (upd H6 t0 (.tup [.int 0, .str (S cs)])) pa0 (.lst [.ref t0])) := s7.new npa0
      have r0' : Rp K (upd H6 t0 (.tup [.int 0, .str (S cs)])) (partD (0, cs)) (.ref t0) := Rp.tup upd_same (RpL.cons Rp.int (RpL.cons Rp.str RpL.nil))
      have hpa0 : LstAt K (upd (upd H6 t0 (.tup [.int 0, .str (S cs)])) pa0 (.lst [.ref t0])) pa0 ([((0, cs) : Part)].map partD) := ⟨_, upd_same, RpL.cons (Rp.tk ((TK.refl _).new npa0) _ _ r0') RpL.nil⟩
      have npd0 : pa0 ≠ d := (ne_of_none (s7 _ _ D6.lst.choose_spec) npa0).symm
      generalize upd (upd H6 t0 (.tup [.int 0, .str (S cs)])) pa0 (.lst [.ref t0]) = H8 at s8 hpa0
      have D8 := D6.same s8
      have cov0 : CovAll cs [(0, cs)] := by
        refine ⟨fun p hp => ?_, fun j hj => ⟨_, List.mem_singleton.mpr rfl, Nat.zero_le _, by show j < 0 + cs.length; omega⟩⟩
        rw [List.mem_singleton] at hp
        subst hp
        exact ⟨by show cs = (cs.drop 0).take cs.length; rw [List.drop_zero, List.take_length], by show 0 + cs.length ≤ cs.length; omega, lcs0⟩
      refine ⟨_, rfl, d, f, 4, 100000000 * i + 1 + 1 + 1 + most, rfl, by decide, by omega, D8, fun rr H9 q0 q1 k9 D9 t9 => ?_⟩
      have hpa9 := hpa0.kp k9 t9 (nin1 npd0)
      refine ⟨rr, rfl, by omega, by omega, ?_⟩
      refine for_range (lo := 0) (fun j σ H' => ∃ (pa : Addr) (ps : List Part) (v5 : Option V), σ = [some (.ref a), some (.ref d), some (.int (0 + (i : Int))), some (.str (S cs)), some (.ref pa), v5, v6, v7, v8, v9] ∧ LstAt K H' pa (ps.map partD) ∧ CovAll cs ps ∧ ps.length ≤ 160 ^ j ∧ pa ≠ d ∧ Deck H' d f (100000000 * i + 1 + 1 + 1 + most + 1 + 3000000 * j)) ⟨pa0, _, _, rfl, hpa9, cov0, (by show 1 ≤ 160 ^ 0; decide), npd0, D9.mono (by omega)⟩ ?_ ?_
      · rintro j σ H10 hj ⟨pa, ps, w5, rfl, hpa10, cov10, lps, npd, D10⟩
        have hj : j < 3 := by omega
        have h160 : 160 ^ j ≤ 25600 := by
          match j, hj with
          | 0, _ => decide
          | 1, _ => decide
          | 2, _ => decide
        refine ⟨_, rfl, _, rfl, d, f, pa, _, ps, cs, rfl, D10, by omega, hpa10, npd, by omega, lcs, cov10.1, fun H11 pa' TT npa' k11 D11 hpa11 sub11 cv11 lT t11 => ?_⟩
        refine ⟨pa', TT, _, rfl, hpa11, ⟨sub11, fun x hx => cv11 x (cov10.2 x hx)⟩, ?_, (ne_of_none D10.lst.choose_spec npa').symm, D11.mono (by omega)⟩
        rw [Nat.pow_succ]
        omega
      rintro σ H10 ⟨pa1, ps1, w5, rfl, hpa10, cov10, lps, npd1, D10⟩
      have h160 : 160 ^ rr.toNat ≤ 4096000 := by
        have : rr.toNat < 4 := by omega
        match rr.toNat, this with
        | 0, _ => decide
        | 1, _ => decide
        | 2, _ => decide
        | 3, _ => decide
      refine ⟨_, rfl, _, rfl, d, f, pa1, _, ps1, rfl, D10, by omega, hpa10, npd1, by omega, fun H11 pa ps npa k11 D11 hpa11 mem11 lT t11 => ?_⟩
      have npd : pa ≠ d := (ne_of_none D10.lst.choose_spec npa).symm
      have cov : CovAll cs ps := ⟨fun p hp => cov10.1 p ((mem11 p).mp hp), fun j hj => by
        obtain ⟨p, hp, h⟩ := cov10.2 j hj
        exact ⟨p, (mem11 p).mpr hp, h⟩⟩
      obtain ⟨xs, hx11, rx11⟩ := id hpa11
      have lxs := RpL.len _ _ rx11
      rw [List.length_map] at lxs
      refine ⟨_, rfl, _, rfl, _, xs.length, rfl, .inl ⟨_, SqL.of hx11, rfl⟩, _, _, rfl, rfl, d, f, (xs.length : Int) + 1, _, rfl, by omega, by omega, D11, fun ai H12 a0 a1 k12 D12 t12 => ?_⟩
      obtain ⟨at', eat⟩ : ∃ n : Nat, ai = (n : Int) := ⟨ai.toNat, by omega⟩
      subst eat
      have hx12 := k12 _ _ (nin1 npd) hx11
      have rx12 := RpL.tk t12 _ _ rx11
      have lenR : ∀ H', LenV K (.str (S cs)) H' cs.length := fun H' => ⟨hcs, (S_len cs).symm⟩
      -- heap, known
      refine ⟨_, rfl, _, cs.length, rfl, lenR _, ?_⟩
      intro hp dx nhp ndx nex
      have s13 : Same H12 (upd (upd H12 dx (.own hp)) hp (.ins C dx [])) := ((L2.Same.refl _).new ndx).new (by rw [upd_ne nex.symm]; exact nhp)
      refine ⟨hp, dx, (cs.length : Int), rfl, upd_same, fun H13 q nq k13 hH13 => ⟨rfl, ?_⟩⟩
      have s1213 : Same H12 H13 := fun b o e => k13 b o (nin1 (ne_of_none e nhp)) (s13 b o e)
      refine ⟨Nat.zero_le _, fun ka nka => ?_⟩
      have s14 : Same H13 (upd H13 ka (.lst [])) := (L2.Same.refl _).new nka
      have hka14 : upd H13 ka (.lst []) ka = some (.lst (([] : List Int).map V.int)) := upd_same
      have nkd : d ≠ ka := ne_of_none (s1213 _ _ D12.lst.choose_spec) nka
      have nkf : f ≠ ka := ne_of_none (s1213 _ _ D12.lst2.choose_spec) nka
      have nkp : pa ≠ ka := ne_of_none (s1213 _ _ hx12) nka
      have hH14 := hH13.same s14
      have hx14 := s14 _ _ (s1213 _ _ hx12)
      have s1214 := s1213.trans s14
      have rx14 := RpL.tk (TK.of s1214) _ _ rx12
      have D14 := D12.same s1214
      generalize upd H13 ka (.lst []) = H14 at s14 hka14 hH14 hx14 s1214 rx14 D14
      have m0 : Match [] ([] : List Int) := ⟨List.nodup_nil, fun x => ⟨(fun h => by cases h), (fun h => by cases h)⟩⟩
      -- heaped with the first parts
      refine ⟨_, rfl, _, cs.length, rfl, lenR _, _, rfl, _, rfl, _, rfl, pa, xs, rfl, SqL.of hx14, fun pb npb => ?_⟩
      rw [cutV_to]
      have s15 : Same H14 (upd H14 pb (.lst (xs.take at'))) := (L2.Same.refl _).new npb
      have hpb15 : LstAt K (upd H14 pb (.lst (xs.take at'))) pb ((ps.take at').map partD) := ⟨_, upd_same, by rw [List.map_take]; exact RpL.take _ (RpL.tk (TK.of s15) _ _ rx14)⟩
      have nbk : pb ≠ ka := (ne_of_none hka14 npb).symm
      generalize upd H14 pb (.lst (xs.take at')) = H15 at s15 hpb15
      refine ⟨_, rfl, _, rfl, pb, hp, q, ka, cs, ps.take at', [], [], rfl, hpb15, fun p hp' => cov.1 p (List.mem_of_mem_take hp'), hH14.same s15, s15 _ _ hka14, m0, Come.nil cs, nbk, by omega, fun H16 m1 ks1 k16 hH16 hka16 hM1 cm1 cov1 t16 => ?_⟩
      refine ⟨_, rfl, iteF ?_⟩
      have lm1 := cm1.len
      obtain ⟨⟨dxh, hph16⟩, kvq, hq16, _⟩ := id hH16
      have hq15 : ∃ kv, H15 q = some (.dK kv) := by
        obtain ⟨_, kv, h, _⟩ := (hH14.same s15)
        exact ⟨kv, h⟩
      obtain ⟨kvq15, hq15⟩ := hq15
      have hx15 := s15 _ _ hx14
      have hx16 := k16 _ _ (nin2 (ne_of hx15 hq15 (by intro z; cases z)) nkp) hx15
      have rx16 := RpL.tk ((TK.of s15).trans t16) _ _ rx14
      have D15 := D14.same s15
      have D16 := D15.kp k16 (nin2 (ne_of D15.lst.choose_spec hq15 (by intro z; cases z)) nkd) (nin2 (ne_of D15.lst2.choose_spec hq15 (by intro z; cases z)) nkf)
      -- text
      refine ⟨_, rfl, hp, dxh, _, rfl, hph16, hf_ne (by decide +kernel) (by decide +kernel), hp, q, _, m1, rfl, hH16, by omega, fun H17 s17 => ?_⟩
      refine ⟨⟨_, rfl⟩, ?_⟩
      have hka17 := s17 _ _ hka16
      refine ⟨_, rfl, ka, ks1, rfl, SqL.of hka17, fun ns' S' perm rising hS' => ?_⟩
      have hns : ns' = sortI (m1.map (·.1)) := (sortI_eq perm rising).trans (hM1.sort cm1)
      have s18 : Same H17 (upd H17 S' (.lst (ns'.map V.int))) := (L2.Same.refl _).new hS'
      have hS18 : upd H17 S' (.lst (ns'.map V.int)) S' = some (.lst (ns'.map V.int)) := upd_same
      generalize upd H17 S' (.lst (ns'.map V.int)) = H18 at s18 hS18
      refine ⟨S', rfl, ⟨_, SqL.of hS18⟩, fun D hD => ?_⟩
      have lns : ns'.length ≤ 1000 := by
        have := perm.length_eq
        have := hM1.len cm1
        omega
      refine mapD_it (K := K) (walk_list (K := K) (a := S') (xs := ns'.map V.int)) (enc := PyData.int) (L := ns') (fun H' s' => SqL.of (s' _ _ hS18)) (fun k => signD ((lookA m1 k).getD 0)) (rpl_ints _ _) hD (by omega) ?_ ?_
      · intro b x H' Q' hb rb s' hQ
        unfold Rp at rb
        subst rb
        have hb' : b ∈ m1.map (·.1) := by
          rw [hns] at hb
          exact (sortI_perm _).mem_iff.mp hb
        obtain ⟨y, ey, _⟩ := lookA_mem hb'
        have hok := cm1.ok b y ey
        have ea : atI (S cs).cps.toList b = some y := by
          have h1 := atI_nat (xs := cs) (j := b.toNat) (v := y) hok.2.2
          rw [show ((b.toNat : Nat) : Int) = b by omega] at h1
          exact h1
        refine ⟨_, rfl, _, rfl, S cs, b, y, rfl, rfl, hcs, ea, hQ _ _ (L2.Same.refl _) ?_⟩
        rw [ey]
        exact Rp.str
      intro H19 ys s19 hD19 rD19
      have ey := signs_of (K := K) (fun k => (lookA m1 k).getD 0) ns' ys rD19
      subst ey
      have etx : ns'.map (fun k => (lookA m1 k).getD 0) = textOf m1 := by rw [hns]; rfl
      rw [etx] at hD19
      have ltx : (textOf m1).length = m1.length := by
        unfold textOf
        rw [List.length_map, (sortI_perm _).length_eq, List.length_map]
      refine ⟨_, D, (textOf m1).map fun c => S [c], rfl, rfl, .inl (SqL.of hD19), ?_, ?_⟩
      · rw [sum_signs, List.length_map, ltx]
        show m1.length + m1.length * 0 ≤ _
        omega
      rw [show (Txt.join (Str.ofString "") ((textOf m1).map fun c => S [c])) = S (textOf m1) from join_signs _]
      refine ⟨rfl, _, rfl, iteNS rfl ?_⟩
      have s1619 := (s17.trans s18).trans s19
      have hH19 := hH16.same s1619
      obtain ⟨⟨dx19, hp19⟩, _⟩ := id hH19
      -- twin
      refine ⟨_, rfl, hp, dx19, _, rfl, hp19, hf_ne (by decide +kernel) (by decide +kernel), hp, q, _, m1, rfl, hH19, fun H20 tp tq ntp ntq s20 hT20 => ?_⟩
      have s1620 := s1619.trans s20
      have hH20 := hH16.same s1620
      have hx20 := s1620 _ _ hx16
      have rx20 := RpL.tk (TK.of s1620) _ _ rx16
      have hka20 := s1620 _ _ hka16
      have D20 := D16.same s1620
      -- heaped with the others
      refine ⟨_, rfl, _, cs.length, rfl, lenR _, _, rfl, _, rfl, _, rfl, pa, xs, rfl, SqL.of hx20, fun pc npc => ?_⟩
      rw [cutV_from]
      have s21 : Same H20 (upd H20 pc (.lst (xs.drop at'))) := (L2.Same.refl _).new npc
      have hpc21 : LstAt K (upd H20 pc (.lst (xs.drop at'))) pc ((ps.drop at').map partD) := ⟨_, upd_same, by rw [List.map_drop]; exact RpL.drop _ (RpL.tk (TK.of s21) _ _ rx20)⟩
      generalize upd H20 pc (.lst (xs.drop at')) = H21 at s21 hpc21
      refine ⟨_, rfl, _, rfl, ka, _, rfl, .inl (SqL.of (s21 _ _ hka20)), fun kb nkb => ?_⟩
      have s22 : Same H21 (upd H21 kb (.lst (ks1.map V.int))) := (L2.Same.refl _).new nkb
      have hkb22 : upd H21 kb (.lst (ks1.map V.int)) kb = some (.lst (ks1.map V.int)) := upd_same
      have ncb : pc ≠ kb := ne_of_none hpc21.lst.choose_spec nkb
      have nab : ka ≠ kb := ne_of_none (s21 _ _ hka20) nkb
      have npb' : pa ≠ kb := ne_of_none (s21 _ _ hx20) nkb
      have ndb : d ≠ kb := ne_of_none (s21 _ _ D20.lst.choose_spec) nkb
      have nfb : f ≠ kb := ne_of_none (s21 _ _ D20.lst2.choose_spec) nkb
      generalize upd H21 kb (.lst (ks1.map V.int)) = H22 at s22 hkb22
      have s2022 := s21.trans s22
      have hH22 := hH20.same s2022
      have hT22 := hT20.same s2022
      obtain ⟨⟨dxt, htp22⟩, kvt, htq22, _⟩ := id hT22
      obtain ⟨_, kvh, hhq22, _⟩ := id hH22
      have nqq : tq ≠ q := by
        obtain ⟨_, kv, hq19, _⟩ := id hH19
        exact (ne_of_none hq19 ntq).symm
      refine ⟨pc, hp, q, kb, cs, ps.drop at', m1, ks1, rfl, hpc21.same s22, fun p hp' => cov.1 p (List.mem_of_mem_drop hp'), hH22, hkb22, hM1, cm1, ncb, by omega, fun H23 m2 ks2 k23 hH23 hkb23 hM2 cm2 cov2 t23 => ?_⟩
      refine ⟨_, rfl, iteF ?_⟩
      have all2 : ∀ j : Nat, j < cs.length → (lookA m2 (j : Int)).isSome = true := fun j hj => by
        rw [cov2, cov1]
        obtain ⟨p, hp', hj'⟩ := cov.2 j hj
        rw [← List.take_append_drop at' ps] at hp'
        rcases List.mem_append.mp hp' with h | h
        · exact .inl (.inr ⟨p, h, hj'⟩)
        · exact .inr ⟨p, h, hj'⟩
      have ka_ne_q : ka ≠ q := ne_of (s2022 _ _ hka20) hhq22 (by intro z; cases z)
      have hka23 := k23 _ _ (nin2 ka_ne_q nab) (s2022 _ _ hka20)
      have hT23 : HeapAt K C H23 tp tq cs.length m1 := hT22.kp k23 t23 (nin2 (ne_of htp22 hhq22 (by intro z; cases z)) (ne_of htp22 hkb22 (by intro z; cases z))) (nin2 nqq (ne_of htq22 hkb22 (by intro z; cases z)))
      have hx22 := s2022 _ _ hx20
      have hx23 := k23 _ _ (nin2 (ne_of hx22 hhq22 (by intro z; cases z)) npb') hx22
      have rx23 := RpL.tk ((TK.of s2022).trans t23) _ _ rx20
      have D22 := D20.same s2022
      have D23 := D22.kp k23 (nin2 (ne_of D22.lst.choose_spec hhq22 (by intro z; cases z)) ndb) (nin2 (ne_of D22.lst2.choose_spec hhq22 (by intro z; cases z)) nfb)
      obtain ⟨⟨dxt23, htp23⟩, _⟩ := id hT23
      -- the twin's places
      refine ⟨_, rfl, tp, dxt23, _, rfl, htp23, hf_ne (by decide +kernel) (by decide +kernel), tp, tq, _, m1, rfl, hT23, fun H24 pv s24 rp24 => ?_⟩
      refine ⟨_, rfl, ka, ks1, rfl, SqL.of (s24 _ _ hka23), fun ns2 S2 perm2 rising2 hS2 => ?_⟩
      have hns2 : ns2 = sortI (m1.map (·.1)) := (sortI_eq perm2 rising2).trans (hM1.sort cm1)
      have s25 : Same H24 (upd H24 S2 (.lst (ns2.map V.int))) := (L2.Same.refl _).new hS2
      refine ⟨S2, _, rfl, .inl ⟨SqL.of upd_same, fun t2 nt2 => ?_⟩⟩
      have s26 := s25.new (o := .tup (ns2.map V.int)) nt2
      have rt2 : Rp K (upd (upd H24 S2 (.lst (ns2.map V.int))) t2 (.tup (ns2.map V.int))) (placesD m1) (.ref t2) := by
        unfold placesD
        refine Rp.tup upd_same ?_
        rw [hns2]
        exact rpl_ints _ _
      refine ⟨pv, .ref t2, _, rfl, Rp.tk (TK.of s26) _ _ rp24, rt2, dep_pl _, sz_pl _ (by omega), fun H27 s27 => ?_⟩
      refine ⟨_, rfl, iteF ?_⟩
      have s2327 := (s24.trans s26).trans s27
      have hH27 := hH23.same s2327
      obtain ⟨⟨dx27, hp27⟩, _⟩ := id hH27
      have lm2 := cm2.len
      -- whole, text, put together
      refine ⟨_, rfl, hp, dx27, _, rfl, hp27, hf_ne (by decide +kernel) (by decide +kernel), hp, q, _, m2, rfl, hH27, _, rfl, ?_⟩
      rw [show decide ((m2.length : Int) = (cs.length : Int)) = true from decide_eq_true (by rw [cm2.all all2])]
      refine iteF ?_
      refine ⟨_, rfl, hp, dx27, _, rfl, hp27, hf_ne (by decide +kernel) (by decide +kernel), hp, q, _, m2, rfl, hH27, by omega, fun H28 s28 => ?_⟩
      rw [cm2.full all2]
      refine ⟨_, rfl, rfl, _, rfl, ?_⟩
      refine iteNS rfl ?_
      have s2328 := s2327.trans s28
      refine ⟨_, rfl, _, cs.length, rfl, lenR _, _, rfl, pa, xs, rfl, .inl ⟨SqL.of (s2328 _ _ hx23), fun t3 nt3 => ?_⟩⟩
      have s29 : Same H28 (upd H28 t3 (.tup xs)) := (L2.Same.refl _).new nt3
      have rt3 : Rp K (upd H28 t3 (.tup xs)) (.tuple (ps.map partD)) (.ref t3) := Rp.tup upd_same (RpL.tk (TK.of (s2328.trans s29)) _ _ rx23)
      refine ⟨cs, .ref t3, ps, rfl, rt3, cov.good, by omega, fun H30 s30 => ?_⟩
      refine ⟨_, rfl, rfl, _, rfl, ?_⟩
      refine iteNS rfl ?_
      have s2330 := (s2328.trans s29).trans s30
      have hx30 := s2330 _ _ hx23
      have rx30 := RpL.tk (TK.of s2330) _ _ rx23
      have hka30 := s2330 _ _ hka23
      have hT30 := hT23.same s2330
      have D30 := D23.same s2330
      -- the twin goes on
      refine ⟨_, rfl, _, cs.length, rfl, lenR _, _, rfl, _, rfl, _, rfl, pa, xs, rfl, SqL.of hx30, fun pe npe => ?_⟩
      rw [cutV_from]
      have s31 : Same H30 (upd H30 pe (.lst (xs.drop at'))) := (L2.Same.refl _).new npe
      have hpe31 : LstAt K (upd H30 pe (.lst (xs.drop at'))) pe ((ps.drop at').map partD) := ⟨_, upd_same, by rw [List.map_drop]; exact RpL.drop _ (RpL.tk (TK.of s31) _ _ rx30)⟩
      have nea : pe ≠ ka := (ne_of_none hka30 npe).symm
      generalize upd H30 pe (.lst (xs.drop at')) = H31 at s31 hpe31
      have hT31 := hT30.same s31
      obtain ⟨_, kvt31, htq31, _⟩ := id hT31
      refine ⟨_, rfl, _, rfl, pe, tp, tq, ka, cs, ps.drop at', m1, ks1, rfl, hpe31, fun p hp' => cov.1 p (List.mem_of_mem_drop hp'), hT31, s31 _ _ hka30, hM1, cm1, nea, by omega, fun H32 m3 ks3 k32 hT32 hka32 hM3 cm3 cov3 t32 => ?_⟩
      refine ⟨_, rfl, iteF ?_⟩
      have all3 : ∀ j : Nat, j < cs.length → (lookA m3 (j : Int)).isSome = true := fun j hj => by
        rw [cov3, cov1]
        obtain ⟨p, hp', hj'⟩ := cov.2 j hj
        rw [← List.take_append_drop at' ps] at hp'
        rcases List.mem_append.mp hp' with h | h
        · exact .inl (.inr ⟨p, h, hj'⟩)
        · exact .inr ⟨p, h, hj'⟩
      have D31 := D30.same s31
      have D32 := D31.kp k32 (nin2 (ne_of D31.lst.choose_spec htq31 (by intro z; cases z)) nkd) (nin2 (ne_of D31.lst2.choose_spec htq31 (by intro z; cases z)) nkf)
      obtain ⟨⟨dxt32, htp32⟩, _⟩ := id hT32
      have lm3 := cm3.len
      refine ⟨_, rfl, tp, dxt32, _, rfl, htp32, hf_ne (by decide +kernel) (by decide +kernel), tp, tq, _, m3, rfl, hT32, by omega, fun H33 s33 => ?_⟩
      rw [cm3.full all3]
      refine ⟨_, rfl, rfl, _, rfl, ?_⟩
      refine iteNS rfl ?_
      exact ⟨_, _, _, _, _, _, _, _, rfl, (D32.same s33).mono (by omega)⟩
    · rintro σ H2 ⟨v2, v3, v4, v5, v6, v7, v8, v9, rfl, D2⟩
      exact k _
end
end Wn

namespace Wn
open PySem L2
theorem all_mk {l : PySem.W.OpenLaw} {w : World} {K : PySem.W.Frag} {h : Heap} {mg : Str → Option Value} {fa C_Heap f_Heap_init f_Heap_add f_Heap_places f_Heap_is_whole f_Heap_text f_Heap_copy f_cut f_put_together f_law_mixed f_law_deck f_law_next f_law_same f_law_sign f_law_text f_law_turned f_law_narrowed f_law_heaped f_law : Addr} (X : K.In h) (G : h.Ns mainGlobals mg) (hfa : mg "law" = some (.ref fa))
    {od_Heap_init an_Heap_init od_Heap_add an_Heap_add od_Heap_places an_Heap_places od_Heap_is_whole an_Heap_is_whole od_Heap_text an_Heap_text od_Heap_copy an_Heap_copy od_cut an_cut od_put_together an_put_together od_law_mixed an_law_mixed od_law_deck an_law_deck od_law_next an_law_next od_law_same an_law_same od_law_sign an_law_sign od_law_text an_law_text od_law_turned an_law_turned od_law_narrowed an_law_narrowed od_law_heaped an_law_heaped od_law an_law : Option Addr} {sl_Heap_init sl_Heap_add sl_Heap_places sl_Heap_is_whole sl_Heap_text sl_Heap_copy sl_cut sl_put_together sl_law_mixed sl_law_deck sl_law_next sl_law_same sl_law_sign sl_law_text sl_law_turned sl_law_narrowed sl_law_heaped sl_law : Array (Option Value)} {oc_Heap_init kV_Heap_init dc_Heap_init pm_Heap_init cd_Heap_init ct_Heap_init oc_Heap_add kV_Heap_add dc_Heap_add pm_Heap_add cd_Heap_add ct_Heap_add oc_Heap_places kV_Heap_places dc_Heap_places pm_Heap_places cd_Heap_places ct_Heap_places oc_Heap_is_whole kV_Heap_is_whole dc_Heap_is_whole pm_Heap_is_whole cd_Heap_is_whole ct_Heap_is_whole oc_Heap_text kV_Heap_text dc_Heap_text pm_Heap_text cd_Heap_text ct_Heap_text oc_Heap_copy kV_Heap_copy dc_Heap_copy pm_Heap_copy cd_Heap_copy ct_Heap_copy oc_cut kV_cut dc_cut pm_cut cd_cut ct_cut oc_put_together kV_put_together dc_put_together pm_put_together cd_put_together ct_put_together oc_law_mixed kV_law_mixed dc_law_mixed pm_law_mixed cd_law_mixed ct_law_mixed oc_law_deck kV_law_deck dc_law_deck pm_law_deck cd_law_deck ct_law_deck oc_law_next kV_law_next dc_law_next pm_law_next cd_law_next ct_law_next oc_law_same kV_law_same dc_law_same pm_law_same cd_law_same ct_law_same oc_law_sign kV_law_sign dc_law_sign pm_law_sign cd_law_sign ct_law_sign oc_law_text kV_law_text dc_law_text pm_law_text cd_law_text ct_law_text oc_law_turned kV_law_turned dc_law_turned pm_law_turned cd_law_turned ct_law_turned oc_law_narrowed kV_law_narrowed dc_law_narrowed pm_law_narrowed cd_law_narrowed ct_law_narrowed oc_law_heaped kV_law_heaped dc_law_heaped pm_law_heaped cd_law_heaped ct_law_heaped oc_law kV_law dc_law pm_law cd_law ct_law : Value}
    (a_C_Heap : PySem.W.nsIn K mainGlobals "Heap" = some (some (.ref C_Heap)))
    (pg_C_Heap : PySem.W.plainGet K C_Heap Str.empty = true)
    (hd_C_Heap : PySem.W.hasDictIn K C_Heap = true)
    (po_C_Heap : PySem.W.plainOver K C_Heap = true)
    (sa_C_Heap : PySem.W.findIn K (.ref C_Heap) "__setattr__" = some (some (.builtin "object.__setattr__")))
    (mk_C_Heap : PySem.W.makesIn K C_Heap = true)
    (kc_C_Heap : PySem.W.keepIn K (.ref C_Heap) = true)
    (n_C_Heap_many : PySem.W.findIn K (.ref C_Heap) "many" = some none)
    (n_C_Heap_signs : PySem.W.findIn K (.ref C_Heap) "signs" = some none)
    (a_Heap_init : PySem.W.findIn K (.ref C_Heap) "__init__" = some (some (.ref f_Heap_init)))
    (i_Heap_init : PySem.W.isFn K (.ref f_Heap_init) = true)
    (l_Heap_init : K.lookup f_Heap_init = some ⟨oc_Heap_init, od_Heap_init, .func (PySem.W.fnOf "__init__" "Heap.__init__" (defArgs sHInit) (defBody sHInit) (defScope sHInit) .none kV_Heap_init dc_Heap_init pm_Heap_init an_Heap_init cd_Heap_init ct_Heap_init), sl_Heap_init⟩)
    (c_Heap_init : PySem.W.codeIn K cd_Heap_init "Heap.__init__" = true)
    (k_Heap_init : PySem.W.keepIn K (.ref f_Heap_init) = true)
    (a_Heap_add : PySem.W.findIn K (.ref C_Heap) "add" = some (some (.ref f_Heap_add)))
    (i_Heap_add : PySem.W.isFn K (.ref f_Heap_add) = true)
    (l_Heap_add : K.lookup f_Heap_add = some ⟨oc_Heap_add, od_Heap_add, .func (PySem.W.fnOf "add" "Heap.add" (defArgs sHAdd) (defBody sHAdd) (defScope sHAdd) .none kV_Heap_add dc_Heap_add pm_Heap_add an_Heap_add cd_Heap_add ct_Heap_add), sl_Heap_add⟩)
    (c_Heap_add : PySem.W.codeIn K cd_Heap_add "Heap.add" = true)
    (k_Heap_add : PySem.W.keepIn K (.ref f_Heap_add) = true)
    (a_Heap_places : PySem.W.findIn K (.ref C_Heap) "places" = some (some (.ref f_Heap_places)))
    (i_Heap_places : PySem.W.isFn K (.ref f_Heap_places) = true)
    (l_Heap_places : K.lookup f_Heap_places = some ⟨oc_Heap_places, od_Heap_places, .func (PySem.W.fnOf "places" "Heap.places" (defArgs sHPlaces) (defBody sHPlaces) (defScope sHPlaces) .none kV_Heap_places dc_Heap_places pm_Heap_places an_Heap_places cd_Heap_places ct_Heap_places), sl_Heap_places⟩)
    (c_Heap_places : PySem.W.codeIn K cd_Heap_places "Heap.places" = true)
    (k_Heap_places : PySem.W.keepIn K (.ref f_Heap_places) = true)
    (a_Heap_is_whole : PySem.W.findIn K (.ref C_Heap) "is_whole" = some (some (.ref f_Heap_is_whole)))
    (i_Heap_is_whole : PySem.W.isFn K (.ref f_Heap_is_whole) = true)
    (l_Heap_is_whole : K.lookup f_Heap_is_whole = some ⟨oc_Heap_is_whole, od_Heap_is_whole, .func (PySem.W.fnOf "is_whole" "Heap.is_whole" (defArgs sHIs) (defBody sHIs) (defScope sHIs) .none kV_Heap_is_whole dc_Heap_is_whole pm_Heap_is_whole an_Heap_is_whole cd_Heap_is_whole ct_Heap_is_whole), sl_Heap_is_whole⟩)
    (c_Heap_is_whole : PySem.W.codeIn K cd_Heap_is_whole "Heap.is_whole" = true)
    (k_Heap_is_whole : PySem.W.keepIn K (.ref f_Heap_is_whole) = true)
    (a_Heap_text : PySem.W.findIn K (.ref C_Heap) "text" = some (some (.ref f_Heap_text)))
    (i_Heap_text : PySem.W.isFn K (.ref f_Heap_text) = true)
    (l_Heap_text : K.lookup f_Heap_text = some ⟨oc_Heap_text, od_Heap_text, .func (PySem.W.fnOf "text" "Heap.text" (defArgs sHText) (defBody sHText) (defScope sHText) .none kV_Heap_text dc_Heap_text pm_Heap_text an_Heap_text cd_Heap_text ct_Heap_text), sl_Heap_text⟩)
    (c_Heap_text : PySem.W.codeIn K cd_Heap_text "Heap.text" = true)
    (k_Heap_text : PySem.W.keepIn K (.ref f_Heap_text) = true)
    (a_Heap_copy : PySem.W.findIn K (.ref C_Heap) "copy" = some (some (.ref f_Heap_copy)))
    (i_Heap_copy : PySem.W.isFn K (.ref f_Heap_copy) = true)
    (l_Heap_copy : K.lookup f_Heap_copy = some ⟨oc_Heap_copy, od_Heap_copy, .func (PySem.W.fnOf "copy" "Heap.copy" (defArgs sHCopy) (defBody sHCopy) (defScope sHCopy) .none kV_Heap_copy dc_Heap_copy pm_Heap_copy an_Heap_copy cd_Heap_copy ct_Heap_copy), sl_Heap_copy⟩)
    (c_Heap_copy : PySem.W.codeIn K cd_Heap_copy "Heap.copy" = true)
    (k_Heap_copy : PySem.W.keepIn K (.ref f_Heap_copy) = true)
    (a_cut : PySem.W.nsIn K mainGlobals "cut" = some (some (.ref f_cut)))
    (l_cut : K.lookup f_cut = some ⟨oc_cut, od_cut, .func (PySem.W.fnOf "cut" "cut" (defArgs sCut) (defBody sCut) (defScope sCut) .none kV_cut dc_cut pm_cut an_cut cd_cut ct_cut), sl_cut⟩)
    (c_cut : PySem.W.codeIn K cd_cut "cut" = true)
    (k_cut : PySem.W.keepIn K (.ref f_cut) = true)
    (a_put_together : PySem.W.nsIn K mainGlobals "put_together" = some (some (.ref f_put_together)))
    (l_put_together : K.lookup f_put_together = some ⟨oc_put_together, od_put_together, .func (PySem.W.fnOf "put_together" "put_together" (defArgs sPut) (defBody sPut) (defScope sPut) .none kV_put_together dc_put_together pm_put_together an_put_together cd_put_together ct_put_together), sl_put_together⟩)
    (c_put_together : PySem.W.codeIn K cd_put_together "put_together" = true)
    (k_put_together : PySem.W.keepIn K (.ref f_put_together) = true)
    (a_law_mixed : PySem.W.nsIn K mainGlobals "_law_mixed" = some (some (.ref f_law_mixed)))
    (l_law_mixed : K.lookup f_law_mixed = some ⟨oc_law_mixed, od_law_mixed, .func (PySem.W.fnOf "_law_mixed" "_law_mixed" (defArgs sMixed) (defBody sMixed) (defScope sMixed) .none kV_law_mixed dc_law_mixed pm_law_mixed an_law_mixed cd_law_mixed ct_law_mixed), sl_law_mixed⟩)
    (c_law_mixed : PySem.W.codeIn K cd_law_mixed "_law_mixed" = true)
    (k_law_mixed : PySem.W.keepIn K (.ref f_law_mixed) = true)
    (a_law_deck : PySem.W.nsIn K mainGlobals "_law_deck" = some (some (.ref f_law_deck)))
    (l_law_deck : K.lookup f_law_deck = some ⟨oc_law_deck, od_law_deck, .func (PySem.W.fnOf "_law_deck" "_law_deck" (defArgs sDeck) (defBody sDeck) (defScope sDeck) .none kV_law_deck dc_law_deck pm_law_deck an_law_deck cd_law_deck ct_law_deck), sl_law_deck⟩)
    (c_law_deck : PySem.W.codeIn K cd_law_deck "_law_deck" = true)
    (k_law_deck : PySem.W.keepIn K (.ref f_law_deck) = true)
    (a_law_next : PySem.W.nsIn K mainGlobals "_law_next" = some (some (.ref f_law_next)))
    (l_law_next : K.lookup f_law_next = some ⟨oc_law_next, od_law_next, .func (PySem.W.fnOf "_law_next" "_law_next" (defArgs sNext) (defBody sNext) (defScope sNext) .none kV_law_next dc_law_next pm_law_next an_law_next cd_law_next ct_law_next), sl_law_next⟩)
    (c_law_next : PySem.W.codeIn K cd_law_next "_law_next" = true)
    (k_law_next : PySem.W.keepIn K (.ref f_law_next) = true)
    (a_law_same : PySem.W.nsIn K mainGlobals "_law_same" = some (some (.ref f_law_same)))
    (l_law_same : K.lookup f_law_same = some ⟨oc_law_same, od_law_same, .func (PySem.W.fnOf "_law_same" "_law_same" (defArgs sSame) (defBody sSame) (defScope sSame) .none kV_law_same dc_law_same pm_law_same an_law_same cd_law_same ct_law_same), sl_law_same⟩)
    (c_law_same : PySem.W.codeIn K cd_law_same "_law_same" = true)
    (k_law_same : PySem.W.keepIn K (.ref f_law_same) = true)
    (a_law_sign : PySem.W.nsIn K mainGlobals "_law_sign" = some (some (.ref f_law_sign)))
    (l_law_sign : K.lookup f_law_sign = some ⟨oc_law_sign, od_law_sign, .func (PySem.W.fnOf "_law_sign" "_law_sign" (defArgs sSign) (defBody sSign) (defScope sSign) .none kV_law_sign dc_law_sign pm_law_sign an_law_sign cd_law_sign ct_law_sign), sl_law_sign⟩)
    (c_law_sign : PySem.W.codeIn K cd_law_sign "_law_sign" = true)
    (k_law_sign : PySem.W.keepIn K (.ref f_law_sign) = true)
    (a_law_text : PySem.W.nsIn K mainGlobals "_law_text" = some (some (.ref f_law_text)))
    (l_law_text : K.lookup f_law_text = some ⟨oc_law_text, od_law_text, .func (PySem.W.fnOf "_law_text" "_law_text" (defArgs sText) (defBody sText) (defScope sText) .none kV_law_text dc_law_text pm_law_text an_law_text cd_law_text ct_law_text), sl_law_text⟩)
    (c_law_text : PySem.W.codeIn K cd_law_text "_law_text" = true)
    (k_law_text : PySem.W.keepIn K (.ref f_law_text) = true)
    (a_law_turned : PySem.W.nsIn K mainGlobals "_law_turned" = some (some (.ref f_law_turned)))
    (l_law_turned : K.lookup f_law_turned = some ⟨oc_law_turned, od_law_turned, .func (PySem.W.fnOf "_law_turned" "_law_turned" (defArgs sTurned) (defBody sTurned) (defScope sTurned) .none kV_law_turned dc_law_turned pm_law_turned an_law_turned cd_law_turned ct_law_turned), sl_law_turned⟩)
    (c_law_turned : PySem.W.codeIn K cd_law_turned "_law_turned" = true)
    (k_law_turned : PySem.W.keepIn K (.ref f_law_turned) = true)
    (a_law_narrowed : PySem.W.nsIn K mainGlobals "_law_narrowed" = some (some (.ref f_law_narrowed)))
    (l_law_narrowed : K.lookup f_law_narrowed = some ⟨oc_law_narrowed, od_law_narrowed, .func (PySem.W.fnOf "_law_narrowed" "_law_narrowed" (defArgs sNarrowed) (defBody sNarrowed) (defScope sNarrowed) .none kV_law_narrowed dc_law_narrowed pm_law_narrowed an_law_narrowed cd_law_narrowed ct_law_narrowed), sl_law_narrowed⟩)
    (c_law_narrowed : PySem.W.codeIn K cd_law_narrowed "_law_narrowed" = true)
    (k_law_narrowed : PySem.W.keepIn K (.ref f_law_narrowed) = true)
    (a_law_heaped : PySem.W.nsIn K mainGlobals "_law_heaped" = some (some (.ref f_law_heaped)))
    (l_law_heaped : K.lookup f_law_heaped = some ⟨oc_law_heaped, od_law_heaped, .func (PySem.W.fnOf "_law_heaped" "_law_heaped" (defArgs sHeaped) (defBody sHeaped) (defScope sHeaped) .none kV_law_heaped dc_law_heaped pm_law_heaped an_law_heaped cd_law_heaped ct_law_heaped), sl_law_heaped⟩)
    (c_law_heaped : PySem.W.codeIn K cd_law_heaped "_law_heaped" = true)
    (k_law_heaped : PySem.W.keepIn K (.ref f_law_heaped) = true)
    (a_law : PySem.W.nsIn K mainGlobals "law" = some (some (.ref f_law)))
    (l_law : K.lookup f_law = some ⟨oc_law, od_law, .func (PySem.W.fnOf "law" "law" (defArgs sLaw) (defBody sLaw) (defScope sLaw) .none kV_law dc_law pm_law an_law cd_law ct_law), sl_law⟩)
    (c_law : PySem.W.codeIn K cd_law "law" = true)
    (k_law : PySem.W.keepIn K (.ref f_law) = true)
    (z_len : PySem.W.nsIn K mainGlobals "len" = some none)
    (z_range : PySem.W.nsIn K mainGlobals "range" = some none)
    (z_min : PySem.W.nsIn K mainGlobals "min" = some none)
    (z_isinstance : PySem.W.nsIn K mainGlobals "isinstance" = some none)
    (z_tuple : PySem.W.nsIn K mainGlobals "tuple" = some none)
    (z_bool : PySem.W.nsIn K mainGlobals "bool" = some none)
    (z_str : PySem.W.nsIn K mainGlobals "str" = some none)
    (z_int : PySem.W.nsIn K mainGlobals "int" = some none)
    (z_all : PySem.W.nsIn K mainGlobals "all" = some none)
    (z_enumerate : PySem.W.nsIn K mainGlobals "enumerate" = some none)
    (z_list : PySem.W.nsIn K mainGlobals "list" = some none)
    (z_dict : PySem.W.nsIn K mainGlobals "dict" = some none)
    (z_sorted : PySem.W.nsIn K mainGlobals "sorted" = some none) :
    ∃ fd : FuncData, (∀ (s : Shared) (v : Value), BindsTo s fd ⟨[v], []⟩ [("_law_script", v)]) ∧ ∀ base : Heap, K.In base → base.Ns mainGlobals mg → FnOk l.prog w K mg base CX0 5 fa fd ["_law_script"] (spLaw K) := by
  have e := hfa.symm.trans (PySem.W.mg_of X G a_law)
  cases e
  have m_C_Heap := PySem.W.mg_of X G a_C_Heap
  have cl_C_Heap : Cls K C_Heap := ⟨pg_C_Heap, hd_C_Heap, po_C_Heap, sa_C_Heap⟩
  have F_Heap_init := fun_mk (st := sHInit) l_Heap_init c_Heap_init k_Heap_init
  have b_Heap_init := F_Heap_init.binds (ps := ["self", "whole"]) fun _ _ _ _ _ _ us hl => match us, hl with | [_, _], _ => rfl
  have M_Heap_init : Meth K C_Heap "__init__" f_Heap_init := ⟨a_Heap_init, i_Heap_init, k_Heap_init⟩
  have F_Heap_add := fun_mk (st := sHAdd) l_Heap_add c_Heap_add k_Heap_add
  have b_Heap_add := F_Heap_add.binds (ps := ["self", "first", "signs"]) fun _ _ _ _ _ _ us hl => match us, hl with | [_, _, _], _ => rfl
  have M_Heap_add : Meth K C_Heap "add" f_Heap_add := ⟨a_Heap_add, i_Heap_add, k_Heap_add⟩
  have F_Heap_places := fun_mk (st := sHPlaces) l_Heap_places c_Heap_places k_Heap_places
  have b_Heap_places := F_Heap_places.binds (ps := ["self"]) fun _ _ _ _ _ _ us hl => match us, hl with | [_], _ => rfl
  have M_Heap_places : Meth K C_Heap "places" f_Heap_places := ⟨a_Heap_places, i_Heap_places, k_Heap_places⟩
  have F_Heap_is_whole := fun_mk (st := sHIs) l_Heap_is_whole c_Heap_is_whole k_Heap_is_whole
  have b_Heap_is_whole := F_Heap_is_whole.binds (ps := ["self"]) fun _ _ _ _ _ _ us hl => match us, hl with | [_], _ => rfl
  have M_Heap_is_whole : Meth K C_Heap "is_whole" f_Heap_is_whole := ⟨a_Heap_is_whole, i_Heap_is_whole, k_Heap_is_whole⟩
  have F_Heap_text := fun_mk (st := sHText) l_Heap_text c_Heap_text k_Heap_text
  have b_Heap_text := F_Heap_text.binds (ps := ["self"]) fun _ _ _ _ _ _ us hl => match us, hl with | [_], _ => rfl
  have M_Heap_text : Meth K C_Heap "text" f_Heap_text := ⟨a_Heap_text, i_Heap_text, k_Heap_text⟩
  have F_Heap_copy := fun_mk (st := sHCopy) l_Heap_copy c_Heap_copy k_Heap_copy
  have b_Heap_copy := F_Heap_copy.binds (ps := ["self"]) fun _ _ _ _ _ _ us hl => match us, hl with | [_], _ => rfl
  have M_Heap_copy : Meth K C_Heap "copy" f_Heap_copy := ⟨a_Heap_copy, i_Heap_copy, k_Heap_copy⟩
  have F_cut := fun_mk (st := sCut) l_cut c_cut k_cut
  have b_cut := F_cut.binds (ps := ["text", "size"]) fun _ _ _ _ _ _ us hl => match us, hl with | [_, _], _ => rfl
  have m_cut := PySem.W.mg_of X G a_cut
  have F_put_together := fun_mk (st := sPut) l_put_together c_put_together k_put_together
  have b_put_together := F_put_together.binds (ps := ["whole", "parts"]) fun _ _ _ _ _ _ us hl => match us, hl with | [_, _], _ => rfl
  have m_put_together := PySem.W.mg_of X G a_put_together
  have F_law_mixed := fun_mk (st := sMixed) l_law_mixed c_law_mixed k_law_mixed
  have b_law_mixed := F_law_mixed.binds (ps := ["_law_cell", "_law_at"]) fun _ _ _ _ _ _ us hl => match us, hl with | [_, _], _ => rfl
  have m_law_mixed := PySem.W.mg_of X G a_law_mixed
  have F_law_deck := fun_mk (st := sDeck) l_law_deck c_law_deck k_law_deck
  have b_law_deck := F_law_deck.binds (ps := ["_law_script"]) fun _ _ _ _ _ _ us hl => match us, hl with | [_], _ => rfl
  have m_law_deck := PySem.W.mg_of X G a_law_deck
  have F_law_next := fun_mk (st := sNext) l_law_next c_law_next k_law_next
  have b_law_next := F_law_next.binds (ps := ["_law_deck_here", "_law_many"]) fun _ _ _ _ _ _ us hl => match us, hl with | [_, _], _ => rfl
  have m_law_next := PySem.W.mg_of X G a_law_next
  have F_law_same := fun_mk (st := sSame) l_law_same c_law_same k_law_same
  have b_law_same := F_law_same.binds (ps := ["_law_thing", "_law_due"]) fun _ _ _ _ _ _ us hl => match us, hl with | [_, _], _ => rfl
  have m_law_same := PySem.W.mg_of X G a_law_same
  have F_law_sign := fun_mk (st := sSign) l_law_sign c_law_sign k_law_sign
  have b_law_sign := F_law_sign.binds (ps := ["_law_deck_here"]) fun _ _ _ _ _ _ us hl => match us, hl with | [_], _ => rfl
  have m_law_sign := PySem.W.mg_of X G a_law_sign
  have F_law_text := fun_mk (st := sText) l_law_text c_law_text k_law_text
  have b_law_text := F_law_text.binds (ps := ["_law_deck_here", "_law_most"]) fun _ _ _ _ _ _ us hl => match us, hl with | [_, _], _ => rfl
  have m_law_text := PySem.W.mg_of X G a_law_text
  have F_law_turned := fun_mk (st := sTurned) l_law_turned c_law_turned k_law_turned
  have b_law_turned := F_law_turned.binds (ps := ["_law_deck_here", "_law_rows"]) fun _ _ _ _ _ _ us hl => match us, hl with | [_, _], _ => rfl
  have m_law_turned := PySem.W.mg_of X G a_law_turned
  have F_law_narrowed := fun_mk (st := sNarrowed) l_law_narrowed c_law_narrowed k_law_narrowed
  have b_law_narrowed := F_law_narrowed.binds (ps := ["_law_deck_here", "_law_parts"]) fun _ _ _ _ _ _ us hl => match us, hl with | [_, _], _ => rfl
  have m_law_narrowed := PySem.W.mg_of X G a_law_narrowed
  have F_law_heaped := fun_mk (st := sHeaped) l_law_heaped c_law_heaped k_law_heaped
  have b_law_heaped := F_law_heaped.binds (ps := ["_law_whole", "_law_parts", "_law_heap", "_law_known"]) fun _ _ _ _ _ _ us hl => match us, hl with | [_, _, _, _], _ => rfl
  have m_law_heaped := PySem.W.mg_of X G a_law_heaped
  have F_law := fun_mk (st := sLaw) l_law c_law k_law
  have b_law := F_law.binds (ps := ["_law_script"]) fun _ _ _ _ _ _ us hl => match us, hl with | [_], _ => rfl
  have n_len := PySem.W.mg_none_of X G z_len
  have n_range := PySem.W.mg_none_of X G z_range
  have n_min := PySem.W.mg_none_of X G z_min
  have n_isinstance := PySem.W.mg_none_of X G z_isinstance
  have n_tuple := PySem.W.mg_none_of X G z_tuple
  have n_bool := PySem.W.mg_none_of X G z_bool
  have n_str := PySem.W.mg_none_of X G z_str
  have n_int := PySem.W.mg_none_of X G z_int
  have n_all := PySem.W.mg_none_of X G z_all
  have n_enumerate := PySem.W.mg_none_of X G z_enumerate
  have n_list := PySem.W.mg_none_of X G z_list
  have n_dict := PySem.W.mg_none_of X G z_dict
  have n_sorted := PySem.W.mg_none_of X G z_sorted
  refine ⟨PySem.W.fnOf "law" "law" (defArgs sLaw) (defBody sLaw) (defScope sLaw) .none kV_law dc_law pm_law an_law cd_law ct_law, fun s v => .of_eq rfl, fun base _ _ => ?_⟩
  have TBx : TB mg := ⟨n_tuple, n_len, n_range, n_enumerate, n_list, n_dict, n_sorted⟩
  have TX : TH K mg C_Heap := ⟨cl_C_Heap, n_C_Heap_many, n_C_Heap_signs, m_C_Heap⟩
  have B : SameB mg := ⟨n_isinstance, n_tuple, n_bool, n_str, n_int, n_all, n_len, n_range⟩
  have cM : Cd l.prog w K mg base 1 "_law_mixed" ["_law_cell", "_law_at"] spMixed := ⟨_, _, ok_mixed F_law_mixed, m_law_mixed, k_law_mixed, b_law_mixed⟩
  have cN : Cd l.prog w K mg base 2 "_law_next" ["_law_deck_here", "_law_many"] spNext := ⟨_, _, ok_next F_law_next n_len cM, m_law_next, k_law_next, b_law_next⟩
  have cD : Cd l.prog w K mg base 2 "_law_deck" ["_law_script"] (spDeck K) := ⟨_, _, ok_deck F_law_deck n_len n_range n_min cM, m_law_deck, k_law_deck, b_law_deck⟩
  have cS : Cd l.prog w K mg base 3 "_law_same" ["_law_thing", "_law_due"] (spSame K 3) := ⟨_, _, ok_same F_law_same B m_law_same k_law_same b_law_same 3, m_law_same, k_law_same, b_law_same⟩
  have cG : Cd l.prog w K mg base 3 "_law_sign" ["_law_deck_here"] spSign := ⟨_, _, ok_sign F_law_sign cN, m_law_sign, k_law_sign, b_law_sign⟩
  have cX : Cd l.prog w K mg base 4 "_law_text" ["_law_deck_here", "_law_most"] spText := ⟨_, _, ok_text F_law_text n_range cN cG, m_law_text, k_law_text, b_law_text⟩
  have cC : Cd l.prog w K mg base 1 "cut" ["text", "size"] (spCut K) := ⟨_, _, ok_cut F_cut TBx, m_cut, k_cut, b_cut⟩
  have cP : Cd l.prog w K mg base 1 "put_together" ["whole", "parts"] (spPut K) := ⟨_, _, ok_puttog F_put_together TBx, m_put_together, k_put_together, b_put_together⟩
  have cW : Cd l.prog w K mg base 3 "_law_narrowed" ["_law_deck_here", "_law_parts"] (spNarrowed K) := ⟨_, _, ok_narrowed F_law_narrowed cN cC, m_law_narrowed, k_law_narrowed, b_law_narrowed⟩
  have cT : Cd l.prog w K mg base 3 "_law_turned" ["_law_deck_here", "_law_rows"] (spTurned K) := ⟨_, _, ok_turned F_law_turned TBx cN, m_law_turned, k_law_turned, b_law_turned⟩
  have GI := ok_hinit (P := l.prog) (w := w) (base := base) F_Heap_init TX
  have MK : Mk K C_Heap f_Heap_init := ⟨mk_C_Heap, a_Heap_init, i_Heap_init, kc_C_Heap⟩
  have tL : Md l.prog w K mg base 1 C_Heap "places" ["self"] (spHPlaces K C_Heap) := ⟨_, _, ok_hplaces F_Heap_places TX TBx, M_Heap_places, b_Heap_places⟩
  have tH : Md l.prog w K mg base 1 C_Heap "is_whole" ["self"] (spHIs K C_Heap) := ⟨_, _, ok_his F_Heap_is_whole TX TBx, M_Heap_is_whole, b_Heap_is_whole⟩
  have tU : Md l.prog w K mg base 2 C_Heap "text" ["self"] (spHText K C_Heap) := ⟨_, _, ok_htext F_Heap_text TX TBx tL, M_Heap_text, b_Heap_text⟩
  have cE : Cd l.prog w K mg base 4 "_law_heaped" ["_law_whole", "_law_parts", "_law_heap", "_law_known"] (spHeaped K C_Heap) := ⟨_, _, ok_heaped F_law_heaped TX TBx cS ⟨_, _, ok_hadd F_Heap_add TX TBx, M_Heap_add, b_Heap_add⟩ tL tH, m_law_heaped, k_law_heaped, b_law_heaped⟩
  exact ok_law F_law TX TBx MK GI b_Heap_init cN cD cG cX cW cT cE cP cS ⟨_, _, ok_hcopy F_Heap_copy TX TBx MK GI b_Heap_init, M_Heap_copy, b_Heap_copy⟩ tL tH tU
theorem walk {l : PySem.W.OpenLaw} {q : Program} {loose : List Str} {XP : (Str → Option Value) → Heap → Prop} {YP : World → Heap → Prop} {d : DefRec} {K : Params → PySem.W.Frag} (hn : l.most = some 63) (hdf : d.params.defaults = [])
    (hY : ∀ (w : World) (h : Heap), YP w h → (K w.params).In h)
    (F : ∀ (w : World) (mg : Str → Option Value) (fa : Addr) (h : Heap), (K w.params).In h → h.Ns mainGlobals mg → mg d.name = some (.ref fa) →
      ∃ fd : FuncData, (∀ (s : Shared) (u : Value), BindsTo s fd ⟨[u], []⟩ [("_law_script", u)]) ∧ ∀ base : Heap, (K w.params).In base → base.Ns mainGlobals mg → FnOk l.prog w (K w.params) mg base CX0 5 fa fd ["_law_script"] (spLaw (K w.params))) :
    PySem.W.WalkO q loose XP YP l.row.toRowW d [] (fun f vs => PySem.call f vs) :=
  L2.walk_of (n := 63) (k := 5) (x := "_law_script") (CX := fun _ => CX0) (sp := fun w => spLaw (K w.params)) hn (by decide) hdf ⟨rfl, by decide, by decide⟩ hY F (fun _ _ a ns hl _ hS => ⟨a, ns, rfl, hS, hl, fun _ => rfl⟩) fun _ _ _ _ _ z => z
end Wn

open PySem PySem.W PyProof.Rows in
set_option maxRecDepth 100000 in
set_option maxHeartbeats 0 in
theorem PySem.Challenge.cw_wrapnets_k25_whole_cut_again_and_joined_holds : PySem.Challenge.rw_wrapnets_k25_whole_cut_again_and_joined.Holds := by
  w_on; o_law; k_head; (case hw => w_witness2)
  k_fill
  refine Wn.walk (l := PySem.Challenge.rw_wrapnets_k25_whole_cut_again_and_joined) rfl rfl (fun w h Y => PySem.W.kIn_of Y) ?F
  case F =>
    intro w mg fa h KX G hmg
    refine' Wn.all_mk KX G hmg ?a_C_Heap ?pg_C_Heap ?hd_C_Heap ?po_C_Heap ?sa_C_Heap ?mk_C_Heap ?kc_C_Heap ?n_C_Heap_many ?n_C_Heap_signs ?a_Heap_init ?i_Heap_init ?l_Heap_init ?c_Heap_init ?k_Heap_init ?a_Heap_add ?i_Heap_add ?l_Heap_add ?c_Heap_add ?k_Heap_add ?a_Heap_places ?i_Heap_places ?l_Heap_places ?c_Heap_places ?k_Heap_places ?a_Heap_is_whole ?i_Heap_is_whole ?l_Heap_is_whole ?c_Heap_is_whole ?k_Heap_is_whole ?a_Heap_text ?i_Heap_text ?l_Heap_text ?c_Heap_text ?k_Heap_text ?a_Heap_copy ?i_Heap_copy ?l_Heap_copy ?c_Heap_copy ?k_Heap_copy ?a_cut ?l_cut ?c_cut ?k_cut ?a_put_together ?l_put_together ?c_put_together ?k_put_together ?a_law_mixed ?l_law_mixed ?c_law_mixed ?k_law_mixed ?a_law_deck ?l_law_deck ?c_law_deck ?k_law_deck ?a_law_next ?l_law_next ?c_law_next ?k_law_next ?a_law_same ?l_law_same ?c_law_same ?k_law_same ?a_law_sign ?l_law_sign ?c_law_sign ?k_law_sign ?a_law_text ?l_law_text ?c_law_text ?k_law_text ?a_law_turned ?l_law_turned ?c_law_turned ?k_law_turned ?a_law_narrowed ?l_law_narrowed ?c_law_narrowed ?k_law_narrowed ?a_law_heaped ?l_law_heaped ?c_law_heaped ?k_law_heaped ?a_law ?l_law ?c_law ?k_law ?z_len ?z_range ?z_min ?z_isinstance ?z_tuple ?z_bool ?z_str ?z_int ?z_all ?z_enumerate ?z_list ?z_dict ?z_sorted
    (case a_C_Heap => k_is)
    (case pg_C_Heap => k_is)
    (case hd_C_Heap => k_is)
    (case po_C_Heap => k_is)
    (case sa_C_Heap => k_is)
    (case mk_C_Heap => k_is)
    (case kc_C_Heap => k_is)
    (case n_C_Heap_many => k_is)
    (case n_C_Heap_signs => k_is)
    (case a_Heap_init => k_is)
    (case i_Heap_init => k_is)
    (case l_Heap_init => k_is)
    (case c_Heap_init => k_is)
    (case k_Heap_init => k_is)
    (case a_Heap_add => k_is)
    (case i_Heap_add => k_is)
    (case l_Heap_add => k_is)
    (case c_Heap_add => k_is)
    (case k_Heap_add => k_is)
    (case a_Heap_places => k_is)
    (case i_Heap_places => k_is)
    (case l_Heap_places => k_is)
    (case c_Heap_places => k_is)
    (case k_Heap_places => k_is)
    (case a_Heap_is_whole => k_is)
    (case i_Heap_is_whole => k_is)
    (case l_Heap_is_whole => k_is)
    (case c_Heap_is_whole => k_is)
    (case k_Heap_is_whole => k_is)
    (case a_Heap_text => k_is)
    (case i_Heap_text => k_is)
    (case l_Heap_text => k_is)
    (case c_Heap_text => k_is)
    (case k_Heap_text => k_is)
    (case a_Heap_copy => k_is)
    (case i_Heap_copy => k_is)
    (case l_Heap_copy => k_is)
    (case c_Heap_copy => k_is)
    (case k_Heap_copy => k_is)
    (case a_cut => k_is)
    (case l_cut => k_is)
    (case c_cut => k_is)
    (case k_cut => k_is)
    (case a_put_together => k_is)
    (case l_put_together => k_is)
    (case c_put_together => k_is)
    (case k_put_together => k_is)
    (case a_law_mixed => k_is)
    (case l_law_mixed => k_is)
    (case c_law_mixed => k_is)
    (case k_law_mixed => k_is)
    (case a_law_deck => k_is)
    (case l_law_deck => k_is)
    (case c_law_deck => k_is)
    (case k_law_deck => k_is)
    (case a_law_next => k_is)
    (case l_law_next => k_is)
    (case c_law_next => k_is)
    (case k_law_next => k_is)
    (case a_law_same => k_is)
    (case l_law_same => k_is)
    (case c_law_same => k_is)
    (case k_law_same => k_is)
    (case a_law_sign => k_is)
    (case l_law_sign => k_is)
    (case c_law_sign => k_is)
    (case k_law_sign => k_is)
    (case a_law_text => k_is)
    (case l_law_text => k_is)
    (case c_law_text => k_is)
    (case k_law_text => k_is)
    (case a_law_turned => k_is)
    (case l_law_turned => k_is)
    (case c_law_turned => k_is)
    (case k_law_turned => k_is)
    (case a_law_narrowed => k_is)
    (case l_law_narrowed => k_is)
    (case c_law_narrowed => k_is)
    (case k_law_narrowed => k_is)
    (case a_law_heaped => k_is)
    (case l_law_heaped => k_is)
    (case c_law_heaped => k_is)
    (case k_law_heaped => k_is)
    (case a_law => k_is)
    (case l_law => k_is)
    (case c_law => k_is)
    (case k_law => k_is)
    (case z_len => k_is)
    (case z_range => k_is)
    (case z_min => k_is)
    (case z_isinstance => k_is)
    (case z_tuple => k_is)
    (case z_bool => k_is)
    (case z_str => k_is)
    (case z_int => k_is)
    (case z_all => k_is)
    (case z_enumerate => k_is)
    (case z_list => k_is)
    (case z_dict => k_is)
    (case z_sorted => k_is)
