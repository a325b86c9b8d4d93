import PyProof.Rows.All
import Wide.All
import OpenK.AllK
import Wide.FinOn
import HandS.ForMost
import HandS.IsInst
import HandS.Flow
import HandS.SortInts
import HandS.More
import HandS.Text
import HandS.Walk
import HandS.Conv
import PyProof.Draws
import PyProof.EnumMake
import HandS.Codes
import HandS.TupLe
import PyProof.Rows.ChunkEnd
import PySem.Challenge.RW_wrapnets_k22_texts_cut
set_option Elab.async false
set_option maxRecDepth 100000
set_option linter.all false
namespace Wn
open PySem L2

/-- what a caller knows of a def: that it keeps a promise, and where it stands -/
def Cd (P : Program) (w : World) (K : PySem.W.Frag) (mg : Str → Option Value) (base : Heap) (k : Nat) (name : Str) (ps : List Str) (sp : Sp) : Prop :=
  ∃ (f : Addr) (fd : FuncData), FnOk P w K mg base CX0 k f fd ps sp ∧ mg name = some (.ref f) ∧ PySem.W.keepIn K (.ref f) = true ∧ Binds K fd ps []
/-- what a caller knows of a method -/
def Md (P : Program) (w : World) (K : PySem.W.Frag) (mg : Str → Option Value) (base : Heap) (k : Nat) (C : Addr) (name : Str) (ps : List Str) (sp : Sp) : Prop :=
  ∃ (f : Addr) (fd : FuncData), FnOk P w K mg base CX0 k f fd ps sp ∧ Meth K C name f ∧ Binds K fd ps []

/-- all but some addresses stay -/
def Kp (M : List Addr) (H H' : Hp) : Prop := ∀ b o, b ∉ M → H b = some o → H' b = some o
theorem Kp.refl (M : List Addr) (H : Hp) : Kp M H H := fun _ _ _ h => h
theorem Kp.trans {M : List Addr} {H H1 H2 : Hp} (a : Kp M H H1) (b : Kp M H1 H2) : Kp M H H2 := fun c o hc h => b c o hc (a c o hc h)
theorem Kp.mono {M M' : List Addr} {H H1 : Hp} (a : Kp M H H1) (h : ∀ x ∈ M, x ∈ M') : Kp M' H H1 := fun c o hc q => a c o (fun z => hc (h c z)) q
theorem Kp.of {M : List Addr} {H H1 : Hp} (a : Same H H1) : Kp M H H1 := fun c o _ q => a c o q
theorem Kp.new {M : List Addr} {H H1 : Hp} {p : Addr} {o : HO} (a : Kp M H H1) (hp : H1 p = none) : Kp M H (upd H1 p o) := fun c u hc q => by
  rw [upd_ne (ne_of_none (a c u hc q) hp)]
  exact a c u hc q
theorem Kp.wr {M : List Addr} {H H1 : Hp} {p : Addr} {o : HO} (a : Kp M H H1) (hp : p ∈ M) : Kp M H (upd H1 p o) := fun c u hc q => by
  rw [upd_ne (show c ≠ p from fun z => hc (by rw [z]; exact hp))]
  exact a c u hc q
/-- a write to what wasn't there at first -/
theorem Kp.wrn {M : List Addr} {H H1 : Hp} {p : Addr} {o : HO} (a : Kp M H H1) (hp : H p = none) : Kp M H (upd H1 p o) := fun c u hc q => by
  rw [upd_ne (ne_of_none q hp)]
  exact a c u hc q
theorem _root_.L2.Same.new {H H1 : Hp} {p : Addr} {o : HO} (a : Same H H1) (hp : H1 p = none) : Same H (upd H1 p o) := fun c u q => by
  rw [upd_ne (ne_of_none (a c u q) hp)]
  exact a c u q
theorem _root_.L2.Same.wrn {H H1 : Hp} {p : Addr} {o : HO} (a : Same H H1) (hp : H p = none) : Same H (upd H1 p o) := fun c u q => by
  rw [upd_ne (ne_of_none q hp)]
  exact a c u q

/-- a while by a word and a measure -/
theorem while_m {c : TT} {tb : TS} {D : Ends} {σ : L2.St} {H : Hp} (Pv : L2.St → Hp → Prop) (μ : L2.St → Hp → Nat) (h0 : Pv σ H)
    (hs : ∀ m σ H, m = μ σ H → Pv σ H → c σ H fun b H1 => if b = true then ∃ N : L2.St → Hp → Prop, (∀ σ' H', N σ' H' → ∃ m', m' < m ∧ (m' = μ σ' H' ∧ Pv σ' H')) ∧ tb { D with nx := N, ct := N, bk := D.nx } σ H1 else D.nx σ H1) : tWhile c tb D σ H :=
  ⟨fun m σ H => m = μ σ H ∧ Pv σ H, ⟨_, rfl, h0⟩, fun m σ H ⟨e, p⟩ => hs m σ H e p⟩

/-! ### the deck -/
def spMixed : Sp := fun vs H Q _ => ∃ (c a : Int), vs = [.int c, .int a] ∧ -1 ≤ a ∧ a < 2 ^ 60 ∧ ∀ r : Int, Q (.int r) H
/-- a deck at d, of which n draws were taken at most -/
def Deck (H : Hp) (d f : Addr) (n : Int) : Prop :=
  ∃ (a wh : Int) (xs : List Int), H d = some (.lst [.int a, .int wh, .ref f]) ∧ H f = some (.lst (xs.map V.int)) ∧ 0 ≤ a ∧ a ≤ n ∧ xs.length ≤ 100000
def spNext : Sp := fun vs H Q _ => ∃ (d f : Addr) (m n : Int), vs = [.ref d, .int m] ∧ 0 < m ∧ n < 2 ^ 60 ∧ Deck H d f n ∧
  ∀ (r : Int) (H' : Hp), 0 ≤ r → r < m → Kp [d] H H' → Deck H' d f (n + 1) → Q (.int r) H'
def spDeck (K : PySem.W.Frag) : Sp := fun vs H Q _ => ∃ (a : Addr) (ns : List Int), vs = [.ref a] ∧ SqL K H a (ns.map V.int) ∧ ns.length ≤ 63 ∧
  ∀ (H' : Hp) (d f : Addr), H d = none → H f = none → Same H H' → Deck H' d f 0 → Q (.ref d) H'
end Wn

namespace Wn
open PySem L2
/-! ### tuples stay, whatever is called -/
def TK (H H' : Hp) : Prop := (∀ b xs, H b = some (.tup xs) → H' b = some (.tup xs)) ∧ (∀ b o u, H b = some (.frz o u) → H' b = some (.frz o u))
theorem TK.refl (H : Hp) : TK H H := ⟨fun _ _ h => h, fun _ _ _ h => h⟩
theorem TK.trans {H H1 H2 : Hp} (a : TK H H1) (b : TK H1 H2) : TK H H2 := ⟨fun c o h => b.1 c o (a.1 c o h), fun c o u h => b.2 c o u (a.2 c o u h)⟩
theorem TK.of {H H1 : Hp} (a : Same H H1) : TK H H1 := ⟨fun c o h => a _ _ h, fun c o u h => a _ _ h⟩
theorem TK.new {H H1 : Hp} {p : Addr} {o : HO} (a : TK H H1) (hp : H1 p = none) : TK H (upd H1 p o) :=
  ⟨fun c u q => by rw [upd_ne (ne_of_none (a.1 c u q) hp)]; exact a.1 c u q, fun c u z q => by rw [upd_ne (ne_of_none (a.2 c u z q) hp)]; exact a.2 c u z q⟩
/-- what is neither a tuple nor locked may be written -/
def Wrt : HO → Bool
  | .tup _ => false
  | .frz _ _ => false
  | _ => true
theorem TK.wr {H H1 : Hp} {p : Addr} {o u : HO} (a : TK H H1) (hp : H1 p = some u) (hu : Wrt u = true) : TK H (upd H1 p o) :=
  ⟨fun c v q => by
    have h1 := a.1 c v q
    rw [upd_ne (ne_of h1 hp (fun z => by rw [← z] at hu; cases hu))]
    exact h1, fun c v z q => by
    have h1 := a.2 c v z q
    rw [upd_ne (ne_of h1 hp (fun z => by rw [← z] at hu; cases hu))]
    exact h1⟩
theorem _root_.L2.FnOk.tk {P : Program} {w : World} {K : PySem.W.Frag} {mg : Str → Option Value} {base : Heap} {k : Nat} {f : Addr} {fd : FuncData} {ps : List Str} {sp : Sp} (F : FnOk P w K mg base CX0 k f fd ps sp) :
    FnOk P w K mg base CX0 k f fd ps (fun vs H Q E => sp vs H (fun v H' => TK H H' → Q v H') E) := by
  refine ⟨fun vs H Q E q => F.len vs H _ E q, fun A outer s H args us vs Q E hr he hb hv hs => ?_⟩
  refine codeAny_mono (F.run A outer s H args us vs _ E hr he hb hv hs) fun r s' h => ?_
  cases r with
  | ok fl =>
    cases fl with
    | ret u =>
      obtain ⟨v, H', e1, e2, e3, e4, e5, q⟩ := h
      exact ⟨v, H', e1, e2, e3, e4, e5, q ⟨e3.tups, e3.frzs⟩⟩
    | _ => exact h
  | error e => exact h
/-- a promise, tuples kept besides -/
def Tk (sp : Sp) : Sp := fun vs H Q E => sp vs H (fun v H' => TK H H' → Q v H') E
theorem Cd.tk {P : Program} {w : World} {K : PySem.W.Frag} {mg : Str → Option Value} {base : Heap} {k : Nat} {name : Str} {ps : List Str} {sp : Sp} (h : Cd P w K mg base k name ps sp) : Cd P w K mg base k name ps (Tk sp) := by
  obtain ⟨f, fd, G, a, b, c⟩ := h
  exact ⟨f, fd, G.tk, a, b, c⟩
theorem Md.tk {P : Program} {w : World} {K : PySem.W.Frag} {mg : Str → Option Value} {base : Heap} {k : Nat} {C : Addr} {name : Str} {ps : List Str} {sp : Sp} (h : Md P w K mg base k C name ps sp) : Md P w K mg base k C name ps (Tk sp) := by
  obtain ⟨f, fd, G, a, b⟩ := h
  exact ⟨f, fd, G.tk, a, b⟩

/-! ### data: None, truths, ints, texts, tuples of these -/
mutual
def Rp (K : PySem.W.Frag) (H : Hp) : PyData → V → Prop
  | .none, v => v = .non
  | .bool b, v => v = .bl b
  | .int i, v => v = .int i
  | .str s, v => v = .str s
  | .tuple ds, v => ∃ a xs, v = .ref a ∧ SqT K H a xs ∧ RpL K H ds xs
  | .list _, _ => False
  | .dict _, _ => False
def RpL (K : PySem.W.Frag) (H : Hp) : List PyData → List V → Prop
  | [], xs => xs = []
  | d :: ds, xs => ∃ v r, xs = v :: r ∧ Rp K H d v ∧ RpL K H ds r
end
mutual
def dep : PyData → Nat
  | .tuple xs => deps xs + 1
  | _ => 0
def deps : List PyData → Nat
  | [] => 0
  | x :: xs => max (dep x) (deps xs)
end
mutual
def sz : PyData → Nat
  | .tuple xs => szs xs + 1
  | _ => 1
def szs : List PyData → Nat
  | [] => 0
  | x :: xs => sz x + szs xs
end
theorem SqT.tk {K : PySem.W.Frag} {H H' : Hp} {a : Addr} {xs : List V} (h : SqT K H a xs) (e : TK H H') : SqT K H' a xs := by
  rcases h with (h | ⟨o, h⟩) | h
  · exact .inl (.inl (e.1 _ _ h))
  · exact .inl (.inr ⟨o, e.2 _ _ _ h⟩)
  · exact .inr h
mutual
theorem Rp.tk {K : PySem.W.Frag} {H H' : Hp} (e : TK H H') : ∀ (d : PyData) (v : V), Rp K H d v → Rp K H' d v
  | .none, _, h => h
  | .bool _, _, h => h
  | .int _, _, h => h
  | .str _, _, h => h
  | .tuple ds, v, h => by
    unfold Rp at h ⊢
    obtain ⟨a, xs, rfl, hs, hl⟩ := h
    exact ⟨a, xs, rfl, SqT.tk hs e, RpL.tk e ds xs hl⟩
  | .list _, _, h => h
  | .dict _, _, h => h
theorem RpL.tk {K : PySem.W.Frag} {H H' : Hp} (e : TK H H') : ∀ (ds : List PyData) (xs : List V), RpL K H ds xs → RpL K H' ds xs
  | [], _, h => h
  | d :: ds, xs, h => by
    unfold RpL at h ⊢
    obtain ⟨v, r, rfl, h1, h2⟩ := h
    exact ⟨v, r, rfl, Rp.tk e d v h1, RpL.tk e ds r h2⟩
end
theorem RpL.len {K : PySem.W.Frag} {H : Hp} : ∀ (ds : List PyData) (xs : List V), RpL K H ds xs → xs.length = ds.length
  | [], xs, h => by
    unfold RpL at h
    rw [h]
    rfl
  | d :: ds, xs, h => by
    unfold RpL at h
    obtain ⟨v, r, rfl, h1, h2⟩ := h
    rw [List.length_cons, List.length_cons, RpL.len ds r h2]
theorem RpL.get {K : PySem.W.Frag} {H : Hp} : ∀ (ds : List PyData) (xs : List V), RpL K H ds xs → ∀ (i : Nat) (d : PyData), ds[i]? = some d → ∃ v, xs[i]? = some v ∧ Rp K H d v
  | [], xs, h, i, d, e => by cases e
  | d :: ds, xs, h, i, d', e => by
    unfold RpL at h
    obtain ⟨v, r, rfl, h1, h2⟩ := h
    cases i with
    | zero =>
      simp only [List.getElem?_cons_zero, Option.some.injEq] at e
      exact ⟨v, rfl, e ▸ h1⟩
    | succ i =>
      simp only [List.getElem?_cons_succ] at e ⊢
      exact RpL.get ds r h2 i d' e
theorem RpL.of {K : PySem.W.Frag} {H : Hp} : ∀ (ds : List PyData) (xs : List V), xs.length = ds.length → (∀ (i : Nat) (d : PyData) (v : V), ds[i]? = some d → xs[i]? = some v → Rp K H d v) → RpL K H ds xs
  | [], xs, h, _ => by
    unfold RpL
    exact List.length_eq_zero_iff.mp h
  | d :: ds, [], h, _ => by cases h
  | d :: ds, v :: r, h, k => by
    unfold RpL
    refine ⟨v, r, rfl, k 0 d v rfl rfl, RpL.of ds r (by simpa using h) fun i d' v' h1 h2 => k (i + 1) d' v' ?_ ?_⟩
    · simpa using h1
    · simpa using h2
theorem RpL.snoc {K : PySem.W.Frag} {H : Hp} {d : PyData} {v : V} (h : Rp K H d v) : ∀ (ds : List PyData) (xs : List V), RpL K H ds xs → RpL K H (ds ++ [d]) (xs ++ [v])
  | [], xs, q => by
    unfold RpL at q
    subst q
    show RpL K H [d] [v]
    unfold RpL
    exact ⟨v, [], rfl, h, by unfold RpL; rfl⟩
  | d' :: ds, xs, q => by
    unfold RpL at q
    obtain ⟨v', r, rfl, h1, h2⟩ := q
    show RpL K H (d' :: (ds ++ [d])) (v' :: (r ++ [v]))
    unfold RpL
    exact ⟨_, _, rfl, h1, RpL.snoc h ds r h2⟩
theorem dep_get : ∀ (ds : List PyData) (i : Nat) (d : PyData), ds[i]? = some d → dep d ≤ deps ds
  | [], i, d, e => by cases e
  | x :: xs, 0, d, e => by
    simp only [List.getElem?_cons_zero, Option.some.injEq] at e
    unfold deps
    rw [e]
    exact Nat.le_max_left _ _
  | x :: xs, i + 1, d, e => by
    simp only [List.getElem?_cons_succ] at e
    unfold deps
    exact Nat.le_trans (dep_get xs i d e) (Nat.le_max_right _ _)
theorem sz_get : ∀ (ds : List PyData) (i : Nat) (d : PyData), ds[i]? = some d → sz d ≤ szs ds
  | [], i, d, e => by cases e
  | x :: xs, 0, d, e => by
    simp only [List.getElem?_cons_zero, Option.some.injEq] at e
    unfold szs
    rw [e]
    exact Nat.le_add_right _ _
  | x :: xs, i + 1, d, e => by
    simp only [List.getElem?_cons_succ] at e
    unfold szs
    exact Nat.le_trans (sz_get xs i d e) (Nat.le_add_left _ _)
theorem sz_pos : ∀ d : PyData, 1 ≤ sz d
  | .tuple xs => by unfold sz; omega
  | .none | .bool _ | .int _ | .str _ | .list _ | .dict _ => by unfold sz; exact Nat.le_refl _
theorem szs_len : ∀ ds : List PyData, ds.length ≤ szs ds
  | [] => Nat.zero_le _
  | x :: xs => by
    have := szs_len xs
    have := sz_pos x
    unfold szs
    rw [List.length_cons]
    omega
/-- the type of such a thing -/
theorem ty_tup {K : PySem.W.Frag} {H : Hp} {a : Addr} {xs : List V} (h : SqT K H a xs) : TyX K H (.ref a) (.type "tuple") := by
  rcases h with (h | ⟨o, h⟩) | ⟨o, its, n, h, c, _⟩
  · exact .base (.tup h)
  · exact .fTuple h
  · exact .kTuple h c
/-- the same data handed in twice, of depth below n: True -/
def spSame (K : PySem.W.Frag) (n : Nat) : Sp := fun vs H Q _ => ∃ (x y : V) (d : PyData), vs = [x, y] ∧ Rp K H d x ∧ Rp K H d y ∧ dep d < n ∧ sz d ≤ 1000000 ∧ ∀ H', Same H H' → Q (.bl true) H'
end Wn

namespace Wn
open PySem L2
theorem fld1 {f : Str} {v : V} : ([(f, v)] : List (Str × V)).lookup f = some v := by
  show (match f == f with | true => some v | false => _) = some v
  rw [beq_self_eq_true]
theorem fld1_ne {f g : Str} {v : V} (h : (g == f) = false) : ([(f, v)] : List (Str × V)).lookup g = none := by
  show (match g == f with | true => some v | false => _) = none
  rw [h]
  rfl
theorem putF1 {f : Str} {v u : V} : putF f u [(f, v)] = [(f, u)] := by
  show (if f = f then (f, u) :: [] else _) = _
  rw [if_pos rfl]
/-! ### dicts by whole numbers, their values data -/
section
variable {α : Type}
def lookA (m : List (Int × α)) (k : Int) : Option α := (m.find? fun p => decide (p.1 = k)).map (·.2)
def putA (m : List (Int × α)) (k : Int) (v : α) : List (Int × α) :=
  if (m.any fun kv => decide (kv.1 = k)) = true then m.map (fun kv => if kv.1 = k then (kv.1, v) else kv) else m ++ [(k, v)]
def dropA (m : List (Int × α)) (k : Int) : List (Int × α) := m.filter fun kv => decide (kv.1 ≠ k)
theorem putA_len (m : List (Int × α)) (k : Int) (v : α) : (putA m k v).length ≤ m.length + 1 := by
  unfold putA
  split
  · rw [List.length_map]
    omega
  · rw [List.length_append, List.length_singleton]
    exact Nat.le_refl _
theorem dropA_len (m : List (Int × α)) (k : Int) : (dropA m k).length ≤ m.length := List.length_filter_le _ _
def RpD (enc : α → PyData) (K : PySem.W.Frag) (H : Hp) : List (Int × α) → List (Key × V) → Prop
  | [], kvs => kvs = []
  | p :: m, kvs => ∃ v r, kvs = (Sum.inl p.1, v) :: r ∧ Rp K H (enc p.2) v ∧ RpD enc K H m r
variable {enc : α → PyData} {K : PySem.W.Frag} {H H' : Hp}
theorem RpD.tk (e : TK H H') : ∀ {m : List (Int × α)} {kvs : List (Key × V)}, RpD enc K H m kvs → RpD enc K H' m kvs
  | [], _, h => h
  | p :: m, kvs, h => by
    obtain ⟨v, r, rfl, h1, h2⟩ := h
    exact ⟨v, r, rfl, Rp.tk e _ _ h1, RpD.tk e h2⟩
theorem RpD.len : ∀ {m : List (Int × α)} {kvs : List (Key × V)}, RpD enc K H m kvs → kvs.length = m.length
  | [], kvs, h => by rw [show kvs = [] from h]; rfl
  | p :: m, kvs, h => by
    obtain ⟨v, r, rfl, h1, h2⟩ := h
    rw [List.length_cons, List.length_cons, RpD.len h2]
theorem RpD.keys : ∀ {m : List (Int × α)} {kvs : List (Key × V)}, RpD enc K H m kvs → (kvs.map fun kv => kV kv.1) = (m.map (·.1)).map V.int
  | [], kvs, h => by rw [show kvs = [] from h]; rfl
  | p :: m, kvs, h => by
    obtain ⟨v, r, rfl, h1, h2⟩ := h
    rw [List.map_cons, List.map_cons, List.map_cons, RpD.keys h2]
    rfl
theorem inl_iff {a b : Int} : ((Sum.inl a : Key) = Sum.inl b) ↔ a = b := ⟨fun h => by cases h; rfl, fun h => by rw [h]⟩
theorem RpD.val {k : Int} : ∀ {m : List (Int × α)} {kvs : List (Key × V)}, RpD enc K H m kvs → (lookA m k = none ∧ valV kvs (Sum.inl k) = none) ∨ ∃ x v, lookA m k = some x ∧ valV kvs (Sum.inl k) = some v ∧ Rp K H (enc x) v
  | [], kvs, h => by
    rw [show kvs = [] from h]
    exact .inl ⟨rfl, rfl⟩
  | p :: m, kvs, h => by
    obtain ⟨v, r, rfl, h1, h2⟩ := h
    by_cases e : p.1 = k
    · refine .inr ⟨p.2, v, ?_, valV_pos (by rw [e]), h1⟩
      simp [lookA, List.find?_cons, e]
    · have e1 : lookA (p :: m) k = lookA m k := by simp [lookA, List.find?_cons, e]
      rw [e1, valV_neg (p := (Sum.inl p.1, v)) (fun z => e (inl_iff.mp z))]
      exact RpD.val h2
theorem RpD.any {k : Int} : ∀ {m : List (Int × α)} {kvs : List (Key × V)}, RpD enc K H m kvs → (kvs.any fun kv => decide (kv.1 = Sum.inl k)) = (m.any fun kv => decide (kv.1 = k))
  | [], kvs, h => by rw [show kvs = [] from h]; rfl
  | p :: m, kvs, h => by
    obtain ⟨v, r, rfl, h1, h2⟩ := h
    rw [List.any_cons, List.any_cons, RpD.any h2]
    congr 1
    exact decide_eq_decide.mpr inl_iff
theorem RpD.snoc {k : Int} {x : α} {v : V} (hv : Rp K H (enc x) v) : ∀ {m : List (Int × α)} {kvs : List (Key × V)}, RpD enc K H m kvs → RpD enc K H (m ++ [(k, x)]) (kvs ++ [(Sum.inl k, v)])
  | [], kvs, h => by
    rw [show kvs = [] from h]
    exact ⟨v, [], rfl, hv, rfl⟩
  | p :: m, kvs, h => by
    obtain ⟨u, r, rfl, h1, h2⟩ := h
    exact ⟨u, _, rfl, h1, RpD.snoc hv h2⟩
theorem RpD.map {k : Int} {x : α} {v : V} (hv : Rp K H (enc x) v) : ∀ {m : List (Int × α)} {kvs : List (Key × V)}, RpD enc K H m kvs → RpD enc K H (m.map fun kv => if kv.1 = k then (kv.1, x) else kv) (kvs.map fun kv => if kv.1 = Sum.inl k then (kv.1, v) else kv)
  | [], kvs, h => by rw [show kvs = [] from h]; rfl
  | p :: m, kvs, h => by
    obtain ⟨u, r, rfl, h1, h2⟩ := h
    have h3 := RpD.map (k := k) hv h2
    rw [List.map_cons, List.map_cons]
    by_cases e : p.1 = k
    · rw [if_pos e, if_pos (inl_iff.mpr e)]
      exact ⟨v, _, rfl, hv, h3⟩
    · rw [if_neg e, if_neg (fun z => e (inl_iff.mp z))]
      exact ⟨u, _, rfl, h1, h3⟩
theorem RpD.put {k : Int} {x : α} {v : V} {m : List (Int × α)} {kvs : List (Key × V)} (h : RpD enc K H m kvs) (hv : Rp K H (enc x) v) : RpD enc K H (putA m k x) (putK kvs (Sum.inl k) v) := by
  unfold putA putK
  rw [h.any]
  split
  · exact h.map hv
  · exact h.snoc hv
theorem RpD.drop {k : Int} : ∀ {m : List (Int × α)} {kvs : List (Key × V)}, RpD enc K H m kvs → RpD enc K H (dropA m k) (dropK kvs (Sum.inl k))
  | [], kvs, h => by rw [show kvs = [] from h]; rfl
  | p :: m, kvs, h => by
    obtain ⟨u, r, rfl, h1, h2⟩ := h
    have h3 := RpD.drop (k := k) h2
    unfold dropA dropK at *
    by_cases e : p.1 = k
    · rw [List.filter_cons_of_neg (by simp [e]), List.filter_cons_of_neg (by simp [e])]
      exact h3
    · rw [List.filter_cons_of_pos (by simp [e]), List.filter_cons_of_pos (by simp [inl_iff, e])]
      exact ⟨u, _, rfl, h1, h3⟩
/-- a dict at q that stands for m -/
def DictAt (enc : α → PyData) (K : PySem.W.Frag) (H : Hp) (q : Addr) (m : List (Int × α)) : Prop := ∃ kvs, H q = some (.dK kvs) ∧ RpD enc K H m kvs
theorem DictAt.kp {M : List Addr} {q : Addr} {m : List (Int × α)} (h : DictAt enc K H q m) (k : Kp M H H') (t : TK H H') (n : q ∉ M) : DictAt enc K H' q m := by
  obtain ⟨kvs, a, b⟩ := h
  exact ⟨kvs, k _ _ n a, b.tk t⟩
def sortI (ns : List Int) : List Int := ns.mergeSort (fun a b => decide (a ≤ b))
theorem sortI_perm (ns : List Int) : (sortI ns).Perm ns := List.mergeSort_perm _ _
theorem sortI_sorted (ns : List Int) : (sortI ns).Pairwise (· ≤ ·) := by
  have h := List.pairwise_mergeSort (le := fun a b : Int => decide (a ≤ b)) (fun a b c h1 h2 => by simp only [decide_eq_true_eq] at *; omega) (fun a b => by simp only [Bool.or_eq_true, decide_eq_true_eq]; omega) ns
  exact h.imp fun h => of_decide_eq_true h
theorem sortI_eq {ns ms : List Int} (p : ms.Perm ns) (s : ms.Pairwise (· ≤ ·)) : ms = sortI ns :=
  PySem.W.ksm_same (p.trans (sortI_perm ns).symm) s (sortI_sorted ns)
/-- rows by hands: (hand,) and what stands there -/
def rowsD (encL : α → List PyData) (m : List (Int × α)) : PyData := .tuple ((sortI (m.map (·.1))).map fun k => .tuple (.int k :: ((lookA m k).map encL).getD []))
theorem lookA_mem {m : List (Int × α)} {k : Int} (h : k ∈ m.map (·.1)) : ∃ x, lookA m k = some x ∧ (k, x) ∈ m := by
  obtain ⟨p, hp, rfl⟩ := List.mem_map.mp h
  unfold lookA
  cases e : m.find? fun q => decide (q.1 = p.1) with
  | none =>
    have := List.find?_eq_none.mp e p hp
    simp at this
  | some q =>
    have h1 := List.find?_some e
    have h2 := List.mem_of_find?_eq_some e
    simp only [decide_eq_true_eq] at h1
    exact ⟨q.2, rfl, by rw [← h1]; exact h2⟩
theorem szs_map_le {β : Type} {f : β → PyData} {c : Nat} : ∀ (l : List β), (∀ x ∈ l, sz (f x) ≤ c) → szs (l.map f) ≤ c * l.length
  | [], _ => Nat.zero_le _
  | x :: l, h => by
    have h1 := szs_map_le l fun y hy => h y (List.mem_cons_of_mem _ hy)
    have h2 := h x List.mem_cons_self
    rw [List.map_cons, List.length_cons]
    unfold szs
    rw [Nat.mul_succ]
    omega
theorem deps_map_le {β : Type} {f : β → PyData} {c : Nat} : ∀ (l : List β), (∀ x ∈ l, dep (f x) ≤ c) → deps (l.map f) ≤ c
  | [], _ => Nat.zero_le _
  | x :: l, h => by
    have h1 := deps_map_le l fun y hy => h y (List.mem_cons_of_mem _ hy)
    have h2 := h x List.mem_cons_self
    rw [List.map_cons]
    unfold deps
    omega
theorem Rp.tup {ds : List PyData} {a : Addr} {xs : List V} (h : H a = some (.tup xs)) (r : RpL K H ds xs) : Rp K H (.tuple ds) (.ref a) := by
  unfold Rp
  exact ⟨a, xs, rfl, SqT.of h, r⟩
theorem Rp.tupS {ds : List PyData} {a : Addr} {xs : List V} (h : SqT K H a xs) (r : RpL K H ds xs) : Rp K H (.tuple ds) (.ref a) := by
  unfold Rp
  exact ⟨a, xs, rfl, h, r⟩
theorem RpL.cons {d : PyData} {ds : List PyData} {v : V} {xs : List V} (h : Rp K H d v) (r : RpL K H ds xs) : RpL K H (d :: ds) (v :: xs) := by
  unfold RpL
  exact ⟨v, xs, rfl, h, r⟩
theorem RpL.nil : RpL K H [] [] := by
  unfold RpL
  rfl
theorem Rp.int {i : Int} : Rp K H (.int i) (.int i) := by
  unfold Rp
  rfl
theorem Rp.none : Rp K H .none .non := by
  unfold Rp
  rfl
theorem Rp.str {z : Str} : Rp K H (.str z) (.str z) := by
  unfold Rp
  rfl
end
end Wn

namespace Wn
open PySem L2
theorem tYes_t {σ : L2.St} {H : Hp} {F : Bool → Hp → Prop} (h : F true H) : tYes σ H F := h
theorem rows_lc {α : Type} {encL : α → List PyData} {K : PySem.W.Frag} {td : TE} {i : Nat} {σ : L2.St} {H2 : Hp} {S D q : Addr} {ns : List Int} {m : List (Int × α)} {kvs : List (Key × V)} {Qd : Hp → Prop}
    (hS : H2 S = some (.lst (ns.map V.int))) (hq : H2 q = some (.dK kvs)) (hm : RpD (fun x => .tuple (encL x)) K H2 m kvs) (hns : ∀ k ∈ ns, k ∈ m.map (·.1)) (hz : ∀ x, (encL x).length ≤ 100) (hln : ns.length ≤ 1000000)
    (htd : ∀ (σ' : L2.St) (H' : Hp) (Q : VK), wipe σ' [i] = wipe σ [i] → Same H2 H' → Q (.ref q) H' → td σ' H' Q) (hD : H2 D = none) (hσ : i < σ.length)
    (hd : ∀ (H' : Hp) (xs : List V), Same H2 H' → H' D = some (.lst xs) → RpL K H' (ns.map fun k => .tuple (.int k :: ((lookA m k).map encL).getD [])) xs → Qd H') :
    ∃ W : Nat → Nat → Hp → Prop, (∃ m, W 0 m (upd H2 D (.lst []))) ∧ ∀ j m H, W j m H →
      ((Itl K S).stop j H ∧ Qd H) ∨ ((Itl K S).go j H ∧ ∃ Nx : Hp → Prop, (∀ H', Nx H' → ∃ m', m' < m ∧ W (j + 1) m' H') ∧ ∀ x H', (Itl K S).yld j H x H' → gName i x (wipe σ [i]) H' fun σ2 H2 => wipe σ2 [i] = wipe σ [i] ∧ tYes σ2 H2 fun b H3 =>
        if b = true then tOp (rCatT K) (tTup (tCons (tVar i) tNil)) (tDGet td (tVar i)) σ2 H3 fun y H4 => ∃ acc, H4 D = some (.lst acc) ∧ acc.length < sizeLine ∧ Nx (upd H4 D (.lst (acc ++ [y]))) else Nx H3) := by
  have nSD : S ≠ D := ne_of_none hS hD
  refine lc_list (K := K) (a := S) (xs := ns.map V.int) (fun j H => ∃ xs, Same H2 H ∧ H D = some (.lst xs) ∧ RpL K H ((ns.take j).map fun k => .tuple (.int k :: ((lookA m k).map encL).getD [])) xs)
    ⟨[], (L2.Same.refl H2).new hD, upd_same, RpL.nil⟩ (fun j H _ ⟨xs, s, _, _⟩ => SqL.of (s _ _ hS)) ?_ ?_
  · rintro j x H3 hx ⟨xs, s3, hD3, hr⟩
    have hj : j < ns.length := by
      have q := (List.getElem?_eq_some_iff.mp hx).1
      rw [List.length_map] at q
      exact q
    obtain rfl : x = V.int ns[j] := by
      rw [List.getElem?_map, List.getElem?_eq_getElem hj] at hx
      exact (Option.some.inj hx).symm
    have hmem : ns[j] ∈ m.map (·.1) := hns _ (List.getElem_mem hj)
    have eσ : (((wipe σ [i]).set i (some (V.int ns[j]))))[i]? = some (some (V.int ns[j])) := by
      rw [List.getElem?_set_self]
      rw [wipe_length]
      exact hσ
    have ew : wipe ((wipe σ [i]).set i (some (V.int ns[j]))) [i] = wipe σ [i] := by
      show ((σ.set i none).set i (some (V.int ns[j]))).set i none = σ.set i none
      rw [List.set_set, List.set_set]
    refine ⟨ew, ?_⟩
    refine tYes_t (iteT ?_)
    have hlx : xs.length < sizeLine := by
      have := RpL.len _ _ hr
      rw [List.length_map, List.length_take] at this
      exact Nat.lt_of_le_of_lt (show xs.length ≤ 1000000 by omega) (by decide)
    refine ⟨_, eσ, (by show 1 ≤ sizeLine; decide), fun t ht => ?_⟩
    have s4 := s3.new (o := .tup [V.int ns[j]]) ht
    have t4 := TK.of s4
    refine htd _ _ _ ew s4 ⟨_, eσ, ?_⟩
    rcases hm.val (k := ns[j]) with ⟨e1, e2⟩ | ⟨y, v, e1, e2, r⟩
    · obtain ⟨z, e3, _⟩ := lookA_mem hmem
      rw [e1] at e3
      cases e3
    · have r4 := Rp.tk t4 _ _ r
      unfold Rp at r4
      obtain ⟨b, ys, rfl, hb, hl⟩ := r4
      have hly := RpL.len _ _ hl
      refine ⟨q, .ref b, rfl, by rw [← e2]; exact DGet.k (k := Sum.inl ns[j]) (s4 _ _ hq), ?_⟩
      have hD4 : (upd H3 t (.tup [V.int ns[j]])) D = some (.lst xs) := by
        rw [upd_ne (ne_of_none hD3 ht)]
        exact hD3
      have etk : (ns.take (j + 1)).map (fun k => PyData.tuple (.int k :: ((lookA m k).map encL).getD [])) = (ns.take j).map (fun k => PyData.tuple (.int k :: ((lookA m k).map encL).getD [])) ++ [PyData.tuple (.int ns[j] :: encL y)] := by
        rw [List.take_succ_eq_append_getElem hj, List.map_append, List.map_singleton, e1]
        rfl
      have s34 : TK H3 (upd H3 t (.tup [V.int ns[j]])) := (TK.refl _).new ht
      refine ⟨t, b, _, ys, rfl, rfl, SqT.of upd_same, hb, List.cons_ne_nil _ _, ?_, fun ey => ?_, fun _ p hp => ?_⟩
      · have := hz y
        rw [hly, List.length_singleton]
        exact Nat.le_trans (show 1 + (encL y).length ≤ 1000 by omega) (by decide)
      · refine ⟨xs, hD4, hlx, _, s4.wrn hD, upd_same, ?_⟩
        rw [etk]
        have tE : TK (upd H3 t (.tup [V.int ns[j]])) (upd (upd H3 t (.tup [V.int ns[j]])) D (.lst (xs ++ [V.ref t]))) := (TK.refl _).wr hD4 rfl
        refine RpL.snoc (Rp.tk tE _ _ (Rp.tup upd_same ?_)) _ _ (RpL.tk (s34.trans tE) _ _ hr)
        have e0 : encL y = [] := List.length_eq_zero_iff.mp (by rw [← hly, ey]; rfl)
        rw [e0]
        exact RpL.cons Rp.int RpL.nil
      · have s5 := s4.new (o := .tup ([V.int ns[j]] ++ ys)) hp
        have hD5 : upd (upd H3 t (.tup [V.int ns[j]])) p (.tup ([V.int ns[j]] ++ ys)) D = some (.lst xs) := by
          rw [upd_ne (ne_of_none hD4 hp)]
          exact hD4
        have tE : TK (upd (upd H3 t (.tup [V.int ns[j]])) p (.tup ([V.int ns[j]] ++ ys))) (upd (upd (upd H3 t (.tup [V.int ns[j]])) p (.tup ([V.int ns[j]] ++ ys))) D (.lst (xs ++ [V.ref p]))) := (TK.refl _).wr hD5 rfl
        have s45 : TK (upd H3 t (.tup [V.int ns[j]])) (upd (upd H3 t (.tup [V.int ns[j]])) p (.tup ([V.int ns[j]] ++ ys))) := (TK.refl _).new hp
        refine ⟨xs, hD5, hlx, _, s5.wrn hD, upd_same, ?_⟩
        rw [etk]
        refine RpL.snoc (Rp.tk tE _ _ (Rp.tup upd_same ?_)) _ _ (RpL.tk ((s34.trans s45).trans tE) _ _ hr)
        exact RpL.cons Rp.int (RpL.tk s45 _ _ hl)
  · rintro H3 ⟨xs, s3, hD3, hr⟩
    rw [List.length_map, List.take_length] at hr
    exact hd H3 xs s3 hD3 hr
end Wn

namespace Wn
open PySem L2
section
variable {X : Cx} {K : PySem.W.Frag}
theorem ixL (hK : X.K = K) : IxR X (rIxL K) := hK ▸ ix_list
theorem ixT (hK : X.K = K) : IxR X (rIxT K) := hK ▸ ix_tup
theorem opCatT (hK : X.K = K) : OpR X (binaryOp .Add) (rCatT K) := hK ▸ op_catT
theorem slL (hK : X.K = K) : SlR X (rSlL K) := hK ▸ sl_list
theorem slT (hK : X.K = K) : SlR X (rSlT K) := hK ▸ sl_tup
theorem fldK {e : Expr} {ta : TE} {f : Str} {pos : Pos} (hK : X.K = K) (he : PE X e ta) (hb : attributeBase e f X.env (eval e X.env) = eval e X.env) : PE X (.Attribute e f pos) (tFld K ta f) := hK ▸ pe_fld he hb
theorem lenK (hK : X.K = K) : CallR X (.builtin "len") (fun xs H Q => ∃ x n, xs = [x] ∧ LenV K x H n ∧ Q (.int n) H) := hK ▸ call_len
theorem crMaxK (hK : X.K = K) (hc : X.calm = true) : CallR X (.builtin "max") (rMax K) := hK ▸ cr_max hc
theorem crMinK (hK : X.K = K) (hc : X.calm = true) : CallR X (.builtin "min") (rMin K) := hK ▸ cr_min hc
theorem crAllK (hK : X.K = K) (hc : X.calm = true) : CallR X (.builtin "all") (rAll K) := hK ▸ cr_all hc
theorem crAnyK (hK : X.K = K) (hc : X.calm = true) : CallR X (.builtin "any") (rAny K) := hK ▸ cr_any hc
theorem isiK (hK : X.K = K) : CallR X (.builtin "isinstance") (rIsi K) := hK ▸ call_isi
theorem tupOfK (hK : X.K = K) : CallR X (.type "tuple") (fun xs H Q => ∃ p ys, xs = [.ref p] ∧ ((SqL K H p ys ∧ ∀ l, H l = none → Q (.ref l) (upd H l (.tup ys))) ∨ (SqT K H p ys ∧ Q (.ref p) H))) := hK ▸ call_tuple_of
theorem lstOfK (hK : X.K = K) : CallR X (.type "list") (fun xs H Q => ∃ p ys, xs = [.ref p] ∧ (SqL K H p ys ∨ SqT K H p ys) ∧ ∀ l, H l = none → Q (.ref l) (upd H l (.lst ys))) := hK ▸ call_list_of
theorem sortIK (hK : X.K = K) : CallR X (.builtin "sorted") (rSortedI K) := hK ▸ cr_sortedI
theorem inSeqK (hK : X.K = K) : OpR X (compareOp .In) (rIn K false) := hK ▸ op_in_seq
theorem notInSeqK (hK : X.K = K) : OpR X (compareOp .NotIn) (rIn K true) := hK ▸ op_notIn_seq
theorem eqDK (hK : X.K = K) (hu : X.A.units + 64 < cLine) : OpR X (compareOp .Eq) (rEqD K) := hK ▸ op_eqD hu
theorem neDK (hK : X.K = K) (hu : X.A.units + 64 < cLine) : OpR X (compareOp .NotEq) (rNeD K) := hK ▸ op_neD hu
end
end Wn

namespace Wn
open PySem L2
theorem Deck.kp {M : List Addr} {H H' : Hp} {d f : Addr} {n : Int} (h : Deck H d f n) (k : Kp M H H') (n1 : d ∉ M) (n2 : f ∉ M) : Deck H' d f n := by
  obtain ⟨a, wh, xs, h1, h2, h3⟩ := h
  exact ⟨a, wh, xs, k _ _ n1 h1, k _ _ n2 h2, h3⟩
theorem Deck.mono {H : Hp} {d f : Addr} {n m : Int} (h : Deck H d f n) (hm : n ≤ m) : Deck H d f m := by
  obtain ⟨a, wh, xs, h1, h2, h3, h4, h5⟩ := h
  exact ⟨a, wh, xs, h1, h2, h3, by omega, h5⟩
theorem Deck.lst {H : Hp} {d f : Addr} {n : Int} (h : Deck H d f n) : ∃ zs, H d = some (.lst zs) := by
  obtain ⟨a, wh, xs, h1, h2, h3⟩ := h
  exact ⟨_, h1⟩
theorem Deck.lst2 {H : Hp} {d f : Addr} {n : Int} (h : Deck H d f n) : ∃ zs, H f = some (.lst zs) := by
  obtain ⟨a, wh, xs, h1, h2, h3⟩ := h
  exact ⟨_, h2⟩
theorem seq_have {t u : TS} {D : Ends} {σ : L2.St} {H : Hp} (Mid : L2.St → Hp → Prop) (h2 : ∀ σ' H', Mid σ' H' → u D σ' H') (h1 : (∀ σ' H', Mid σ' H' → u D σ' H') → t { D with nx := u D } σ H) : tSeq t u D σ H := h1 h2
theorem seq_if {c : TT} {t1 t2 u : TS} {D : Ends} {σ : L2.St} {H : Hp} (Mid : L2.St → Hp → Prop) (h2 : ∀ σ' H', Mid σ' H' → u D σ' H') (h1 : (∀ σ' H', Mid σ' H' → u D σ' H') → tIfS c t1 t2 { D with nx := u D } σ H) : tSeq (tIfS c t1 t2) u D σ H := h1 h2
theorem nin1 {a b : Addr} (h : a ≠ b) : a ∉ [b] := fun z => h (List.mem_singleton.mp z)
theorem nin2 {a b c : Addr} (h : a ≠ b) (h' : a ≠ c) : a ∉ [b, c] := fun z => by
  rcases List.mem_cons.mp z with z | z
  · exact h z
  · exact h' (List.mem_singleton.mp z)
section
variable {α : Type}
/-- an object at p whose dict by_hand stands at q -/
def HoldAt (enc : α → PyData) (K : PySem.W.Frag) (C : Addr) (H : Hp) (p q : Addr) (m : List (Int × α)) : Prop :=
  (∃ dx, H p = some (.ins C dx [("by_hand", .ref q)])) ∧ DictAt enc K H q m
variable {enc : α → PyData} {K : PySem.W.Frag} {C : Addr} {H H' : Hp}
theorem HoldAt.kp {M : List Addr} {p q : Addr} {m : List (Int × α)} (h : HoldAt enc K C H p q m) (k : Kp M H H') (t : TK H H') (n1 : p ∉ M) (n2 : q ∉ M) : HoldAt enc K C H' p q m := by
  obtain ⟨⟨dx, a⟩, b⟩ := h
  exact ⟨⟨dx, k _ _ n1 a⟩, b.kp k t n2⟩
/-- n objects and n dicts, in two lists -/
structure Rack (enc : α → PyData) (K : PySem.W.Frag) (C : Addr) (H : Hp) (L1 L2 : Addr) (n : Nat) (p q md : Nat → Addr) (m m' : Nat → List (Int × α)) : Prop where
  l1 : H L1 = some (.lst ((List.range n).map fun j => V.ref (p j)))
  l2 : H L2 = some (.lst ((List.range n).map fun j => V.ref (md j)))
  ok : ∀ j, j < n → HoldAt enc K C H (p j) (q j) (m j)
  mo : ∀ j, j < n → DictAt enc K H (md j) (m' j)
  dq : ∀ i j, i < n → j < n → i ≠ j → q i ≠ q j
  dm : ∀ i j, i < n → j < n → i ≠ j → md i ≠ md j
  dx : ∀ i j, i < n → j < n → q i ≠ md j
variable {L1 L2 : Addr} {n : Nat} {p q md : Nat → Addr} {m m' : Nat → List (Int × α)}
theorem Rack.kp {M : List Addr} (R : Rack enc K C H L1 L2 n p q md m m') (k : Kp M H H') (t : TK H H') (h : ∀ x ∈ M, x ≠ L1 ∧ x ≠ L2 ∧ ∀ j, j < n → x ≠ p j ∧ x ≠ q j ∧ x ≠ md j) : Rack enc K C H' L1 L2 n p q md m m' where
  l1 := k _ _ (fun z => (h _ z).1 rfl) R.l1
  l2 := k _ _ (fun z => (h _ z).2.1 rfl) R.l2
  ok := fun j hj => (R.ok j hj).kp k t (fun z => ((h _ z).2.2 j hj).1 rfl) (fun z => ((h _ z).2.2 j hj).2.1 rfl)
  mo := fun j hj => (R.mo j hj).kp k t (fun z => ((h _ z).2.2 j hj).2.2 rfl)
  dq := R.dq
  dm := R.dm
  dx := R.dx
/-- a list beside was written -/
theorem Rack.lst {d : Addr} {zs : List V} (R : Rack enc K C H L1 L2 n p q md m m') (k : Kp [d] H H') (t : TK H H') (hd : H d = some (.lst zs)) (n1 : d ≠ L1) (n2 : d ≠ L2) : Rack enc K C H' L1 L2 n p q md m m' :=
  R.kp k t fun x hx => by
    rw [List.mem_singleton] at hx
    subst hx
    refine ⟨n1, n2, fun j hj => ?_⟩
    obtain ⟨⟨dx, a⟩, kvs, b, _⟩ := R.ok j hj
    obtain ⟨kvs', c, _⟩ := R.mo j hj
    exact ⟨ne_of hd a (by intro z; cases z), ne_of hd b (by intro z; cases z), ne_of hd c (by intro z; cases z)⟩
theorem Rack.same (R : Rack enc K C H L1 L2 n p q md m m') (s : Same H H') : Rack enc K C H' L1 L2 n p q md m m' :=
  R.kp (M := []) (Kp.of s) (TK.of s) fun x hx => by cases hx
/-- the k-th object's dict is another one -/
theorem Rack.setq {i : Nat} {mn : List (Int × α)} (R : Rack enc K C H L1 L2 n p q md m m') (hi : i < n) (k : Kp [q i] H H') (t : TK H H') (h : HoldAt enc K C H' (p i) (q i) mn) :
    Rack enc K C H' L1 L2 n p q md (fun j => if j = i then mn else m j) m' := by
  obtain ⟨_, kvq, hq, _⟩ := R.ok i hi
  refine ⟨k _ _ (nin1 (ne_of R.l1 hq (by intro z; cases z))) R.l1, k _ _ (nin1 (ne_of R.l2 hq (by intro z; cases z))) R.l2, fun j hj => ?_, fun j hj => ?_, R.dq, R.dm, R.dx⟩
  · by_cases e : j = i
    · subst e
      simp only [if_true]
      exact h
    · simp only [if_neg e]
      obtain ⟨⟨dx, a⟩, _⟩ := R.ok j hj
      exact (R.ok j hj).kp k t (nin1 (ne_of a hq (by intro z; cases z))) (nin1 (R.dq j i hj hi e))
  · exact (R.mo j hj).kp k t (nin1 (fun z => R.dx i j hi hj z.symm))
theorem Rack.setm {i : Nat} {mn : List (Int × α)} (R : Rack enc K C H L1 L2 n p q md m m') (hi : i < n) (k : Kp [md i] H H') (t : TK H H') (h : DictAt enc K H' (md i) mn) :
    Rack enc K C H' L1 L2 n p q md m (fun j => if j = i then mn else m' j) := by
  obtain ⟨kvq, hq, _⟩ := R.mo i hi
  refine ⟨k _ _ (nin1 (ne_of R.l1 hq (by intro z; cases z))) R.l1, k _ _ (nin1 (ne_of R.l2 hq (by intro z; cases z))) R.l2, fun j hj => ?_, fun j hj => ?_, R.dq, R.dm, R.dx⟩
  · obtain ⟨⟨dx, a⟩, _⟩ := R.ok j hj
    exact (R.ok j hj).kp k t (nin1 (ne_of a hq (by intro z; cases z))) (nin1 (R.dx j i hj hi))
  · by_cases e : j = i
    · subst e
      simp only [if_true]
      exact h
    · simp only [if_neg e]
      exact (R.mo j hj).kp k t (nin1 (R.dm j i hj hi e))
/-- one more -/
theorem Rack.push {pn qn mdn : Addr} {mn : List (Int × α)} (R : Rack enc K C H L1 L2 n p q md m m') (k : Kp [L1, L2] H H') (t : TK H H') (h1 : H' L1 = some (.lst (((List.range n).map fun j => V.ref (p j)) ++ [V.ref pn]))) (h2 : H' L2 = some (.lst (((List.range n).map fun j => V.ref (md j)) ++ [V.ref mdn])))
    (hp : HoldAt enc K C H' pn qn mn) (hm : DictAt enc K H' mdn mn) (nq : H qn = none) (nm : H mdn = none) (nqm : qn ≠ mdn) :
    Rack enc K C H' L1 L2 (n + 1) (fun j => if j = n then pn else p j) (fun j => if j = n then qn else q j) (fun j => if j = n then mdn else md j) (fun j => if j = n then mn else m j) (fun j => if j = n then mn else m' j) := by
  have e1 : ∀ (f : Nat → Addr) (x : Addr), (List.range (n + 1)).map (fun j => V.ref (if j = n then x else f j)) = ((List.range n).map fun j => V.ref (f j)) ++ [V.ref x] := fun f x => by
    rw [List.range_succ, List.map_append, List.map_singleton, if_pos rfl]
    congr 1
    refine List.map_congr_left fun j hj => ?_
    rw [List.mem_range] at hj
    rw [if_neg (by omega)]
  have hq : ∀ j, j < n → q j ≠ qn ∧ q j ≠ mdn := fun j hj => by
    obtain ⟨_, kv, a, _⟩ := R.ok j hj
    exact ⟨ne_of_none a nq, ne_of_none a nm⟩
  have hmd : ∀ j, j < n → md j ≠ qn ∧ md j ≠ mdn := fun j hj => by
    obtain ⟨kv, a, _⟩ := R.mo j hj
    exact ⟨ne_of_none a nq, ne_of_none a nm⟩
  refine ⟨by rw [e1]; exact h1, by rw [e1]; exact h2, fun j hj => ?_, fun j hj => ?_, fun i j hi hj e => ?_, fun i j hi hj e => ?_, fun i j hi hj => ?_⟩
  · by_cases e : j = n
    · simp only [if_pos e]
      exact hp
    · simp only [if_neg e]
      obtain ⟨⟨dx, a⟩, kv, b, _⟩ := R.ok j (by omega)
      exact (R.ok j (by omega)).kp k t (nin2 (ne_of a R.l1 (by intro z; cases z)) (ne_of a R.l2 (by intro z; cases z))) (nin2 (ne_of b R.l1 (by intro z; cases z)) (ne_of b R.l2 (by intro z; cases z)))
  · by_cases e : j = n
    · simp only [if_pos e]
      exact hm
    · simp only [if_neg e]
      obtain ⟨kv, b, _⟩ := R.mo j (by omega)
      exact (R.mo j (by omega)).kp k t (nin2 (ne_of b R.l1 (by intro z; cases z)) (ne_of b R.l2 (by intro z; cases z)))
  · by_cases ei : i = n
    · have ej : ¬ j = n := by omega
      simp only [if_pos ei, if_neg ej]
      exact (hq j (by omega)).1.symm
    · by_cases ej : j = n
      · simp only [if_neg ei, if_pos ej]
        exact (hq i (by omega)).1
      · simp only [if_neg ei, if_neg ej]
        exact R.dq i j (by omega) (by omega) e
  · by_cases ei : i = n
    · have ej : ¬ j = n := by omega
      simp only [if_pos ei, if_neg ej]
      exact (hmd j (by omega)).2.symm
    · by_cases ej : j = n
      · simp only [if_neg ei, if_pos ej]
        exact (hmd i (by omega)).2
      · simp only [if_neg ei, if_neg ej]
        exact R.dm i j (by omega) (by omega) e
  · by_cases ei : i = n
    · by_cases ej : j = n
      · simp only [if_pos ei, if_pos ej]
        exact nqm
      · simp only [if_pos ei, if_neg ej]
        exact (hmd j (by omega)).1.symm
    · by_cases ej : j = n
      · simp only [if_neg ei, if_pos ej]
        exact (hq i (by omega)).2
      · simp only [if_neg ei, if_neg ej]
        exact R.dx i j (by omega) (by omega)
end
section
variable {α : Type} {enc : α → PyData} {K : PySem.W.Frag} {C : Addr} {H H' : Hp}
theorem HoldAt.lst {d p q : Addr} {zs : List V} {m : List (Int × α)} (h : HoldAt enc K C H p q m) (k : Kp [d] H H') (t : TK H H') (hd : H d = some (.lst zs)) : HoldAt enc K C H' p q m := by
  obtain ⟨⟨dx, a⟩, kv, b, _⟩ := id h
  exact h.kp k t (nin1 (ne_of a hd (by intro z; cases z))) (nin1 (ne_of b hd (by intro z; cases z)))
theorem HoldAt.same {p q : Addr} {m : List (Int × α)} (h : HoldAt enc K C H p q m) (s : Same H H') : HoldAt enc K C H' p q m :=
  h.kp (M := []) (Kp.of s) (TK.of s) (by simp) (by simp)
theorem DictAt.lst {d q : Addr} {zs : List V} {m : List (Int × α)} (h : DictAt enc K H q m) (k : Kp [d] H H') (t : TK H H') (hd : H d = some (.lst zs)) : DictAt enc K H' q m := by
  obtain ⟨kv, b, _⟩ := id h
  exact h.kp k t (nin1 (ne_of b hd (by intro z; cases z)))
theorem DictAt.same {q : Addr} {m : List (Int × α)} (h : DictAt enc K H q m) (s : Same H H') : DictAt enc K H' q m :=
  h.kp (M := []) (Kp.of s) (TK.of s) (by simp)
theorem Deck.same {d f : Addr} {n : Int} (h : Deck H d f n) (s : Same H H') : Deck H' d f n := h.kp (M := []) (Kp.of s) (by simp) (by simp)
/-- a dict beside was written -/
theorem Deck.dict {d f q : Addr} {n : Int} {m : List (Int × α)} (h : Deck H d f n) (k : Kp [q] H H') (hq : DictAt enc K H q m) : Deck H' d f n := by
  obtain ⟨kv, b, _⟩ := hq
  obtain ⟨zs, h1⟩ := h.lst
  obtain ⟨zf, h2⟩ := h.lst2
  exact h.kp k (nin1 (ne_of h1 b (by intro z; cases z))) (nin1 (ne_of h2 b (by intro z; cases z)))
variable {La Lb : Addr} {n : Nat} {p q md : Nat → Addr} {m m' : Nat → List (Int × α)}
/-- the k-th object's dict, the k-th dict and a list beside are others -/
theorem Rack.set2 {d : Addr} {zs : List V} {i : Nat} {mn mn' : List (Int × α)} (R : Rack enc K C H La Lb n p q md m m') (hi : i < n) (k : Kp [d, q i, md i] H H') (t : TK H H') (hd : H d = some (.lst zs)) (n1 : d ≠ La) (n2 : d ≠ Lb)
    (h : HoldAt enc K C H' (p i) (q i) mn) (h' : DictAt enc K H' (md i) mn') :
    Rack enc K C H' La Lb n p q md (fun j => if j = i then mn else m j) (fun j => if j = i then mn' else m' j) := by
  obtain ⟨_, kvq, hq, _⟩ := R.ok i hi
  obtain ⟨kvm, hm, _⟩ := R.mo i hi
  have nin : ∀ {x : Addr}, x ≠ d → x ≠ q i → x ≠ md i → x ∉ [d, q i, md i] := fun a b c z => by
    rcases List.mem_cons.mp z with z | z
    · exact a z
    · exact nin2 b c z
  refine ⟨k _ _ (nin n1.symm (ne_of R.l1 hq (by intro z; cases z)) (ne_of R.l1 hm (by intro z; cases z))) R.l1, k _ _ (nin n2.symm (ne_of R.l2 hq (by intro z; cases z)) (ne_of R.l2 hm (by intro z; cases z))) R.l2, fun j hj => ?_, fun j hj => ?_, R.dq, R.dm, R.dx⟩
  · by_cases e : j = i
    · subst e
      simp only [if_true]
      exact h
    · simp only [if_neg e]
      obtain ⟨⟨dx, a⟩, kv, b, _⟩ := R.ok j hj
      exact (R.ok j hj).kp k t (nin (ne_of a hd (by intro z; cases z)) (ne_of a hq (by intro z; cases z)) (ne_of a hm (by intro z; cases z))) (nin (ne_of b hd (by intro z; cases z)) (R.dq j i hj hi e) (R.dx j i hj hi))
  · by_cases e : j = i
    · subst e
      simp only [if_true]
      exact h'
    · simp only [if_neg e]
      obtain ⟨kv, b, _⟩ := R.mo j hj
      exact (R.mo j hj).kp k t (nin (ne_of b hd (by intro z; cases z)) (fun z => R.dx i j hi hj z.symm) (R.dm j i hj hi e))
end
theorem at3 {x y z : V} {r : Int} (h0 : 0 ≤ r) (h1 : r < 3) : ∃ v, atI [x, y, z] r = some v ∧ (v = x ∨ v = y ∨ v = z) := by
  have h : r = 0 ∨ r = 1 ∨ r = 2 := by omega
  rcases h with rfl | rfl | rfl
  · exact ⟨x, rfl, .inl rfl⟩
  · exact ⟨y, rfl, .inr (.inl rfl)⟩
  · exact ⟨z, rfl, .inr (.inr rfl)⟩
theorem at5 {a b c d e : Int} {r : Int} (h0 : 0 ≤ r) (h1 : r < 5) : ∃ v : Int, atI [V.int a, .int b, .int c, .int d, .int e] r = some (.int v) := by
  have h : r = 0 ∨ r = 1 ∨ r = 2 ∨ r = 3 ∨ r = 4 := by omega
  rcases h with rfl | rfl | rfl | rfl | rfl <;> exact ⟨_, rfl⟩
theorem atR {n : Nat} {f : Nat → Addr} {r : Int} (h0 : 0 ≤ r) (h1 : r < n) : atI ((List.range n).map fun j => V.ref (f j)) r = some (.ref (f r.toNat)) := by
  have e : ((r.toNat : Nat) : Int) = r := by omega
  have := atI_nat (xs := (List.range n).map fun j => V.ref (f j)) (j := r.toNat) (v := .ref (f r.toNat)) (by
    rw [List.getElem?_map, List.getElem?_range (by omega)]
    rfl)
  rw [e] at this
  exact this
def spLaw (K : PySem.W.Frag) : Sp := fun vs H Q _ => ∃ (a : Addr) (ns : List Int), vs = [.ref a] ∧ SqL K H a (ns.map V.int) ∧ ns.length ≤ 63 ∧ ∀ H', Q (.bl true) H'
/-! ### lists of data -/
def LstAt (K : PySem.W.Frag) (H : Hp) (a : Addr) (ds : List PyData) : Prop := ∃ xs, H a = some (.lst xs) ∧ RpL K H ds xs
section
variable {K : PySem.W.Frag} {H H' : Hp}
theorem LstAt.kp {M : List Addr} {a : Addr} {ds : List PyData} (h : LstAt K H a ds) (k : Kp M H H') (t : TK H H') (n : a ∉ M) : LstAt K H' a ds := by
  obtain ⟨xs, h1, h2⟩ := h
  exact ⟨xs, k _ _ n h1, RpL.tk t _ _ h2⟩
theorem LstAt.same {a : Addr} {ds : List PyData} (h : LstAt K H a ds) (s : Same H H') : LstAt K H' a ds := h.kp (M := []) (Kp.of s) (TK.of s) (by simp)
theorem LstAt.lst {a : Addr} {ds : List PyData} (h : LstAt K H a ds) : ∃ zs, H a = some (.lst zs) := ⟨_, h.choose_spec.1⟩
theorem RpL.app : ∀ {ds es : List PyData} {xs ys : List V}, RpL K H ds xs → RpL K H es ys → RpL K H (ds ++ es) (xs ++ ys)
  | [], es, xs, ys, h1, h2 => by
    unfold RpL at h1
    subst h1
    exact h2
  | d :: ds, es, xs, ys, h1, h2 => by
    unfold RpL at h1
    obtain ⟨v, r, rfl, a, b⟩ := h1
    show RpL K H (d :: (ds ++ es)) (v :: (r ++ ys))
    exact RpL.cons a (RpL.app b h2)
theorem RpL.take : ∀ (k : Nat) {ds : List PyData} {xs : List V}, RpL K H ds xs → RpL K H (ds.take k) (xs.take k)
  | 0, ds, xs, _ => by
    rw [List.take_zero, List.take_zero]
    exact RpL.nil
  | k + 1, [], xs, h => by
    unfold RpL at h
    subst h
    exact RpL.nil
  | k + 1, d :: ds, xs, h => by
    unfold RpL at h
    obtain ⟨v, r, rfl, a, b⟩ := h
    exact RpL.cons a (RpL.take k b)
theorem RpL.drop : ∀ (k : Nat) {ds : List PyData} {xs : List V}, RpL K H ds xs → RpL K H (ds.drop k) (xs.drop k)
  | 0, ds, xs, h => h
  | k + 1, [], xs, h => by
    unfold RpL at h
    subst h
    exact RpL.nil
  | k + 1, d :: ds, xs, h => by
    unfold RpL at h
    obtain ⟨v, r, rfl, a, b⟩ := h
    exact RpL.drop k b
theorem inV_int {k : Int} : ∀ ns : List Int, inV (.int k) (ns.map V.int) = decide (k ∈ ns)
  | [] => by simp [inV]
  | n :: ns => by
    have h := inV_int (k := k) ns
    unfold inV at h ⊢
    rw [List.map_cons, List.any_cons, h]
    show ((n == k) || _) = _
    by_cases e : n = k
    · simp [e]
    · have e2 : ¬ k = n := fun z => e z.symm
      simp [e, e2]
theorem flat_ints (ns : List Int) : (ns.map V.int).all flatV = true := by
  rw [List.all_eq_true]
  intro x hx
  obtain ⟨n, _, rfl⟩ := List.mem_map.mp hx
  rfl
theorem set_wipe {σ : L2.St} {i : Nat} {x : Option V} : (wipe σ [i]).set i x = σ.set i x := by
  show (σ.set i none).set i x = _
  rw [List.set_set]
theorem wipe_set {σ : L2.St} {i : Nat} {x : Option V} : wipe (σ.set i x) [i] = wipe σ [i] := by
  show (σ.set i x).set i none = σ.set i none
  rw [List.set_set]
/-- [x for x in xs if test] -/
theorem filt_lc {β : Type} {enc : β → PyData} {tt : TT} {i : Nat} {σ : L2.St} {H2 : Hp} {S D : Addr} {xs : List V} {L : List β} {Qd : Hp → Prop} (p : β → Bool) (hS : H2 S = some (.lst xs)) (hr : RpL K H2 (L.map enc) xs) (hD : H2 D = none) (hσ : i < σ.length) (hl : L.length ≤ 1000000)
    (htt : ∀ (b : β) (x : V) (H' : Hp) (Q : Bool → Hp → Prop), b ∈ L → Rp K H' (enc b) x → Same H2 H' → Q (p b) H' → tt (σ.set i (some x)) H' Q)
    (hd : ∀ (H' : Hp) (ys : List V), Same H2 H' → H' D = some (.lst ys) → RpL K H' ((L.filter p).map enc) ys → Qd H') :
    ∃ W : Nat → Nat → Hp → Prop, (∃ m, W 0 m (upd H2 D (.lst []))) ∧ ∀ j m H, W j m H →
      ((Itl K S).stop j H ∧ Qd H) ∨ ((Itl K S).go j H ∧ ∃ Nx : Hp → Prop, (∀ H', Nx H' → ∃ m', m' < m ∧ W (j + 1) m' H') ∧ ∀ x H', (Itl K S).yld j H x H' → gName i x (wipe σ [i]) H' fun σ2 H2 => wipe σ2 [i] = wipe σ [i] ∧ tt σ2 H2 fun b H3 =>
        if b = true then tVar i σ2 H3 fun y H4 => ∃ acc, H4 D = some (.lst acc) ∧ acc.length < sizeLine ∧ Nx (upd H4 D (.lst (acc ++ [y]))) else Nx H3) := by
  refine lc_list (K := K) (a := S) (xs := xs) (fun j H => ∃ ys, Same H2 H ∧ H D = some (.lst ys) ∧ RpL K H (((L.take j).filter p).map enc) ys)
    ⟨[], (L2.Same.refl H2).new hD, upd_same, RpL.nil⟩ (fun j H _ ⟨ys, s, _, _⟩ => SqL.of (s _ _ hS)) ?_ ?_
  · rintro j x H3 hx ⟨ys, s3, hD3, hr3⟩
    have hlen := RpL.len _ _ hr
    have hj : j < L.length := by
      have q := (List.getElem?_eq_some_iff.mp hx).1
      rw [hlen, List.length_map] at q
      exact q
    obtain ⟨v, ev, rv⟩ := RpL.get _ _ hr j (enc L[j]) (by rw [List.getElem?_map, List.getElem?_eq_getElem hj]; rfl)
    have ex : v = x := Option.some.inj (ev.symm.trans hx)
    rw [ex] at rv
    have rx := Rp.tk (TK.of s3) _ _ rv
    show wipe ((wipe σ [i]).set i (some x)) [i] = wipe σ [i] ∧ _
    rw [set_wipe]
    refine ⟨wipe_set, ?_⟩
    have hly : ys.length < sizeLine := by
      have := RpL.len _ _ hr3
      rw [List.length_map] at this
      have h2 := List.length_filter_le p (L.take j)
      rw [List.length_take] at h2
      exact Nat.lt_of_le_of_lt (show ys.length ≤ 1000000 by omega) (by decide)
    refine htt L[j] x H3 _ (List.getElem_mem hj) rx s3 ?_
    have et : L.take (j + 1) = L.take j ++ [L[j]] := List.take_succ_eq_append_getElem hj
    cases e : p L[j] with
    | false =>
      refine iteF ⟨ys, s3, hD3, ?_⟩
      rw [et, List.filter_append, List.filter_cons, e]
      simpa using hr3
    | true =>
      refine iteT ⟨x, ?_, ys, hD3, hly, ys ++ [x], s3.wrn hD, upd_same, ?_⟩
      · rw [List.getElem?_set_self hσ]
      · have tE : TK H3 (upd H3 D (.lst (ys ++ [x]))) := (TK.refl _).wr hD3 rfl
        rw [et, List.filter_append, List.filter_cons, e, List.map_append]
        exact RpL.app (RpL.tk tE _ _ hr3) (RpL.cons (Rp.tk tE _ _ rx) RpL.nil)
  · rintro H3 ⟨ys, s3, hD3, hr3⟩
    have hlen := RpL.len _ _ hr
    rw [hlen, List.length_map, List.take_length] at hr3
    exact hd H3 ys s3 hD3 hr3
/-- [number of x for x in xs] -/
theorem mapI_lc {β : Type} {enc : β → PyData} {te : TE} {i : Nat} {σ : L2.St} {H2 : Hp} {S D : Addr} {xs : List V} {L : List β} {Qd : Hp → Prop} (f : β → Int) (hS : H2 S = some (.lst xs)) (hr : RpL K H2 (L.map enc) xs) (hD : H2 D = none) (hl : L.length ≤ 1000000)
    (hte : ∀ (b : β) (x : V) (H' : Hp) (Q : VK), b ∈ L → Rp K H' (enc b) x → Same H2 H' → Q (.int (f b)) H' → te (σ.set i (some x)) H' Q)
    (hd : ∀ (H' : Hp), Same H2 H' → H' D = some (.lst ((L.map f).map V.int)) → Qd H') :
    ∃ W : Nat → Nat → Hp → Prop, (∃ m, W 0 m (upd H2 D (.lst []))) ∧ ∀ j m H, W j m H →
      ((Itl K S).stop j H ∧ Qd H) ∨ ((Itl K S).go j H ∧ ∃ Nx : Hp → Prop, (∀ H', Nx H' → ∃ m', m' < m ∧ W (j + 1) m' H') ∧ ∀ x H', (Itl K S).yld j H x H' → gName i x (wipe σ [i]) H' fun σ2 H2 => wipe σ2 [i] = wipe σ [i] ∧ tYes σ2 H2 fun b H3 =>
        if b = true then te σ2 H3 fun y H4 => ∃ acc, H4 D = some (.lst acc) ∧ acc.length < sizeLine ∧ Nx (upd H4 D (.lst (acc ++ [y]))) else Nx H3) := by
  refine lc_list (K := K) (a := S) (xs := xs) (fun j H => Same H2 H ∧ H D = some (.lst (((L.take j).map f).map V.int)))
    ⟨(L2.Same.refl H2).new hD, upd_same⟩ (fun j H _ ⟨s, _⟩ => SqL.of (s _ _ hS)) ?_ ?_
  · rintro j x H3 hx ⟨s3, hD3⟩
    have hlen := RpL.len _ _ hr
    have hj : j < L.length := by
      have q := (List.getElem?_eq_some_iff.mp hx).1
      rw [hlen, List.length_map] at q
      exact q
    obtain ⟨v, ev, rv⟩ := RpL.get _ _ hr j (enc L[j]) (by rw [List.getElem?_map, List.getElem?_eq_getElem hj]; rfl)
    have ex : v = x := Option.some.inj (ev.symm.trans hx)
    rw [ex] at rv
    have rx := Rp.tk (TK.of s3) _ _ rv
    show wipe ((wipe σ [i]).set i (some x)) [i] = wipe σ [i] ∧ _
    rw [set_wipe]
    refine ⟨wipe_set, tYes_t (iteT ?_)⟩
    refine hte L[j] x H3 _ (List.getElem_mem hj) rx s3 ⟨_, hD3, ?_, s3.wrn hD, ?_⟩
    · rw [List.length_map, List.length_map, List.length_take]
      exact Nat.lt_of_le_of_lt (show min j L.length ≤ 1000000 by omega) (by decide)
    · rw [upd_same, List.take_succ_eq_append_getElem hj, List.map_append, List.map_append]
      rfl
  · rintro H3 ⟨s3, hD3⟩
    have hlen := RpL.len _ _ hr
    rw [hlen, List.length_map, List.take_length] at hD3
    exact hd H3 s3 hD3
end
section
variable {K : PySem.W.Frag} {H H' : Hp}
/-- [e for x in xs], each e data -/
theorem mapD_it {J : It} {G : Hp → Prop} {β : Type} {enc : β → PyData} {te : TE} {i : Nat} {σ : L2.St} {H2 : Hp} {D : Addr} {xs : List V} {L : List β} {Qd : Hp → Prop} (w : Walk J xs.length G (YAt xs)) (hG : ∀ H', Same H2 H' → G H') (g : β → PyData) (hr : RpL K H2 (L.map enc) xs) (hD : H2 D = none) (hl : L.length ≤ 1000000)
    (hte : ∀ (b : β) (x : V) (H' : Hp) (Q : VK), b ∈ L → Rp K H' (enc b) x → Same H2 H' → (∀ (H'' : Hp) (y : V), Same H' H'' → Rp K H'' (g b) y → Q y H'') → te (σ.set i (some x)) H' Q)
    (hd : ∀ (H' : Hp) (ys : List V), Same H2 H' → H' D = some (.lst ys) → RpL K H' (L.map g) ys → Qd H') :
    ∃ W : Nat → Nat → Hp → Prop, (∃ m, W 0 m (upd H2 D (.lst []))) ∧ ∀ j m H, W j m H →
      (J.stop j H ∧ Qd H) ∨ (J.go j H ∧ ∃ Nx : Hp → Prop, (∀ H', Nx H' → ∃ m', m' < m ∧ W (j + 1) m' H') ∧ ∀ x H', J.yld j H x H' → gName i x (wipe σ [i]) H' fun σ2 H2 => wipe σ2 [i] = wipe σ [i] ∧ tYes σ2 H2 fun b H3 =>
        if b = true then te σ2 H3 fun y H4 => ∃ acc, H4 D = some (.lst acc) ∧ acc.length < sizeLine ∧ Nx (upd H4 D (.lst (acc ++ [y]))) else Nx H3) := by
  refine lc_it w (fun j H => ∃ ys, Same H2 H ∧ H D = some (.lst ys) ∧ RpL K H ((L.take j).map g) ys)
    ⟨[], (L2.Same.refl H2).new hD, upd_same, RpL.nil⟩ (fun j H _ ⟨ys, s, _⟩ => hG H s) ?_ ?_
  · rintro j x H3 H3' hj ⟨ys, s3, hD3, hr3⟩ ⟨rfl, hx⟩
    have hlen := RpL.len _ _ hr
    rw [List.length_map] at hlen
    have hj : j < L.length := by omega
    obtain ⟨v, ev, rv⟩ := RpL.get _ _ hr j (enc L[j]) (by rw [List.getElem?_map, List.getElem?_eq_getElem hj]; rfl)
    have ex : v = x := Option.some.inj (ev.symm.trans hx)
    rw [ex] at rv
    have rx := Rp.tk (TK.of s3) _ _ rv
    show wipe ((wipe σ [i]).set i (some x)) [i] = wipe σ [i] ∧ _
    rw [set_wipe]
    refine ⟨wipe_set, tYes_t (iteT ?_)⟩
    refine hte L[j] x H3' _ (List.getElem_mem hj) rx s3 fun H4 y s4 ry => ⟨ys, s4 _ _ hD3, ?_, ys ++ [y], (s3.trans s4).wrn hD, upd_same, ?_⟩
    · have := RpL.len _ _ hr3
      rw [List.length_map, List.length_take] at this
      exact Nat.lt_of_le_of_lt (show ys.length ≤ 1000000 by omega) (by decide)
    · have tE : TK H4 (upd H4 D (.lst (ys ++ [y]))) := (TK.refl _).wr (s4 _ _ hD3) rfl
      rw [List.take_succ_eq_append_getElem hj, List.map_append]
      exact RpL.app (RpL.tk ((TK.of s4).trans tE) _ _ hr3) (RpL.cons (Rp.tk tE _ _ ry) RpL.nil)
  · rintro H3 ⟨ys, s3, hD3, hr3⟩
    have hlen := RpL.len _ _ hr
    rw [hlen, List.length_map, List.take_length] at hr3
    exact hd H3 ys s3 hD3 hr3
theorem RpL.ints : ∀ {ns : List Int} {ys : List V}, RpL K H (ns.map PyData.int) ys → ys = ns.map V.int
  | [], ys, h => by
    unfold List.map RpL at h
    exact h
  | n :: ns, ys, h => by
    rw [List.map_cons] at h
    unfold RpL at h
    obtain ⟨v, r, rfl, h1, h2⟩ := h
    unfold Rp at h1
    rw [RpL.ints h2, h1]
    rfl
theorem dp_ints : ∀ (ns : List Int), DpAll K H (ns.map V.int) (ns.map PyData.int)
  | [] => .nil
  | n :: ns => .cons (.int n) (dp_ints ns)
theorem LstAt.dict {α : Type} {enc : α → PyData} {a q : Addr} {ds : List PyData} {m : List (Int × α)} (h : LstAt K H a ds) (k : Kp [q] H H') (t : TK H H') (hq : DictAt enc K H q m) : LstAt K H' a ds := by
  obtain ⟨xs, h1, _⟩ := id h
  obtain ⟨kv, h2, _⟩ := hq
  exact h.kp k t (nin1 (ne_of h1 h2 (by intro z; cases z)))
theorem dep_ints (ns : List Int) : dep (.tuple (ns.map PyData.int)) ≤ 1 := by
  unfold dep
  have := deps_map_le (c := 0) (f := PyData.int) ns fun x _ => Nat.le_refl _
  omega
end
section
variable {K : PySem.W.Frag} {H H' : Hp}
/-- [e for i in range(..)], each e data -/
theorem mapR_it {J : It} {n : Nat} {fv : Nat → V} {te : TE} {i : Nat} {σ : L2.St} {H2 : Hp} {D : Addr} {Qd : Hp → Prop} (w : Walk J n (fun _ => True) (YFn fv)) (g : Nat → PyData) (hD : H2 D = none) (hl : n ≤ 1000000)
    (hte : ∀ (j : Nat) (H' : Hp) (Q : VK), j < n → Same H2 H' → (∀ (H'' : Hp) (y : V), Same H' H'' → Rp K H'' (g j) y → Q y H'') → te (σ.set i (some (fv j))) H' Q)
    (hd : ∀ (H' : Hp) (ys : List V), Same H2 H' → H' D = some (.lst ys) → RpL K H' ((List.range n).map g) ys → Qd H') :
    ∃ W : Nat → Nat → Hp → Prop, (∃ m, W 0 m (upd H2 D (.lst []))) ∧ ∀ j m H, W j m H →
      (J.stop j H ∧ Qd H) ∨ (J.go j H ∧ ∃ Nx : Hp → Prop, (∀ H', Nx H' → ∃ m', m' < m ∧ W (j + 1) m' H') ∧ ∀ x H', J.yld j H x H' → gName i x (wipe σ [i]) H' fun σ2 H2 => wipe σ2 [i] = wipe σ [i] ∧ tYes σ2 H2 fun b H3 =>
        if b = true then te σ2 H3 fun y H4 => ∃ acc, H4 D = some (.lst acc) ∧ acc.length < sizeLine ∧ Nx (upd H4 D (.lst (acc ++ [y]))) else Nx H3) := by
  refine lc_it w (fun j H => ∃ ys, Same H2 H ∧ H D = some (.lst ys) ∧ RpL K H ((List.range j).map g) ys)
    ⟨[], (L2.Same.refl H2).new hD, upd_same, RpL.nil⟩ (fun j H _ _ => trivial) ?_ ?_
  · rintro j x H3 H3' hj ⟨ys, s3, hD3, hr3⟩ ⟨rfl, rfl⟩
    show wipe ((wipe σ [i]).set i (some (fv j))) [i] = wipe σ [i] ∧ _
    rw [set_wipe]
    refine ⟨wipe_set, tYes_t (iteT ?_)⟩
    refine hte j H3' _ hj s3 fun H4 y s4 ry => ⟨ys, s4 _ _ hD3, ?_, ys ++ [y], (s3.trans s4).wrn hD, upd_same, ?_⟩
    · have := RpL.len _ _ hr3
      rw [List.length_map, List.length_range] at this
      exact Nat.lt_of_le_of_lt (show ys.length ≤ 1000000 by omega) (by decide)
    · have tE : TK H4 (upd H4 D (.lst (ys ++ [y]))) := (TK.refl _).wr (s4 _ _ hD3) rfl
      rw [List.range_succ, List.map_append]
      exact RpL.app (RpL.tk ((TK.of s4).trans tE) _ _ hr3) (RpL.cons (Rp.tk tE _ _ ry) RpL.nil)
  · rintro H3 ⟨ys, s3, hD3, hr3⟩
    exact hd H3 ys s3 hD3 hr3
end
end Wn

namespace Wn
open PySem PySem.Spec PyProof.Rows L2
/-- enumerate of a text: each sign in a new pair -/
def ItsE (x : Str) : It :=
  ⟨fun i _ => i < x.cps.size, fun i H v H' => ∃ T c, v = .ref T ∧ H T = none ∧ H' = upd H T (.tup [.int (i : Nat), .str ⟨#[c]⟩]) ∧ x.cps[i]? = some c, fun i _ => x.cps.size ≤ i⟩
theorem turn_enumS {P : Program} {w : World} {K : PySem.W.Frag} {elts : List Expr} {kk : Nat} {tpos : Pos} (e it : Addr) (x : Str) (t : Tok) (ty : String) (hty : ty = "str_ascii_iterator" ∨ ty = "str_iterator") :
    Turn P w K (.Tuple elts kk tpos) (ItsE x) [e, it] e (fun i h => (∃ old, IsEnum h e it ((i : Nat) : Int) old) ∧ h.IsStrIter it ty x t i ∧ e ≠ it) where
  mem := by simp
  obj := fun i h st b hb => by
    obtain ⟨⟨old, he⟩, ⟨o, ho, hc, hd⟩, _⟩ := st
    have e' : b = e ∨ b = it := by simpa using hb
    rcases e' with z | z
    · rw [z]; exact ⟨_, he, fun v q => nomatch q⟩
    · rw [z]; exact ⟨o, ho, fun v q => by rw [hd] at q; cases q⟩
  keep := fun i h h' st k => let ⟨⟨old, he⟩, ⟨o, ho, r⟩, hne⟩ := st; ⟨⟨old, k e (by simp) _ he⟩, ⟨o, k it (by simp) o ho, r⟩, hne⟩
  item := by
    intro X hP hw hK hc i pins s σ H E I hf st hg
    subst hP hw hK
    obtain ⟨⟨old, he⟩, hit, hne⟩ := st
    have hh : X.A.in1.handled = none := I.ok.hd hc
    have hel : e < s.heap.objs.size := Heap.lt_size he
    have hil : it < s.heap.objs.size := by obtain ⟨_, q, _⟩ := hit; exact Heap.lt_size q
    have D : Draws X.prog X.w X.A.in1 it [it] x.cps.size (fun i v => ∃ c u, x.cps[i]? = some c ∧ v = .str ⟨#[c]⟩ u) (fun i h => h.IsStrIter it ty x t i) := by
      rcases hty with z | z
      · rw [z]; exact Draws.strAscii hh it x t
      · rw [z]; exact Draws.strWide hh it x t
    refine wpAny_pyNext_enum_itemD D he hit hg hne (by simpa using hne) fun v h' tk hv ho hit' hT hsz hk => ?_
    obtain ⟨c, u, hcx, rfl⟩ := hv
    refine ⟨_, rfl, wpAny_letOwnedTupleGo_enum (s := { s with heap := h', toks := tk + 1 }) ho fun h'' he' sb => ?_⟩
    have hT2 : h''.get? s.heap.objs.size = some { cls := .type "tuple", data := .seq #[.int i tk, .str ⟨#[c]⟩ u] } := (sb.2 _ (Nat.ne_of_gt hel)).trans hT
    have new : ObjOk X.prog X.w (upd H s.heap.objs.size (.tup [.int (i : Nat), .str ⟨#[c]⟩])) h'' s.heap.objs.size (.tup [.int (i : Nat), .str ⟨#[c]⟩]) :=
      ⟨by show 2 ≤ sizeLine; decide, [.int i tk, .str ⟨#[c]⟩ u], .cons ⟨_, rfl⟩ (.cons ⟨_, rfl⟩ .nil), ⟨_, hT2, rfl, _, rfl⟩⟩
    have I1 : Inv X pins σ (upd H s.heap.objs.size (.tup [.int (i : Nat), .str ⟨#[c]⟩])) { s with heap := h'', toks := tk + 1 } :=
      I.turnedNew (ch := [e, it]) (fun b ob hb q => (sb.2 b (fun z => hb (by simp [z]))).trans (hk b ob (fun z => hb (by simp [z])) (fun z => hb (by simp [z])) q)) hf (Nat.le_refl _) new
    refine ⟨.ref s.heap.objs.size, _, I1, rfl, ⟨_, c, rfl, I.hok.fresh (Nat.le_refl _), rfl, hcx⟩, ⟨⟨.str ⟨#[c]⟩ u, ?_⟩, ?_, hne⟩, fun b hb => ?_⟩
    · have e1 : ((i + 1 : Nat) : Int) = (i : Int) + 1 := by omega
      rw [e1]; exact he'
    · obtain ⟨o, q, r⟩ := hit'
      exact ⟨o, (sb.2 it (Ne.symm hne)).trans q, r⟩
    · have hb' : b < s.heap.objs.size := by
        have e' : b = e ∨ b = it := by simpa using hb
        rcases e' with z | z
        · rw [z]; exact hel
        · rw [z]; exact hil
      rw [upd_ne (Nat.ne_of_lt hb')]
      exact (hf b hb).1
  done := by
    intro X hP hw hK hc i pins s σ H E I hf st hg
    subst hP hw hK
    obtain ⟨⟨old, he⟩, hit, hne⟩ := st
    have hh : X.A.in1.handled = none := I.ok.hd hc
    obtain ⟨f0, f1, f2, f3, f4, f5⟩ := hf it (by simp)
    have D : Draws X.prog X.w X.A.in1 it [it] i (fun i v => False) (fun j h => j = i ∧ h.IsStrIter it ty x t i) := by
      refine ⟨fun _ _ st => let ⟨o, ho, _⟩ := st.2; ⟨o, ho⟩, fun _ _ _ st hk => let ⟨o, ho, r⟩ := st.2; ⟨st.1, o, hk it (by simp) o ho, r⟩, fun j s Q E hj st => absurd st.1 (Nat.ne_of_lt hj), fun s Q E st hE => ?_⟩
      have hx : x.cps[i]? = none := Array.getElem?_eq_none hg
      have st2 := st.2
      rcases hty with z | z
      · rw [z] at st2; exact wpAny_nextOf_ascii_end hh st2 hx hE
      · rw [z] at st2; exact wpAny_nextOf_wide_end hh st2 hx hE
    exact wpAny_pyNext_enum_endD D he ⟨rfl, hit⟩ fun h' eb => ⟨rfl, I.turned (t' := s.toks) (fun b o hb q => eb b o hb q) f0 f1 f3 f4 f5⟩
  self := fun A i s Q E st h => let ⟨⟨_, he⟩, _⟩ := st; wpAny_pyIter_enum he h
def iEnumS (ta : TA) : TI := fun σ H R => ta σ H fun vs H1 => ∃ x, vs = [.str x] ∧ R (ItsE x) H1
theorem pi_enumS {X : Cx} {e : Expr} {ta : TA} {p pos tpos : Pos} {elts : List Expr} {kk : Nat} (hg : Gl X "enumerate") (hm : X.mg "enumerate" = none) (ha : PA X [e] ta) (hs : starEach [e] X.env = [(false, eval e X.env)] := by rfl) :
    PI X (.Tuple elts kk tpos) (.Call (.Name "enumerate" p) [e] [] pos) (iEnumS ta) := by
  refine ⟨fun pins s σ H R I h => ?_⟩
  refine Call_ (ld_blt I hg hm boot_enumerate (PyProof.Rows.callWith_type1 (thn (ha.run pos pins s σ H _ I h) fun us s1 ⟨vs, H1, I1, r1, q1⟩ => ?_) hs rfl))
  obtain ⟨x, ex, q⟩ := q1
  subst ex
  cases r1 with
  | cons r rr =>
    cases rr
    obtain ⟨t, rfl⟩ := r
    refine call_enumerate_str fun h' he hit hsz hk => wpAny_pyIter_enum he ?_
    have I2 : Inv X pins σ H1 { s1 with heap := h' } := I1.kept (t' := s1.toks) hk
    refine ⟨s1.heap.objs.size + 1, [s1.heap.objs.size + 1, s1.heap.objs.size], _, _, H1, rfl, I2, turn_enumS (s1.heap.objs.size + 1) s1.heap.objs.size x t (strIterType x) ?_, ⟨⟨.none, he⟩, hit, Nat.succ_ne_self _⟩, fun b hb => ?_, q⟩
    · unfold strIterType
      split
      · exact .inl rfl
      · exact .inr rfl
    have e' : b = s1.heap.objs.size + 1 ∨ b = s1.heap.objs.size := by simpa using hb
    have hle : s1.heap.objs.size ≤ b := by
      rcases e' with z | z
      · rw [z]; exact Nat.le_add_right _ _
      · rw [z]; exact Nat.le_refl _
    exact I1.fpOk hle (I1.hok.fresh hle)
theorem walk_enumS {x : Str} : Walk (ItsE x) x.cps.size (fun _ => True) (fun i H v H' => ∃ T c, v = .ref T ∧ H T = none ∧ H' = upd H T (.tup [.int (i : Nat), .str ⟨#[c]⟩]) ∧ x.cps[i]? = some c) :=
  ⟨fun _ _ hi _ => hi, fun _ _ => Nat.le_refl _, fun _ _ _ _ _ _ y => y⟩
end Wn

namespace Wn
open PySem L2
open SX (S S_len S_cat S_beq_eq join_S)
theorem joinK {X : Cx} {K : PySem.W.Frag} {o e : Expr} {to te : TE} {apos pos : Pos} (hK : X.K = K) (ho : PE X o to) (he : PE X e te) (hs : starEach [e] X.env = [(false, eval e X.env)] := by rfl) (hbase : attributeBase o "join" X.env (eval o X.env) = eval o X.env := by rfl) (hline : (apos.endLine == pos.line) = true := by rfl) :
    PE X (.Call (.Attribute o "join" apos) [e] [] pos) (tM1 (fun x xs H Q => ∃ a p, ∃ ys : List Str, x = .str a ∧ xs = [.ref p] ∧ (SqL K H p (ys.map V.str) ∨ SqT K H p (ys.map V.str)) ∧
      (ys.map (·.length)).sum + ys.length * a.length ≤ 16777216 ∧ Q (.str (Txt.join a ys)) H) to te) := hK ▸ pe_join ho he hs hbase hline
theorem drop_min {cs : List Nat} {a b : Nat} : (cs.drop (min a cs.length)).take (min b cs.length - min a cs.length) = (cs.drop a).take (b - a) := by
  by_cases h : a ≤ cs.length
  · rw [Nat.min_eq_left h]
    by_cases h2 : b ≤ cs.length
    · rw [Nat.min_eq_left h2]
    · rw [Nat.min_eq_right (by omega), List.take_of_length_le (by rw [List.length_drop]; exact Nat.le_refl _), List.take_of_length_le (by rw [List.length_drop]; omega)]
  · rw [show min a cs.length = cs.length by omega, List.drop_of_length_le (Nat.le_refl _), List.drop_of_length_le (show cs.length ≤ a by omega), List.take_nil, List.take_nil]
theorem cutS_S (cs : List Nat) (a b : Nat) : cutS (S cs) (some (a : Int)) (some (b : Int)) = S ((cs.drop a).take (b - a)) := by
  unfold cutS
  rw [HT.sIx_nat, HT.sIx_nat, S_len, drop_min]
theorem joinL_nil : ∀ ls : List (List Nat), TL.joinL [] ls = ls.flatten
  | [] => rfl
  | [p] => by
    show p = List.flatten [p]
    simp
  | p :: q :: r => by
    show p ++ ([] ++ TL.joinL [] (q :: r)) = _
    rw [List.nil_append, joinL_nil (q :: r)]
    rfl
/-- a list of signs, joined -/
theorem join_signs (cs : List Nat) : Txt.join (S []) (cs.map fun c => S [c]) = S cs := by
  rw [show (cs.map fun c => S [c]) = (cs.map fun c => [c]).map S by rw [List.map_map]; rfl, join_S, joinL_nil]
  congr 1
  induction cs with
  | nil => rfl
  | cons c cs ih =>
    show [c] ++ (cs.map fun c => [c]).flatten = c :: cs
    rw [ih]
    rfl
theorem sum_signs (cs : List Nat) : (((cs.map fun c => S [c]).map (·.length)).sum : Nat) = cs.length := by
  induction cs with
  | nil => rfl
  | cons c cs ih =>
    rw [List.map_cons, List.map_cons, List.sum_cons, ih, List.length_cons, S_len, List.length_singleton]
    omega
def OkSign (c : Nat) : Prop := 32 ≤ c ∧ c ≤ 126 ∧ c ≠ 37
def spSign : Sp := fun vs H Q _ => ∃ (d f : Addr) (n : Int), vs = [.ref d] ∧ Deck H d f n ∧ n < 2 ^ 60 ∧
  ∀ (c : Nat) (H' : Hp), OkSign c → Kp [d] H H' → Deck H' d f (n + 1) → Q (.str (S [c])) H'
def spText : Sp := fun vs H Q _ => ∃ (d f : Addr) (n most : Int), vs = [.ref d, .int most] ∧ Deck H d f n ∧ n < 2 ^ 59 ∧ 0 ≤ most ∧ most ≤ 100000 ∧
  ∀ (cs : List Nat) (H' : Hp), (cs.length : Int) ≤ most → (∀ c ∈ cs, OkSign c) → Kp [d] H H' → Deck H' d f (n + 1 + most) → Q (.str (S cs)) H'
end Wn

namespace Wn
open PySem L2
def top (i : Nat) : Stmt := PySem.Challenge.pw_wrapnets_k22_texts_cut.main.body.getD i (.Pass ⟨0, 0, 0, 0⟩)
abbrev sMixed : Stmt := top 11
abbrev sDeck : Stmt := top 12
abbrev sNext : Stmt := top 13
abbrev sSame : Stmt := top 14
section
variable {P : Program} {w : World} {K : PySem.W.Frag} {mg : Str → Option Value} {base : Heap}
theorem scMixed : FnScope ["_law_cell", "_law_at", "_law_one"] ["_law_cell", "_law_at"] (defScope sMixed) := ⟨rfl, rfl, rfl, by decide +kernel, rfl, by decide +kernel, by decide +kernel⟩
theorem ok_mixed {f : Addr} {fd : FuncData} (F : Fun K "_law_mixed" "_law_mixed" sMixed f fd) : FnOk P w K mg base CX0 1 f fd ["_law_cell", "_law_at"] spMixed := by
  refine F.ok scMixed (fun vs H Q E h => ?_) (fun cdv A outer s H vs Q E hr h => ?_)
  · obtain ⟨c, a, rfl, _⟩ := h
    rfl
  · obtain ⟨c, a, rfl, ha, hb, k⟩ := h
    refine ⟨_, pss_cons (ps_set (i := 2) scMixed.nd rfl (Or.inl rfl) (pe_op op_mod (pe_op op_add (pe_op op_add (pe_op op_mul (pe_op op_mod (pv 0) pe_int) pe_int)
      (pe_op op_mul (pe_op op_mul (pe_op op_add (pv 1) pe_int) (pe_op op_add (pv 1) pe_int)) pe_int)) pe_int) pe_int))
      (pss_one (ps_ret (pe_op op_fdiv (pe_op op_mod (pe_op op_mul (pv 2) (pv 2)) pe_int) pe_int))), ?_⟩
    refine ⟨_, rfl, _, _, rfl, rfl, (by show (0 : Int) < 2147483629; decide), _, _, rfl, rfl, .inr ⟨by decide, by decide⟩, _, rfl, _, _, rfl, rfl, _, rfl, _, _, rfl, rfl, _, _, rfl, rfl, .inl ⟨by omega, by omega⟩, _, _, rfl, rfl, .inr ⟨by decide, by decide⟩,
      _, _, rfl, rfl, _, _, rfl, rfl, _, _, rfl, rfl, (by show (0 : Int) < 2147483647; decide), ?_⟩
    refine ⟨_, rfl, _, rfl, _, _, rfl, rfl, .inl ⟨?_, ?_⟩, _, _, rfl, rfl, (by show (0 : Int) < 2147483629; decide), _, _, rfl, rfl, ⟨by decide, by decide⟩, k _⟩
    · have := Int.emod_nonneg (c % 2147483629 * 48271 + (a + 1) * (a + 1) * 7919 + 11) (show (2147483647 : Int) ≠ 0 by decide)
      omega
    · have := Int.emod_lt_of_pos (c % 2147483629 * 48271 + (a + 1) * (a + 1) * 7919 + 11) (show (0 : Int) < 2147483647 by decide)
      omega
theorem scNext : FnScope ["_law_deck_here", "_law_many", "_law_at"] ["_law_deck_here", "_law_many"] (defScope sNext) := ⟨rfl, rfl, rfl, by decide +kernel, rfl, by decide +kernel, by decide +kernel⟩
theorem ok_next {f : Addr} {fd : FuncData} (F : Fun K "_law_next" "_law_next" sNext f fd) (zL : mg "len" = none) (M : Cd P w K mg base 1 "_law_mixed" ["_law_cell", "_law_at"] spMixed) : FnOk P w K mg base CX0 2 f fd ["_law_deck_here", "_law_many"] spNext := by
  obtain ⟨fM, fdM, GM, mM, kM, bM⟩ := M
  refine F.ok scNext (fun vs H Q E h => ?_) (fun cdv A outer s H vs Q E hr h => ?_)
  · obtain ⟨d, f, m, n, rfl, _⟩ := h
    rfl
  · obtain ⟨d, f, m, n, rfl, hm, hn, ⟨a, wh, xs, hd, hf, a0, an, hx⟩, k⟩ := h
    have ndf : f ≠ d := fun z => by
      rw [z, hd] at hf
      have := congrArg (fun o => match o with | some (HO.lst (_ :: _ :: .ref _ :: _)) => true | _ => false) hf
      simp only at this
      cases xs with
      | nil => cases hf
      | cons x xs => cases xs with
        | nil => cases hf
        | cons y xs => cases xs with
          | nil => cases hf
          | cons z xs => cases hf
    refine ⟨_, pss_cons (ps_set (i := 2) scNext.nd rfl (Or.inl rfl) (pe_ix ix_list (pv 0) pe_int (fun _ _ => rfl)))
      (pss_cons (ps_asg (pe_op op_add (pv 2) pe_int) (pg_sub (pv 0) pe_int set_list))
      (pss_cons (ps_if (pt_cmpR op_lt (pv 2) (pe_callB call_len (by rfl) zL PySem.boot_len (pa_cons (pe_ix ix_list (pv 0) pe_int (fun _ _ => rfl)) pa_nil)) (nomark _))
        (pss_one (ps_ret (pe_op op_mod (pe_ix ix_list (pe_ix ix_list (pv 0) pe_int (fun _ _ => rfl)) (pv 2) (fun _ _ => rfl)) (pv 1)))) pss_nil)
      (pss_one (ps_ret (pe_op op_mod (pe_call GM hr rfl mM kM bM .nil pass0 (pa_cons (pe_ix ix_list (pv 0) pe_int (fun _ _ => rfl)) (pa_cons (pv 2) pa_nil))) (pv 1)))))), ?_⟩
    have hd2 : upd H d (.lst [.int (a + 1), .int wh, .ref f]) d = some (.lst [.int (a + 1), .int wh, .ref f]) := upd_same
    have hf2 : upd H d (.lst [.int (a + 1), .int wh, .ref f]) f = some (.lst (xs.map V.int)) := (upd_ne ndf).trans hf
    have hk : Kp [d] H (upd H d (.lst [.int (a + 1), .int wh, .ref f])) := (Kp.refl _ _).wr (List.mem_singleton.mpr rfl)
    have hD : Deck (upd H d (.lst [.int (a + 1), .int wh, .ref f])) d f (n + 1) := ⟨a + 1, wh, xs, hd2, hf2, by omega, by omega, hx⟩
    refine ⟨_, rfl, d, _, _, .int a, rfl, rfl, SqL.of hd, rfl, ?_⟩
    refine ⟨_, rfl, _, _, rfl, rfl, _, rfl, d, _, _, 0, rfl, rfl, hd, rfl, ?_⟩
    refine ⟨_, rfl, _, rfl, d, _, _, .ref f, rfl, rfl, SqL.of hd2, rfl, _, _, rfl, .inl ⟨_, SqL.of hf2, rfl⟩, _, _, rfl, rfl, _, rfl, ?_⟩
    refine ite2 (fun hl => ?_) (fun _ => ?_)
    · have hl := of_decide_eq_true hl
      rw [List.length_map] at hl
      have hj : a.toNat < xs.length := by omega
      have ha : ((a.toNat : Nat) : Int) = a := by omega
      refine ⟨_, rfl, d, _, _, .ref f, rfl, rfl, SqL.of hd2, rfl, _, rfl, f, _, _, .int (xs[a.toNat]), rfl, rfl, SqL.of hf2, ?_, _, rfl, _, _, rfl, rfl, hm, ?_⟩
      · have := atI_nat (xs := xs.map V.int) (j := a.toNat) (v := .int (xs[a.toNat])) (by simp [hj])
        rw [ha] at this
        exact this
      · exact k _ _ (Int.emod_nonneg _ (by omega)) (Int.emod_lt_of_pos _ hm) hk hD
    · refine ⟨_, rfl, d, _, _, .int wh, rfl, rfl, SqL.of hd2, rfl, _, rfl, wh, a, rfl, by omega, by omega, fun r => ?_⟩
      exact ⟨_, rfl, _, _, rfl, rfl, hm, k _ _ (Int.emod_nonneg _ (by omega)) (Int.emod_lt_of_pos _ hm) hk hD⟩
end
end Wn
namespace Wn
open PySem L2
section
variable {P : Program} {w : World} {K : PySem.W.Frag} {mg : Str → Option Value} {base : Heap}
theorem scDeck : FnScope ["_law_script", "_law_found", "_law_whole", "_law_k", "_law_rest", "_law_at"] ["_law_script"] (defScope sDeck) := ⟨rfl, rfl, rfl, by decide +kernel, rfl, by decide +kernel, by decide +kernel⟩
def restOf (σ : L2.St) (_ : Hp) : Nat := match σ[4]? with | some (some (V.int r)) => r.toNat | _ => 0
theorem ok_deck {f : Addr} {fd : FuncData} (F : Fun K "_law_deck" "_law_deck" sDeck f fd) (zL : mg "len" = none) (zR : mg "range" = none) (zM : mg "min" = none) (M : Cd P w K mg base 1 "_law_mixed" ["_law_cell", "_law_at"] spMixed) : FnOk P w K mg base CX0 2 f fd ["_law_script"] (spDeck K) := by
  obtain ⟨fM, fdM, GM, mM, kM, bM⟩ := M
  refine F.ok scDeck (fun vs H Q E h => ?_) (fun cdv A outer s H vs Q E hr h => ?_)
  · obtain ⟨a, ns, rfl, _⟩ := h
    rfl
  · obtain ⟨a, ns, rfl, hS, hlen, k⟩ := h
    refine ⟨_, pss_cons (ps_set (i := 1) scDeck.nd rfl (Or.inl rfl) (pe_lst pa_nil)) (pss_cons (ps_set (i := 2) scDeck.nd rfl (Or.inl rfl) (pe_callB call_len (by rfl) zL PySem.boot_len (pa_cons (pv 0) pa_nil)))
      (pss_cons (ps_for PassesOwn.never rfl (pi_range1 rfl zR (pa_cons (pe_callB (call_min2 rfl) (by rfl) zM (by decide +kernel) (pa_cons (pe_callB call_len (by rfl) zL PySem.boot_len (pa_cons (pv 0) pa_nil)) (pa_cons pe_int pa_nil))) pa_nil)) (pg_name (i := 3) scDeck.nd rfl (Or.inr rfl))
        (pss_cons (ps_set (i := 4) scDeck.nd rfl (Or.inr rfl) (pe_ix ix_list (pv 0) (pv 3) (fun _ _ => rfl)))
        (pss_cons (ps_if (pt_cmpR op_ge (pv 4) (pe_op op_pow pe_int pe_int) (nomark _))
          (pss_one (ps_while PassesOwn.never (PW.pt (pw_and (pt_cmpR op_gt (pv 4) pe_int (nomark _)) (pw_and1 (pt_cmpR op_lt (pe_callB call_len (by rfl) zL PySem.boot_len (pa_cons (pv 1) pa_nil)) pe_int (nomark _)))))
            (pss_cons (ps_expr (pe_bm PySem.F.plainAttrs_list PySem.F.slot_list_append PySem.F.type_list_append mt_append (pv 1) (pa_cons (pe_op op_mod (pv 4) pe_int) pa_nil)))
            (pss_one (ps_set (i := 4) scDeck.nd rfl (Or.inr rfl) (pe_op op_fdiv (pv 4) pe_int))))))
          (pss_one (ps_expr (pe_bm PySem.F.plainAttrs_list PySem.F.slot_list_extend PySem.F.type_list_extend mt_extend (pv 1) (pa_cons
            (pe_lc (own := [("_law_at", 5)]) (g := gName 5) (tt := tYes) rfl scDeck.nd (pi_range1 rfl zR (pa_cons pe_int pa_nil)) (blkOk_by (N := ["_law_script", "_law_found", "_law_whole", "_law_k", "_law_rest", "_law_at"]) (sc := defScope sDeck) (by decide +kernel))
              (fun _ _ _ _ _ => pg_name (i := 5) scDeck.nd rfl (Or.inl rfl)) (fun _ _ _ _ _ => pts_nil)
              (fun _ _ _ _ _ => pe_call GM hr rfl mM kM bM .nil pass0 (pa_cons (pv 4) (pa_cons (pe_op op_add (pe_op op_mul pe_int (pv 3)) (pv 5)) pa_nil)))) pa_nil)))))
        (pss_one (ps_set (i := 2) scDeck.nd rfl (Or.inl rfl) (pe_op op_mod (pe_op op_add (pe_op op_mul (pv 2) pe_int) (pe_ix ix_list (pv 0) (pv 3) (fun _ _ => rfl))) pe_int))))))
      (pss_one (ps_ret (pe_lst (pa_cons pe_int (pa_cons (pv 2) (pa_cons (pv 1) pa_nil)))))))), ?_⟩
    refine ⟨Nat.zero_le _, fun l hl => ?_⟩
    have s0 : Same H (upd H l (.lst [])) := (L2.Same.refl H).new hl
    have hS0 := s0.seq hS
    refine ⟨_, rfl, _, _, rfl, .inl ⟨_, hS0, rfl⟩, ?_⟩
    refine ⟨_, rfl, _, _, rfl, .inl ⟨_, hS0, rfl⟩, _, _, rfl, _, rfl, ?_⟩
    have hn63 : (ns.map V.int).length ≤ 63 := by rw [List.length_map]; exact hlen
    refine ⟨by split <;> omega, by split <;> omega, ?_⟩
    refine for_range (fun i σ H' => ∃ (wh : Int) (v3 v4 v5 : Option V) (xs : List Int), σ = [some (.ref a), some (.ref l), some (.int wh), v3, v4, v5] ∧ Same H H' ∧ H' l = some (.lst (xs.map V.int)) ∧ xs.length ≤ 3000 + 6 * i)
      ⟨_, _, _, _, [], rfl, s0, upd_same, Nat.zero_le _⟩ ?_ ?_
    · rintro i σ H1 hi ⟨wh, v3, v4, v5, xs, rfl, s1, hl1, hxs⟩
      have hi2 : i < ns.length ∧ i < 63 := by
        rw [List.length_map] at hi
        split at hi <;> omega
      have hat : atI (ns.map V.int) (0 + (i : Int)) = some (V.int ns[i]) := by
        rw [Int.zero_add]
        exact atI_nat (by simp [hi2.1])
      have hS1 := s1.seq hS
      -- what is left of a turn
      have fin : ∀ (H2 : Hp) (v4 v5 : Option V) (ys : List Int), Same H H2 → H2 l = some (.lst (ys.map V.int)) → ys.length ≤ 3000 + 6 * (i + 1) → ∃ (wh' : Int) (v3 v4' v5' : Option V) (xs : List Int),
          [some (V.ref a), some (.ref l), some (.int ((wh * 31 + ns[i]) % 2147483647)), some (.int (0 + (i : Int))), v4, v5] = [some (.ref a), some (.ref l), some (.int wh'), v3, v4', v5'] ∧ Same H H2 ∧ H2 l = some (.lst (xs.map V.int)) ∧ xs.length ≤ 3000 + 6 * (i + 1) :=
        fun H2 v4 v5 ys a b c => ⟨_, _, _, _, ys, rfl, a, b, c⟩
      refine ⟨_, rfl, _, rfl, a, _, _, _, rfl, rfl, hS1, hat, ?_⟩
      refine ⟨_, rfl, _, _, rfl, rfl, ⟨by decide, by decide, by decide⟩, _, _, rfl, rfl, _, rfl, ?_⟩
      refine ite2 (fun _ => ?_) (fun _ => ?_)
      · refine while_m (fun σ H' => ∃ (r : Int) (xs : List Int), σ = [some (.ref a), some (.ref l), some (.int wh), some (.int (0 + (i : Int))), some (.int r), v5] ∧ Same H H' ∧ H' l = some (.lst (xs.map V.int)) ∧ xs.length ≤ 3000 + 6 * (i + 1)) restOf
          ⟨_, xs, rfl, s1, hl1, by omega⟩ ?_
        rintro m σ H2 hm ⟨r, ys, rfl, s2, hl2, hys⟩
        have hm' : m = r.toNat := hm
        refine ⟨_, rfl, _, _, rfl, rfl, _, rfl, ?_⟩
        refine ite2 (fun hr0 => ?_) (fun _ => ?_)
        · have hr0 := of_decide_eq_true hr0
          refine ⟨_, rfl, _, _, rfl, .inl ⟨_, SqL.of hl2, rfl⟩, _, _, rfl, rfl, _, rfl, ?_⟩
          refine ite2 (fun hb => ?_) (fun _ => ?_)
          · have hb := of_decide_eq_true hb
            rw [List.length_map] at hb
            refine ⟨fun σ' H' => (∃ (r : Int) (xs : List Int), σ' = [some (.ref a), some (.ref l), some (.int wh), some (.int (0 + (i : Int))), some (.int r), v5] ∧ Same H H' ∧ H' l = some (.lst (xs.map V.int)) ∧ xs.length ≤ 3000 + 6 * (i + 1)) ∧ restOf σ' H' < m, fun σ' H' q => ⟨_, q.2, rfl, q.1⟩, ?_⟩
            refine ⟨_, rfl, .inl ⟨rfl, _, SqL.of hl2⟩, _, rfl, _, _, rfl, rfl, (by show (0 : Int) < 1000000; decide), l, _, _, rfl, rfl, hl2, (by rw [List.length_map]; exact Nat.lt_of_le_of_lt (show ys.length ≤ 3000 by omega) (by decide)), ?_⟩
            refine ⟨_, rfl, _, _, rfl, rfl, ⟨by decide, by decide⟩, ?_⟩
            refine ⟨⟨_, ys ++ [r % 1000000], rfl, s2.wrn hl, ?_, ?_⟩, ?_⟩
            · rw [upd_same, List.map_append]
              rfl
            · rw [List.length_append, List.length_singleton]
              omega
            · show (r / 1000000).toNat < m
              omega
          · exact ⟨_, rfl, _, _, rfl, rfl, .inr ⟨by decide, by decide⟩, _, rfl, _, rfl, a, _, _, _, rfl, rfl, s2.seq hS, hat, _, _, rfl, rfl, _, _, rfl, rfl, (by show (0 : Int) < 2147483647; decide), fin H2 _ _ ys s2 hl2 hys⟩
        · exact ⟨_, rfl, _, _, rfl, rfl, .inr ⟨by decide, by decide⟩, _, rfl, _, rfl, a, _, _, _, rfl, rfl, s2.seq hS, hat, _, _, rfl, rfl, _, _, rfl, rfl, (by show (0 : Int) < 2147483647; decide), fin H2 _ _ ys s2 hl2 hys⟩
      · refine ⟨_, rfl, .inl ⟨rfl, _, SqL.of hl1⟩, 6, rfl, by decide, by decide, fun D hD => ?_⟩
        have nDl : l ≠ D := ne_of_none hl1 hD
        refine lc_range (lo := 0) (n := 6) (fun j H' => ∃ ys : List Int, H' D = some (.lst (ys.map V.int)) ∧ ys.length = j ∧ Same H1 H' ) ⟨[], upd_same, rfl, (L2.Same.refl H1).new hD⟩ ?_ ?_
        · rintro j H2 hj ⟨ys, hD2, hys, s2⟩
          refine ⟨rfl, _, rfl, _, rfl, _, _, rfl, rfl, .inl ⟨by decide, by decide⟩, _, rfl, _, _, rfl, rfl, _, _, rfl, by omega, by omega, fun r => ?_⟩
          refine ⟨_, hD2, by rw [List.length_map, hys]; exact Nat.lt_trans hj (by decide), ys ++ [r], ?_, by rw [List.length_append, hys]; rfl, s2.wrn hD⟩
          rw [upd_same, List.map_append]
          rfl
        · rintro H2 ⟨ys, hD2, hys, s2⟩
          refine ⟨l, D, _, _, rfl, rfl, s2 _ _ hl1, hD2, ?_, ?_⟩
          · rw [List.length_map, List.length_map, hys]
            exact Nat.le_trans (show xs.length + 6 ≤ 6000 by omega) (by decide)
          · refine ⟨_, rfl, _, _, rfl, rfl, .inr ⟨by decide, by decide⟩, _, rfl, _, rfl, a, _, _, _, rfl, rfl, ((s1.trans s2).wrn hl).seq hS, hat, _, _, rfl, rfl, _, _, rfl, rfl, (by show (0 : Int) < 2147483647; decide), fin _ _ _ (xs ++ ys) ((s1.trans s2).wrn hl) ?_ ?_⟩
            · rw [upd_same, List.map_append]
            · rw [List.length_append, hys]
              omega
    · rintro σ H1 ⟨wh, v3, v4, v5, xs, rfl, s1, hl1, hxs⟩
      refine ⟨_, rfl, _, rfl, (by show 3 ≤ sizeLine; decide), fun d hd => ?_⟩
      have hn : ns.length ≤ 63 := hlen
      have hxs' : xs.length ≤ 100000 := by
        rw [List.length_map] at hxs
        split at hxs <;> omega
      refine k _ d l (s1.free hd) hl (s1.new hd) ⟨0, wh, xs, upd_same, ?_, Int.le_refl _, Int.le_refl _, hxs'⟩
      rw [upd_ne (ne_of_none hl1 hd)]
      exact hl1
end
end Wn
namespace Wn
open PySem L2
section
variable {P : Program} {w : World} {K : PySem.W.Frag} {mg : Str → Option Value} {base : Heap}
theorem scSame : FnScope ["_law_thing", "_law_due_here", "_law_k"] ["_law_thing", "_law_due_here"] (defScope sSame) := ⟨rfl, rfl, rfl, by decide +kernel, rfl, by decide +kernel, by decide +kernel⟩
/-- builtins that same asks -/
structure SameB (mg : Str → Option Value) : Prop where
  isi : mg "isinstance" = none
  tup : mg "tuple" = none
  bl : mg "bool" = none
  str : mg "str" = none
  int : mg "int" = none
  all : mg "all" = none
  len : mg "len" = none
  rng : mg "range" = none
theorem ok_same_step {n : Nat} {f : Addr} {fd : FuncData} (F : Fun K "_law_same" "_law_same" sSame f fd) (B : SameB mg) (mS : mg "_law_same" = some (.ref f)) (kS : PySem.W.keepIn K (.ref f) = true) (bS : Binds K fd ["_law_thing", "_law_due_here"] [])
    (G : FnOk P w K mg base CX0 n f fd ["_law_thing", "_law_due_here"] (spSame K n)) : FnOk P w K mg base CX0 (n + 1) f fd ["_law_thing", "_law_due_here"] (spSame K (n + 1)) := by
  refine F.ok scSame (fun vs H Q E h => ?_) (fun cdv A outer s H vs Q E hr h => ?_)
  · obtain ⟨x, y, d, rfl, _⟩ := h
    rfl
  · obtain ⟨x, y, d, rfl, hx, hy, hd, hz, k⟩ := h
    refine ⟨_, pss_cons (ps_if (pt_val (pe_callB call_isi (by rfl) B.isi (by decide +kernel) (pa_cons (pv 1) (pa_cons (pe_bltn (v := .ty "tuple") (by rfl) B.tup PyProof.Rows.boot_tuple rfl) pa_nil))))
        (pss_cons (ps_if (PW.pt (pw_or (pt_not (pt_val (pe_callB call_isi (by rfl) B.isi (by decide +kernel) (pa_cons (pv 0) (pa_cons (pe_bltn (v := .ty "tuple") (by rfl) B.tup PyProof.Rows.boot_tuple rfl) pa_nil)))))
            (pw_or1 (pt_cmpR op_ne (pe_callB call_len (by rfl) B.len PySem.boot_len (pa_cons (pv 0) pa_nil)) (pe_callB call_len (by rfl) B.len PySem.boot_len (pa_cons (pv 1) pa_nil)) (nomark _)))))
          (pss_one (ps_ret pe_bl)) pss_nil)
        (pss_one (ps_ret (pe_callB (cr_all rfl) (by rfl) B.all (by decide +kernel) (pa_cons
          (pe_lc (own := [("_law_k", 2)]) (g := gName 2) (tt := tYes) rfl scSame.nd (pi_range1 rfl B.rng (pa_cons (pe_callB call_len (by rfl) B.len PySem.boot_len (pa_cons (pv 1) pa_nil)) pa_nil)) (blkOk_by (N := ["_law_thing", "_law_due_here", "_law_k"]) (sc := defScope sSame) (by decide +kernel))
              (fun _ _ _ _ _ => pg_name (i := 2) scSame.nd rfl (Or.inl rfl)) (fun _ _ _ _ _ => pts_nil)
              (fun _ _ _ _ _ => pe_call G hr rfl mS kS bS .nil pass0 (pa_cons (pe_ix (show IxR _ (rIxT K) from ix_tup) (pv 0) (pv 2) (fun _ _ => rfl)) (pa_cons (pe_ix (show IxR _ (rIxT K) from ix_tup) (pv 1) (pv 2) (fun _ _ => rfl)) pa_nil)))) pa_nil))))) pss_nil)
      (pss_cons (ps_if (PW.pt (pw_or (pt_val (pe_callB call_isi (by rfl) B.isi (by decide +kernel) (pa_cons (pv 1) (pa_cons (pe_bltn (v := .ty "bool") (by rfl) B.bl PyProof.Rows.boot_bool rfl) pa_nil)))) (pw_or1 (pt_cmp (pc_isN (pv 1))))))
        (pss_one (ps_ret (pe_and (pe_cmpR op_eq (pe_callB call_isi (by rfl) B.isi (by decide +kernel) (pa_cons (pv 0) (pa_cons (pe_bltn (v := .ty "bool") (by rfl) B.bl PyProof.Rows.boot_bool rfl) pa_nil))) (pe_callB call_isi (by rfl) B.isi (by decide +kernel) (pa_cons (pv 1) (pa_cons (pe_bltn (v := .ty "bool") (by rfl) B.bl PyProof.Rows.boot_bool rfl) pa_nil))) (nomark _))
          (pe_and (pe_cmpR op_eq (pe_cmp (pc_isN (pv 0)) rfl) (pe_cmp (pc_isN (pv 1)) rfl) (nomark _)) (pe_one (pe_cmpR op_eq (pv 0) (pv 1) (nomark _))))))) pss_nil)
      (pss_cons (ps_if (pt_val (pe_callB call_isi (by rfl) B.isi (by decide +kernel) (pa_cons (pv 1) (pa_cons (pe_bltn (v := .ty "str") (by rfl) B.str PyProof.Rows.boot_str rfl) pa_nil))))
        (pss_one (ps_ret (pe_and (pe_callB call_isi (by rfl) B.isi (by decide +kernel) (pa_cons (pv 0) (pa_cons (pe_bltn (v := .ty "str") (by rfl) B.str PyProof.Rows.boot_str rfl) pa_nil))) (pe_one (pe_cmpR op_eq (pv 0) (pv 1) (nomark _)))))) pss_nil)
      (pss_one (ps_ret (pe_and (pe_callB call_isi (by rfl) B.isi (by decide +kernel) (pa_cons (pv 0) (pa_cons (pe_bltn (v := .ty "int") (by rfl) B.int PyProof.Rows.boot_int rfl) pa_nil)))
        (pe_and (pe_not (pe_callB call_isi (by rfl) B.isi (by decide +kernel) (pa_cons (pv 0) (pa_cons (pe_bltn (v := .ty "bool") (by rfl) B.bl PyProof.Rows.boot_bool rfl) pa_nil)))) (pe_one (pe_cmpR op_eq (pv 0) (pv 1) (nomark _))))))))), ?_⟩
    cases d with
    | none =>
      cases hx
      cases hy
      refine ⟨_, rfl, _, _, _, _, false, rfl, .ty _, .base .non, kit_ty (by decide +kernel), _, rfl, iteF ?_⟩
      refine ⟨_, rfl, _, _, _, _, false, rfl, .ty _, .base .non, kit_ty (by decide +kernel), _, rfl, iteF ?_⟩
      refine ⟨_, rfl, _, rfl, iteT ?_⟩
      refine ⟨_, rfl, _, _, _, _, false, rfl, .ty _, .base .non, kit_ty (by decide +kernel), _, rfl, _, _, _, _, false, rfl, .ty _, .base .non, kit_ty (by decide +kernel), rfl, _, rfl, iteT ?_⟩
      refine ⟨_, rfl, _, rfl, rfl, _, rfl, iteT ?_⟩
      exact ⟨_, rfl, _, rfl, rfl, k _ (L2.Same.refl _)⟩
    | bool b =>
      cases hx
      cases hy
      refine ⟨_, rfl, _, _, _, _, false, rfl, .ty _, .base (.bl _), kit_ty (by decide +kernel), _, rfl, iteF ?_⟩
      refine ⟨_, rfl, _, _, _, _, true, rfl, .ty _, .base (.bl _), kit_ty (by decide +kernel), _, rfl, iteT ?_⟩
      refine ⟨_, rfl, _, _, _, _, true, rfl, .ty _, .base (.bl _), kit_ty (by decide +kernel), _, rfl, _, _, _, _, true, rfl, .ty _, .base (.bl _), kit_ty (by decide +kernel), rfl, _, rfl, iteT ?_⟩
      refine ⟨_, rfl, _, rfl, rfl, _, rfl, iteT ?_⟩
      refine ⟨_, rfl, _, rfl, rfl, ?_⟩
      show Q (.bl (decide (V.bl b = V.bl b))) H
      rw [decide_eq_true rfl]
      exact k _ (L2.Same.refl _)
    | int i =>
      cases hx
      cases hy
      refine ⟨_, rfl, _, _, _, _, false, rfl, .ty _, .base (.int _), kit_ty (by decide +kernel), _, rfl, iteF ?_⟩
      refine ⟨_, rfl, _, _, _, _, false, rfl, .ty _, .base (.int _), kit_ty (by decide +kernel), _, rfl, iteF ?_⟩
      refine ⟨_, rfl, _, rfl, iteF ?_⟩
      refine ⟨_, rfl, _, _, _, _, false, rfl, .ty _, .base (.int _), kit_ty (by decide +kernel), _, rfl, iteF ?_⟩
      refine ⟨_, rfl, _, _, _, _, true, rfl, .ty _, .base (.int _), kit_ty (by decide +kernel), _, rfl, iteT ?_⟩
      refine ⟨_, rfl, _, _, _, _, false, rfl, .ty _, .base (.int _), kit_ty (by decide +kernel), _, rfl, _, rfl, iteT ?_⟩
      refine ⟨_, rfl, _, rfl, rfl, ?_⟩
      show Q (.bl (decide (V.int i = V.int i))) H
      rw [decide_eq_true rfl]
      exact k _ (L2.Same.refl _)
    | str z =>
      cases hx
      cases hy
      refine ⟨_, rfl, _, _, _, _, false, rfl, .ty _, .base (.str _), kit_ty (by decide +kernel), _, rfl, iteF ?_⟩
      refine ⟨_, rfl, _, _, _, _, false, rfl, .ty _, .base (.str _), kit_ty (by decide +kernel), _, rfl, iteF ?_⟩
      refine ⟨_, rfl, _, rfl, iteF ?_⟩
      refine ⟨_, rfl, _, _, _, _, true, rfl, .ty _, .base (.str _), kit_ty (by decide +kernel), _, rfl, iteT ?_⟩
      refine ⟨_, rfl, _, _, _, _, true, rfl, .ty _, .base (.str _), kit_ty (by decide +kernel), _, rfl, iteT ?_⟩
      refine ⟨_, rfl, _, rfl, rfl, ?_⟩
      show Q (.bl (decide (V.str z = V.str z))) H
      rw [decide_eq_true rfl]
      exact k _ (L2.Same.refl _)
    | tuple ds =>
      unfold Rp at hx hy
      obtain ⟨a, xs, rfl, sa, la⟩ := hx
      obtain ⟨b, ys, rfl, sb, lb⟩ := hy
      have lx := RpL.len _ _ la
      have ly := RpL.len _ _ lb
      have hl : ds.length ≤ 1000000 := by
        have := szs_len ds
        unfold sz at hz
        omega
      have hlc : ((ds.length : Nat) : Int) ≤ 1000000 := by omega
      refine ⟨_, rfl, _, _, _, _, true, rfl, .ty _, ty_tup sb, kit_ty (by decide +kernel), _, rfl, iteT ?_⟩
      refine ⟨_, rfl, _, _, _, _, true, rfl, .ty _, ty_tup sa, kit_ty (by decide +kernel), _, rfl, iteF ?_⟩
      refine ⟨_, rfl, _, ds.length, rfl, .inr ⟨_, sa, lx.symm⟩, _, rfl, _, ds.length, rfl, .inr ⟨_, sb, ly.symm⟩, rfl, _, rfl, ?_⟩
      refine iteNS rfl ?_
      refine ⟨_, rfl, _, ds.length, rfl, .inr ⟨_, sb, ly.symm⟩, ds.length, rfl, by omega, by omega, fun D hD => ?_⟩
      refine lc_range (lo := 0) (n := _) (fun i H' => H' D = some (.lst ((List.replicate i true).map V.bl)) ∧ Same H H') ⟨upd_same, (L2.Same.refl H).new hD⟩ ?_ ?_
      · rintro i H2 hi ⟨hD2, s2⟩
        have hi : i < ds.length := by simpa using hi
        have e1 : ds[i]? = some ds[i] := by simp [hi]
        obtain ⟨u, eu, ru⟩ := RpL.get _ _ la i _ e1
        obtain ⟨v, ev, rv⟩ := RpL.get _ _ lb i _ e1
        have t2 := TK.of s2
        refine ⟨rfl, _, rfl, _, rfl, a, xs, _, u, rfl, rfl, SqT.tk sa t2, ?_, _, rfl, _, rfl, b, ys, _, v, rfl, rfl, SqT.tk sb t2, ?_, ?_⟩
        · rw [Int.zero_add]
          exact atI_nat eu
        · rw [Int.zero_add]
          exact atI_nat ev
        · refine ⟨u, v, ds[i], rfl, Rp.tk t2 _ _ ru, Rp.tk t2 _ _ rv, ?_, ?_, fun H3 s3 => ?_⟩
          · have := dep_get ds i _ e1
            unfold dep at hd
            omega
          · have := sz_get ds i _ e1
            unfold sz at hz
            omega
          · refine ⟨_, s3 _ _ hD2, ?_, ?_, ?_⟩
            · rw [List.length_map, List.length_replicate]
              exact Nat.lt_of_lt_of_le (Nat.lt_of_lt_of_le hi hl) (by decide)
            · rw [upd_same, List.replicate_succ', List.map_append]
              rfl
            · exact (s2.trans s3).wrn hD
      · rintro H2 ⟨hD2, s2⟩
        refine ⟨D, _, rfl, SqL.of hD2, ?_⟩
        have e : (List.replicate ((ds.length : Nat) : Int).toNat true).all id = true := by simp
        rw [e]
        exact k _ s2
    | list _ => cases hx
    | dict _ => cases hx
theorem ok_same {f : Addr} {fd : FuncData} (F : Fun K "_law_same" "_law_same" sSame f fd) (B : SameB mg) (mS : mg "_law_same" = some (.ref f)) (kS : PySem.W.keepIn K (.ref f) = true) (bS : Binds K fd ["_law_thing", "_law_due_here"] []) :
    ∀ n, FnOk P w K mg base CX0 n f fd ["_law_thing", "_law_due_here"] (spSame K n)
  | 0 => ⟨fun vs H Q E ⟨x, y, d, _, _, _, h, _⟩ => absurd h (Nat.not_lt_zero _), fun A outer s H args us vs Q E hr he hb hv ⟨x, y, d, _, _, _, h, _⟩ => absurd h (Nat.not_lt_zero _)⟩
  | n + 1 => ok_same_step F B mS kS bS (ok_same F B mS kS bS n)
end
end Wn

namespace Wn
open PySem L2
section
variable {α : Type}
theorem lookA_cons {p : Int × α} {m : List (Int × α)} {k : Int} : lookA (p :: m) k = if p.1 = k then some p.2 else lookA m k := by
  unfold lookA
  rw [List.find?_cons]
  by_cases e : p.1 = k <;> simp [e]
theorem lookA_map (k j : Int) (x : α) : ∀ m : List (Int × α), lookA (m.map fun kv => if kv.1 = k then (kv.1, x) else kv) j = (lookA m j).map fun y => if j = k then x else y
  | [] => rfl
  | p :: m => by
    rw [List.map_cons, lookA_cons, lookA_cons, lookA_map k j x m]
    by_cases e : p.1 = k
    · by_cases f : p.1 = j
      · simp [e, f, show j = k by omega]
      · simp only [e, if_true]
        rw [if_neg (by omega), if_neg (by omega)]
    · by_cases f : p.1 = j
      · simp [e, f, show ¬ j = k by omega]
      · simp [e, f]
theorem lookA_snoc (k j : Int) (x : α) : ∀ m : List (Int × α), lookA (m ++ [(k, x)]) j = match lookA m j with | some y => some y | none => if k = j then some x else none
  | [] => by
    show lookA [(k, x)] j = _
    rw [lookA_cons]
    rfl
  | p :: m => by
    show lookA (p :: (m ++ [(k, x)])) j = _
    rw [lookA_cons, lookA_cons, lookA_snoc k j x m]
    by_cases e : p.1 = j <;> simp [e]
theorem any_lookA (k : Int) : ∀ m : List (Int × α), (m.any fun kv => decide (kv.1 = k)) = (lookA m k).isSome
  | [] => rfl
  | p :: m => by
    rw [List.any_cons, lookA_cons, any_lookA k m]
    by_cases e : p.1 = k <;> simp [e]
theorem lookA_put (m : List (Int × α)) (k j : Int) (x : α) : lookA (putA m k x) j = if j = k then some x else lookA m j := by
  unfold putA
  rw [any_lookA]
  cases e : lookA m k with
  | none =>
    rw [if_neg (by simp), lookA_snoc]
    by_cases f : j = k
    · subst f
      simp [e]
    · rw [if_neg f]
      cases lookA m j with
      | none => simp [show ¬ k = j by omega]
      | some y => rfl
  | some z =>
    rw [if_pos (by simp), lookA_map]
    by_cases f : j = k
    · subst f
      rw [e]
      simp
    · rw [if_neg f]
      cases lookA m j with
      | none => rfl
      | some y => simp [f]
theorem mem_keys {k : Int} {m : List (Int × α)} : k ∈ m.map (·.1) ↔ (lookA m k).isSome = true := by
  constructor
  · intro h
    obtain ⟨x, e, _⟩ := lookA_mem h
    rw [e]
    rfl
  · intro h
    rw [← any_lookA, List.any_eq_true] at h
    obtain ⟨p, hp, e⟩ := h
    rw [decide_eq_true_eq] at e
    exact List.mem_map.mpr ⟨p, hp, e⟩
theorem keys_put_in {m : List (Int × α)} {k : Int} {x : α} (h : (lookA m k).isSome = true) : (putA m k x).map (·.1) = m.map (·.1) := by
  unfold putA
  rw [any_lookA, if_pos h, List.map_map]
  refine List.map_congr_left fun p _ => ?_
  show (if p.1 = k then (p.1, x) else p).1 = p.1
  split <;> rfl
theorem keys_put_new {m : List (Int × α)} {k : Int} {x : α} (h : lookA m k = none) : (putA m k x).map (·.1) = m.map (·.1) ++ [k] := by
  unfold putA
  rw [any_lookA, if_neg (by rw [h]; simp), List.map_append]
  rfl
theorem nodup_put {m : List (Int × α)} {k : Int} {x : α} (h : (m.map (·.1)).Nodup) : ((putA m k x).map (·.1)).Nodup := by
  cases e : lookA m k with
  | none =>
    rw [keys_put_new e, List.nodup_append]
    refine ⟨h, by simp, fun a ha b hb => ?_⟩
    rw [List.mem_singleton] at hb
    subst hb
    intro z
    subst z
    rw [mem_keys, e] at ha
    cases ha
  | some y =>
    rw [keys_put_in (by rw [e]; rfl)]
    exact h
end
theorem eq_of_lt : ∀ (a b : List Int), a.Pairwise (· < ·) → b.Pairwise (· < ·) → (∀ x, x ∈ a ↔ x ∈ b) → a = b
  | [], [], _, _, _ => rfl
  | [], y :: b, _, _, h => by
    have := (h y).mpr List.mem_cons_self
    cases this
  | x :: a, [], _, _, h => by
    have := (h x).mp List.mem_cons_self
    cases this
  | x :: a, y :: b, ha, hb, h => by
    rw [List.pairwise_cons] at ha hb
    have e : x = y := by
      have h1 := (h x).mp List.mem_cons_self
      have h2 := (h y).mpr List.mem_cons_self
      rcases List.mem_cons.mp h1 with h1 | h1
      · exact h1
      · rcases List.mem_cons.mp h2 with h2 | h2
        · exact h2.symm
        · have := ha.1 _ h2
          have := hb.1 _ h1
          omega
    subst e
    congr 1
    refine eq_of_lt a b ha.2 hb.2 fun z => ?_
    constructor
    · intro hz
      have h1 := (h z).mp (List.mem_cons_of_mem _ hz)
      rcases List.mem_cons.mp h1 with h1 | h1
      · have := ha.1 _ hz
        omega
      · exact h1
    · intro hz
      have h1 := (h z).mpr (List.mem_cons_of_mem _ hz)
      rcases List.mem_cons.mp h1 with h1 | h1
      · have := hb.1 _ hz
        omega
      · exact h1
theorem lt_of_nodup : ∀ {a : List Int}, a.Pairwise (· ≤ ·) → a.Nodup → a.Pairwise (· < ·)
  | [], _, _ => List.Pairwise.nil
  | x :: a, h, n => by
    rw [List.pairwise_cons] at h
    rw [List.nodup_cons] at n
    rw [List.pairwise_cons]
    refine ⟨fun y hy => ?_, lt_of_nodup h.2 n.2⟩
    have h1 := h.1 y hy
    have h2 : x ≠ y := fun z => n.1 (z ▸ hy)
    omega
end Wn

namespace Wn
open PySem L2
open SX (S S_len S_cat S_beq_eq join_S)
abbrev sSign : Stmt := top 15
abbrev sText : Stmt := top 16

def allSigns : Str := Str.ofString " !\"#$&'()*+,-./0123456789:;<=>?@ABCDEFGHIJKLMNOPQRSTUVWXYZ[\\]^_" ++ Str.ofString "`abcdefghijklmnopqrstuvwxyz{|}~"
theorem allSigns_len : allSigns.cps.toList.length = 94 := by decide +kernel
theorem allSigns_ok : (allSigns.cps.toList.all fun c => decide (32 ≤ c) && decide (c ≤ 126) && decide (c ≠ 37)) = true := by decide +kernel
theorem allSigns_sz : (Str.ofString " !\"#$&'()*+,-./0123456789:;<=>?@ABCDEFGHIJKLMNOPQRSTUVWXYZ[\\]^_").length + (Str.ofString "`abcdefghijklmnopqrstuvwxyz{|}~").length ≤ sizeLine := by decide +kernel
theorem allSigns_sz2 : allSigns.length ≤ sizeLine := by decide +kernel
section
variable {P : Program} {w : World} {K : PySem.W.Frag} {mg : Str → Option Value} {base : Heap}
theorem scSign : FnScope ["_law_deck_here", "_law_some"] ["_law_deck_here"] (defScope sSign) := ⟨rfl, rfl, rfl, by decide +kernel, rfl, by decide +kernel, by decide +kernel⟩
theorem ok_sign {f : Addr} {fd : FuncData} (F : Fun K "_law_sign" "_law_sign" sSign f fd)
    (cN : Cd P w K mg base 2 "_law_next" ["_law_deck_here", "_law_many"] spNext) : FnOk P w K mg base CX0 3 f fd ["_law_deck_here"] spSign := by
  obtain ⟨fN, fdN, GN, mN, kN, bN⟩ := cN.tk
  refine F.ok scSign (fun vs H Q E h => ?_) (fun cdv A outer s H vs Q E hr h => ?_)
  · obtain ⟨d, f, n, rfl, _⟩ := h
    rfl
  · obtain ⟨d, f, n, rfl, D0, hn, k⟩ := h
    have hr2 : Room 2 _ := hr
    refine ⟨_, (pss_cons (ps_set (i := 1) scSign.nd rfl (Or.inl rfl) pe_str)
       (pss_cons (ps_set (i := 1) scSign.nd rfl (Or.inl rfl) (pe_op op_add_str (pv 1) pe_str))
       (pss_one (ps_ret (pe_ix ix_str (pv 1) (pe_call GN hr2 rfl mN kN bN .nil pass0 (pa_cons (pv 0) (pa_cons pe_int pa_nil))) (fun _ _ => rfl)))))), ?_⟩
    refine ⟨_, rfl, _, _, rfl, rfl, allSigns_sz, ?_⟩
    refine ⟨_, rfl, _, rfl, d, f, 94, n, rfl, by decide, hn, D0, fun r H1 r0 r1 k1 D1 t1 => ?_⟩
    have hj : r.toNat < allSigns.cps.toList.length := by rw [allSigns_len]; omega
    have hr' : ((r.toNat : Nat) : Int) = r := by omega
    have ha : atI allSigns.cps.toList r = some (allSigns.cps.toList[r.toNat]) := by
      have := atI_nat (xs := allSigns.cps.toList) (j := r.toNat) (v := allSigns.cps.toList[r.toNat]) (by simp [hj])
      rw [hr'] at this
      exact this
    refine ⟨allSigns, r, _, rfl, rfl, allSigns_sz2, ha, k _ _ ?_ k1 D1⟩
    have h1 := List.all_eq_true.mp allSigns_ok _ (List.getElem_mem hj)
    simp only [Bool.and_eq_true, decide_eq_true_eq] at h1
    exact ⟨h1.1.1, h1.1.2, h1.2⟩
theorem scText : FnScope ["_law_deck_here", "_law_most", "_law_k"] ["_law_deck_here", "_law_most"] (defScope sText) := ⟨rfl, rfl, rfl, by decide +kernel, rfl, by decide +kernel, by decide +kernel⟩
theorem ok_text {f : Addr} {fd : FuncData} (F : Fun K "_law_text" "_law_text" sText f fd) (zR : mg "range" = none)
    (cN : Cd P w K mg base 2 "_law_next" ["_law_deck_here", "_law_many"] spNext) (cG : Cd P w K mg base 3 "_law_sign" ["_law_deck_here"] spSign) : FnOk P w K mg base CX0 4 f fd ["_law_deck_here", "_law_most"] spText := by
  obtain ⟨fN, fdN, GN, mN, kN, bN⟩ := cN.tk
  obtain ⟨fG, fdG, GG, mG, kG, bG⟩ := cG.tk
  refine F.ok scText (fun vs H Q E h => ?_) (fun cdv A outer s H vs Q E hr h => ?_)
  · obtain ⟨d, f, n, most, rfl, _⟩ := h
    rfl
  · obtain ⟨d, f, n, most, rfl, D0, hn, m0, m1, k⟩ := h
    have hr2 : Room 2 _ := hr.mono (by decide)
    have hr3 : Room 3 _ := hr
    refine ⟨_, (pss_one (ps_ret (joinK (K := K) rfl pe_str (pe_lc (own := [("_law_k", 2)]) (g := (gName 2)) (tt := tYes) rfl scText.nd (pi_range1 rfl zR (pa_cons (pe_call GN hr2 rfl mN kN bN .nil pass0 (pa_cons (pv 0) (pa_cons (pe_op op_add (pv 1) pe_int) pa_nil))) pa_nil)) (blkOk_by (N := ["_law_deck_here", "_law_most", "_law_k"]) (sc := defScope sText) (by decide +kernel))
       (fun _ _ _ _ _ => (pg_name (i := 2) scText.nd rfl (Or.inl rfl))) (fun _ _ _ _ _ => pts_nil) (fun _ _ _ _ _ => (pe_call GG hr3 rfl mG kG bG .nil pass0 (pa_cons (pv 0) pa_nil))))))), ?_⟩
    refine ⟨⟨_, rfl⟩, ?_⟩
    refine ⟨_, rfl, _, rfl, _, _, rfl, rfl, d, f, most + 1, n, rfl, by omega, by omega, D0, fun r H1 r0 r1 k1 D1 t1 => ?_⟩
    refine ⟨r, rfl, by omega, by omega, fun D hD => ?_⟩
    have nDd : D ≠ d := (ne_of_none D1.lst.choose_spec hD).symm
    have s2 : Same H1 (upd H1 D (.lst [])) := (L2.Same.refl H1).new hD
    refine lc_range (lo := 0) (n := r.toNat) (fun j H' => ∃ cs : List Nat, H' D = some (.lst ((cs.map fun c => S [c]).map V.str)) ∧ cs.length = j ∧ (∀ c ∈ cs, OkSign c) ∧ Kp [d] H1 H' ∧ Deck H' d f (n + 1 + j)) ⟨[], upd_same, rfl, (by intro c hc; cases hc), Kp.of s2, (D1.same s2).mono (by omega)⟩ ?_ ?_
    · rintro j H3 hj ⟨cs, hD3, lc, oc, k3, D3⟩
      refine ⟨rfl, _, rfl, d, f, n + 1 + j, rfl, D3, by omega, fun c H4 hc k4 D4 t4 => ?_⟩
      have hD4 := k4 _ _ (nin1 nDd) hD3
      refine ⟨_, hD4, ?_, cs ++ [c], ?_, by rw [List.length_append, lc]; rfl, ?_, (k3.trans k4).wrn hD, ?_⟩
      · rw [List.length_map, List.length_map, lc]
        exact Nat.lt_of_le_of_lt (show j ≤ 100000 by omega) (by decide)
      · rw [upd_same, List.map_append, List.map_append]
        rfl
      · intro c' hc'
        rcases List.mem_append.mp hc' with h | h
        · exact oc _ h
        · rw [List.mem_singleton.mp h]
          exact hc
      · have hf : f ≠ D := ne_of_none D1.lst2.choose_spec hD
        exact (D4.kp (M := [D]) ((Kp.refl _ _).wr (List.mem_singleton.mpr rfl)) (nin1 nDd.symm) (nin1 hf)).mono (by omega)
    · rintro H3 ⟨cs, hD3, lc, oc, k3, D3⟩
      refine ⟨_, D, cs.map fun c => S [c], rfl, rfl, .inl (SqL.of hD3), ?_, ?_⟩
      · rw [sum_signs, List.length_map]
        show cs.length + cs.length * 0 ≤ _
        omega
      · rw [show (Txt.join (Str.ofString "") (cs.map fun c => S [c])) = S cs from join_signs cs]
        exact k cs H3 (by omega) oc (k1.trans k3) (D3.mono (by omega))
end
end Wn

namespace Wn
open PySem L2
open SX (S S_len S_cat S_beq_eq join_S)
abbrev sWhole : Stmt := top 1
abbrev sCut : Stmt := top 6
abbrev sIsPart : Stmt := top 7
abbrev sAre : Stmt := top 8
abbrev sPut : Stmt := top 9
abbrev sDue : Stmt := top 17
abbrev Part := Nat × List Nat
def partD (p : Part) : PyData := .tuple [.int (p.1 : Int), .str (S p.2)]
theorem partD_inv {K : PySem.W.Frag} {H : Hp} {x : Part} {u : V} (r : Rp K H (partD x) u) : ∃ a, u = .ref a ∧ SqT K H a [.int (x.1 : Int), .str (S x.2)] := by
  unfold partD Rp at r
  obtain ⟨a, xs, rfl, ha, hl⟩ := r
  unfold RpL at hl
  obtain ⟨v0, r0, rfl, h0, hl⟩ := hl
  unfold RpL at hl
  obtain ⟨v1, r1, rfl, h1, hl⟩ := hl
  unfold RpL at hl
  subst hl
  unfold Rp at h0 h1
  subst h0 h1
  exact ⟨a, rfl, ha⟩
def cutAt (cs : List Nat) (s i : Nat) : Part := (i * s, (cs.drop (i * s)).take s)
def cutN (cs : List Nat) (s : Nat) : Nat := (cs.length + s - 1) / s
def cutL (cs : List Nat) (s : Nat) : List Part := (List.range (cutN cs s)).map (cutAt cs s)
theorem rg_cut {cs : List Nat} {s : Nat} (h1 : 1 ≤ s) (h2 : s ≤ 100000) (h3 : cs.length ≤ 100000) : RgC 0 (cs.length : Int) (s : Int) (cutN cs s) := by
  have e := PyProof.Rows.rangeSize_pos (len := (cs.length : Int)) (c := (s : Int)) (by omega) (by omega)
  have e2 : ((cutN cs s : Nat) : Int) = ((cs.length : Int) + (s : Int) - 1) / (s : Int) := by
    unfold cutN
    rw [Int.natCast_ediv]
    congr 1
    omega
  have h4 : ((cutN cs s : Nat) : Int) ≤ 200000 := by
    rw [e2]
    refine Int.ediv_le_of_le_mul (by omega) ?_
    have : (200000 : Int) * 1 ≤ 200000 * (s : Int) := Int.mul_le_mul_of_nonneg_left (by omega) (by omega)
    omega
  refine ⟨by omega, by omega, ?_, by rw [e, e2]⟩
  unfold Builtin.Range.small
  rw [e, ← e2]
  simp only [Builtin.Range.rangeFitsLong, Bool.and_eq_true, Bool.or_eq_true, decide_eq_true_eq, beq_iff_eq]
  have h5 : 0 ≤ ((cutN cs s : Nat) : Int) := by omega
  generalize ((cutN cs s : Nat) : Int) = q at h4 h5
  simp only [show (s : Int) > 0 by omega, if_true]
  exact ⟨⟨⟨⟨⟨by omega, by omega⟩, by omega, by omega⟩, by omega, by omega⟩, by omega, by omega⟩, .inr (by simp only [Bool.and_eq_true, decide_eq_true_eq]; omega)⟩
theorem cutN_lt {cs : List Nat} {s i : Nat} (h1 : 1 ≤ s) : i < cutN cs s ↔ i * s < cs.length := by
  unfold cutN
  rw [Nat.lt_iff_add_one_le, Nat.le_div_iff_mul_le (by omega), Nat.add_mul]
  omega
def isPartB (cs : List Nat) (size : Int) (p : Part) : Bool := decide (1 ≤ (p.2.length : Int) ∧ (p.2.length : Int) ≤ size) && decide ((cs.drop p.1).take p.2.length = p.2)
def goB (cs : List Nat) : List Part → Int → Int → Bool
  | [], there, _ => decide (there = (cs.length : Int))
  | p :: ps, there, last => if (p.1 : Int) ≤ last ∨ there < (p.1 : Int) then false else goB cs ps (if (p.1 : Int) + p.2.length > there then (p.1 : Int) + p.2.length else there) p.1
def arePartsB (cs : List Nat) (size : Int) (ps : List Part) : Bool := ps.all (isPartB cs size) && goB cs ps 0 (-1)
def spWhole (K : PySem.W.Frag) : Sp := fun vs H Q _ => ∃ (x : V) (t : String) (b1 b2 : Bool), vs = [x] ∧ TyX K H x (.type t) ∧ PySem.W.kitOne K (.type t) (.type "int") = some b1 ∧ PySem.W.kitOne K (.type t) (.type "bool") = some b2 ∧ Q (.bl (b1 && !b2)) H
def spCut (K : PySem.W.Frag) : Sp := fun vs H Q _ => ∃ (cs : List Nat) (s : Nat), vs = [.str (S cs), .int (s : Int)] ∧ 1 ≤ s ∧ s ≤ 100000 ∧ cs.length ≤ 100000 ∧
  ∀ (H' : Hp) (v : V), Same H H' → Rp K H' (.tuple ((cutL cs s).map partD)) v → Q v H'
def spIsPart (K : PySem.W.Frag) : Sp := fun vs H Q _ => ∃ (cs : List Nat) (size : Int) (v : V) (p : Part), vs = [.str (S cs), .int size, v] ∧ Rp K H (partD p) v ∧ cs.length ≤ 100000 ∧ p.2.length ≤ 100000 ∧ Q (.bl (isPartB cs size p)) H
def spAre (K : PySem.W.Frag) : Sp := fun vs H Q _ => ∃ (cs : List Nat) (size : Int) (v : V) (ps : List Part), vs = [.str (S cs), .int size, v] ∧ Rp K H (.tuple (ps.map partD)) v ∧ cs.length ≤ 100000 ∧ (∀ p ∈ ps, p.2.length ≤ 100000) ∧ ps.length ≤ 100000 ∧
  ∀ H', Same H H' → Q (.bl (arePartsB cs size ps)) H'
def GoodParts (cs : List Nat) (ps : List Part) : Prop := (∀ p ∈ ps, p.2 = (cs.drop p.1).take p.2.length) ∧ (∀ p ∈ ps, p.1 + p.2.length ≤ cs.length) ∧ ∀ i, i < cs.length → ∃ p ∈ ps, p.1 ≤ i ∧ i < p.1 + p.2.length
def spPut (K : PySem.W.Frag) : Sp := fun vs H Q _ => ∃ (cs : List Nat) (v : V) (ps : List Part), vs = [.int (cs.length : Int), v] ∧ Rp K H (.tuple (ps.map partD)) v ∧ GoodParts cs ps ∧ cs.length ≤ 100000 ∧
  ∀ H', Same H H' → Q (.str (S cs)) H'
def spDue (K : PySem.W.Frag) : Sp := fun vs H Q _ => ∃ (cs : List Nat) (s : Nat), vs = [.str (S cs), .int (s : Int)] ∧ 1 ≤ s ∧ s ≤ 100000 ∧ cs.length ≤ 100000 ∧
  ∀ (H' : Hp) (v : V), Same H H' → Rp K H' (.tuple ((cutL cs s).map partD)) v → Q v H'
structure TB (mg : Str → Option Value) : Prop where
  isinstance : mg "isinstance" = none
  tuple : mg "tuple" = none
  bool : mg "bool" = none
  str : mg "str" = none
  int : mg "int" = none
  all : mg "all" = none
  len : mg "len" = none
  range : mg "range" = none
  max : mg "max" = none
  enumerate : mg "enumerate" = none

section
variable {P : Program} {w : World} {K : PySem.W.Frag} {mg : Str → Option Value} {base : Heap}
theorem scWhole : FnScope ["thing"] ["thing"] (defScope sWhole) := ⟨rfl, rfl, rfl, by decide +kernel, rfl, by decide +kernel, by decide +kernel⟩
theorem ok_whole {f : Addr} {fd : FuncData} (F : Fun K "is_whole" "is_whole" sWhole f fd) (B : TB mg) : FnOk P w K mg base CX0 1 f fd ["thing"] (spWhole K) := by
  refine F.ok scWhole (fun vs H Q E h => ?_) (fun cdv A outer s H vs Q E hr h => ?_)
  · obtain ⟨x, t, b1, b2, rfl, _⟩ := h
    rfl
  · obtain ⟨x, t, b1, b2, rfl, ty, k1, k2, k⟩ := h
    refine ⟨_, (pss_one (ps_ret (pe_and (pe_callB (isiK (K := K) rfl) (by rfl) B.isinstance (by decide +kernel) (pa_cons (pv 0) (pa_cons (pe_bltn (v := .ty "int") (by rfl) B.int PyProof.Rows.boot_int rfl) pa_nil))) (pe_one (pe_not (pe_callB (isiK (K := K) rfl) (by rfl) B.isinstance (by decide +kernel) (pa_cons (pv 0) (pa_cons (pe_bltn (v := .ty "bool") (by rfl) B.bool PyProof.Rows.boot_bool rfl) pa_nil)))))))), ?_⟩
    refine ⟨_, rfl, _, _, _, _, b1, rfl, .ty _, ty, k1, _, rfl, ?_⟩
    cases b1 with
    | false => exact iteF k
    | true =>
      refine iteT ⟨_, rfl, _, _, _, _, b2, rfl, .ty _, ty, k2, _, rfl, k⟩
theorem scCut : FnScope ["text", "size", "first"] ["text", "size"] (defScope sCut) := ⟨rfl, rfl, rfl, by decide +kernel, rfl, by decide +kernel, by decide +kernel⟩
theorem ok_cut {f : Addr} {fd : FuncData} (F : Fun K "cut" "cut" sCut f fd) (B : TB mg) : FnOk P w K mg base CX0 1 f fd ["text", "size"] (spCut K) := by
  refine F.ok scCut (fun vs H Q E h => ?_) (fun cdv A outer s H vs Q E hr h => ?_)
  · obtain ⟨cs, s, rfl, _⟩ := h
    rfl
  · obtain ⟨cs, s, rfl, h1, h2, h3, k⟩ := h
    refine ⟨_, (pss_one (ps_ret (pe_callTy (tupOfK (K := K) rfl) (by rfl) B.tuple PyProof.Rows.boot_tuple (pa_cons (pe_lc (own := [("first", 2)]) (g := (gName 2)) (tt := tYes) rfl scCut.nd (pi_range3 rfl B.range (pa_cons pe_int (pa_cons (pe_callB (lenK (K := K) rfl) (by rfl) B.len PySem.boot_len (pa_cons (pv 0) pa_nil)) (pa_cons (pv 1) pa_nil)))) (blkOk_by (N := ["text", "size", "first"]) (sc := defScope sCut) (by decide +kernel))
       (fun _ _ _ _ _ => (pg_name (i := 2) scCut.nd rfl (Or.inl rfl))) (fun _ _ _ _ _ => pts_nil) (fun _ _ _ _ _ => (pe_tup (pa_cons (pv 2) (pa_cons (pe_slice sl_str (pv 0) (po_some (pv 2)) (po_some (pe_op op_add (pv 2) (pv 1)))) pa_nil))))) pa_nil)))), ?_⟩
    have hcs : (S cs).length ≤ sizeLine := by rw [S_len]; exact Nat.le_trans h3 (by decide)
    refine ⟨_, rfl, _, cs.length, rfl, ⟨hcs, (S_len cs).symm⟩, _, rfl, _, _, _, _, rfl, rg_cut h1 h2 h3, fun D hD => ?_⟩
    have hN : cutN cs s ≤ 1000000 := by
      by_cases hz : cutN cs s = 0
      · omega
      · have := (cutN_lt (cs := cs) (i := cutN cs s - 1) h1).mp (by omega)
        have h4 : (cutN cs s - 1) * 1 ≤ (cutN cs s - 1) * s := Nat.mul_le_mul_left _ h1
        omega
    refine mapR_it (K := K) (walk_rangeC (lo := 0) (c := (s : Int)) (n := cutN cs s)) (fun i => partD (cutAt cs s i)) hD hN ?_ ?_
    · intro j H' Q' hj s' hQ
      have e1 : (0 : Int) + (j : Nat) * (s : Int) = ((j * s : Nat) : Int) := by rw [Int.natCast_mul]; omega
      have e2 : (0 : Int) + (j : Nat) * (s : Int) + (s : Int) = ((j * s + s : Nat) : Int) := by rw [e1]; omega
      refine ⟨_, rfl, _, rfl, _, rfl, _, rfl, _, rfl, _, rfl, _, _, rfl, rfl, _, rfl, _, rfl, hcs, (by show 2 ≤ sizeLine; decide), fun t ht => ?_⟩
      have ec : cutS (S cs) (some (0 + (j : Nat) * (s : Int))) (some (0 + (j : Nat) * (s : Int) + (s : Int))) = S (cutAt cs s j).2 := by
        rw [e2, e1, cutS_S]
        unfold cutAt
        rw [Nat.add_sub_cancel_left]
      refine hQ _ _ ((L2.Same.refl _).new ht) (Rp.tup upd_same ?_)
      rw [ec, e1]
      exact RpL.cons Rp.int (RpL.cons Rp.str RpL.nil)
    · intro H' ys s' hD' hr'
      refine ⟨D, ys, rfl, .inl ⟨SqL.of hD', fun t ht => ?_⟩⟩
      refine k _ _ (s'.new ht) (Rp.tup upd_same (RpL.tk ((TK.refl _).new ht) _ _ ?_))
      unfold cutL
      rw [List.map_map]
      exact hr'
end
end Wn

namespace Wn
open PySem L2
open SX (S S_len S_cat S_beq_eq join_S)

theorem str_dec (a b : List Nat) : decide (V.str (S a) = V.str (S b)) = decide (a = b) := by
  refine decide_eq_decide.mpr ⟨fun h => ?_, fun h => by rw [h]⟩
  rw [V.str.injEq] at h
  exact SX.S_inj h
theorem RpL.bools {K : PySem.W.Frag} {H : Hp} : ∀ {bs : List Bool} {ys : List V}, RpL K H (bs.map PyData.bool) ys → ys = bs.map V.bl
  | [], ys, h => by
    unfold List.map RpL at h
    exact h
  | n :: ns, ys, h => by
    rw [List.map_cons] at h
    unfold RpL at h
    obtain ⟨v, r, rfl, h1, h2⟩ := h
    unfold Rp at h1
    rw [RpL.bools h2, h1]
    rfl
section
variable {P : Program} {w : World} {K : PySem.W.Frag} {mg : Str → Option Value} {base : Heap}
theorem scIsPart : FnScope ["text", "size", "thing", "first", "signs"] ["text", "size", "thing"] (defScope sIsPart) := ⟨rfl, rfl, rfl, by decide +kernel, rfl, by decide +kernel, by decide +kernel⟩
theorem ok_ispart {f : Addr} {fd : FuncData} (F : Fun K "is_part" "is_part" sIsPart f fd) (B : TB mg) (cW : Cd P w K mg base 1 "is_whole" ["thing"] (spWhole K)) : FnOk P w K mg base CX0 2 f fd ["text", "size", "thing"] (spIsPart K) := by
  obtain ⟨fW, fdW, GW, mW, kW, bW⟩ := cW
  refine F.ok scIsPart (fun vs H Q E h => ?_) (fun cdv A outer s H vs Q E hr h => ?_)
  · obtain ⟨cs, size, v, p, rfl, _⟩ := h
    rfl
  · obtain ⟨cs, size, v, p, rfl, rv, h3, h4, k⟩ := h
    have hr1 : Room 1 _ := hr
    refine ⟨_, (pss_cons (ps_if (PW.pt (pw_or (pt_not (pt_val (pe_callB (isiK (K := K) rfl) (by rfl) B.isinstance (by decide +kernel) (pa_cons (pv 2) (pa_cons (pe_bltn (v := .ty "tuple") (by rfl) B.tuple PyProof.Rows.boot_tuple rfl) pa_nil))))) (pw_or1 (pt_cmpR op_ne (pe_callB (lenK (K := K) rfl) (by rfl) B.len PySem.boot_len (pa_cons (pv 2) pa_nil)) pe_int (nomark _)))))
       (pss_one (ps_ret pe_bl))
       pss_nil)
       (pss_cons (ps_if (PW.pt (pw_or (pt_not (pt_val (pe_call GW hr1 rfl mW kW bW .nil pass0 (pa_cons (pe_ix (ixT (K := K) rfl) (pv 2) pe_int (fun _ _ => rfl)) pa_nil)))) (pw_or1 (pt_not (pt_val (pe_callB (isiK (K := K) rfl) (by rfl) B.isinstance (by decide +kernel) (pa_cons (pe_ix (ixT (K := K) rfl) (pv 2) pe_int (fun _ _ => rfl)) (pa_cons (pe_bltn (v := .ty "str") (by rfl) B.str PyProof.Rows.boot_str rfl) pa_nil))))))))
       (pss_one (ps_ret pe_bl))
       pss_nil)
       (pss_cons (ps_asg (pv 2) (pg_tup rfl (pgs_cons (pg_name (i := 3) scIsPart.nd rfl (Or.inl rfl)) (pgs_cons (pg_name (i := 4) scIsPart.nd rfl (Or.inl rfl)) pgs_nil))))
       (pss_one (ps_ret (pe_and (pe_cmpR op_le pe_int (pv 3) (nomark _)) (pe_and (pe_chain op_le op_le pe_int (pe_callB (lenK (K := K) rfl) (by rfl) B.len PySem.boot_len (pa_cons (pv 4) pa_nil)) (pv 1)) (pe_one (pe_cmpR op_eq (pe_slice sl_str (pv 0) (po_some (pv 3)) (po_some (pe_op op_add (pv 3) (pe_callB (lenK (K := K) rfl) (by rfl) B.len PySem.boot_len (pa_cons (pv 4) pa_nil))))) (pv 4) (nomark _)))))))))), ?_⟩
    obtain ⟨a, rfl, ha⟩ := partD_inv rv
    have hcs : (S cs).length ≤ sizeLine := by rw [S_len]; exact Nat.le_trans h3 (by decide)
    have hps : (S p.2).length ≤ sizeLine := by rw [S_len]; exact Nat.le_trans h4 (by decide)
    refine ⟨_, rfl, _, _, _, _, true, rfl, .ty _, ty_tup ha, kit_ty (by decide +kernel), _, rfl, iteF ?_⟩
    refine ⟨_, rfl, _, 2, rfl, .inr ⟨_, ha, rfl⟩, rfl, _, rfl, ?_⟩
    refine iteNS rfl ?_
    refine ⟨_, rfl, a, _, _, _, rfl, rfl, ha, rfl, _, "int", true, false, rfl, .base (.int _), kit_ty (by decide +kernel), kit_ty (by decide +kernel), _, rfl, iteF ?_⟩
    refine ⟨_, rfl, a, _, _, _, rfl, rfl, ha, rfl, _, _, _, _, true, rfl, .ty _, .base (.str _), kit_ty (by decide +kernel), _, rfl, iteF ?_⟩
    refine ⟨_, rfl, a, _, rfl, ha, rfl, _, _, rfl, _, _, rfl, rfl, ?_⟩
    refine ⟨_, rfl, _, _, rfl, rfl, _, rfl, ?_⟩
    rw [show decide ((0 : Int) ≤ ((p.1 : Nat) : Int)) = true from decide_eq_true (by omega)]
    refine iteT ?_
    refine ⟨_, rfl, _, p.2.length, rfl, ⟨hps, (S_len p.2).symm⟩, _, _, rfl, rfl, _, rfl, ?_⟩
    unfold isPartB at k
    refine ite2 (fun h1 => ?_) (fun h1 => ?_)
    · have h1 := of_decide_eq_true h1
      refine ⟨_, rfl, _, _, rfl, rfl, _, rfl, ?_⟩
      refine ite2 (fun h2 => ?_) (fun h2 => ?_)
      · have h2 := of_decide_eq_true h2
        rw [decide_eq_true (show 1 ≤ (p.2.length : Int) ∧ (p.2.length : Int) ≤ size from ⟨h1, h2⟩), Bool.true_and] at k
        refine ⟨_, rfl, _, rfl, _, rfl, _, rfl, _, rfl, _, p.2.length, rfl, ⟨hps, (S_len p.2).symm⟩, _, _, rfl, rfl, _, rfl, _, rfl, hcs, _, rfl, rfl, ?_⟩
        have ec : cutS (S cs) (some ((p.1 : Nat) : Int)) (some (((p.1 : Nat) : Int) + (p.2.length : Int))) = S ((cs.drop p.1).take p.2.length) := by
          rw [show ((p.1 : Nat) : Int) + (p.2.length : Int) = ((p.1 + p.2.length : Nat) : Int) by omega, cutS_S, Nat.add_sub_cancel_left]
        show Q (.bl (decide (V.str (cutS (S cs) (some ((p.1 : Nat) : Int)) (some (((p.1 : Nat) : Int) + (p.2.length : Int)))) = V.str (S p.2)))) H
        rw [ec, str_dec]
        exact k
      · have h2 : ¬ (p.2.length : Int) ≤ size := fun z => h2 (decide_eq_true z)
        rw [decide_eq_false (show ¬ (1 ≤ (p.2.length : Int) ∧ (p.2.length : Int) ≤ size) from fun z => h2 z.2), Bool.false_and] at k
        exact k
    · have h1 : ¬ 1 ≤ (p.2.length : Int) := fun z => h1 (decide_eq_true z)
      rw [decide_eq_false (show ¬ (1 ≤ (p.2.length : Int) ∧ (p.2.length : Int) ≤ size) from fun z => h1 z.1), Bool.false_and] at k
      exact ⟨_, rfl, iteF k⟩
theorem scAre : FnScope ["text", "size", "thing", "there", "last", "first", "signs", "part"] ["text", "size", "thing"] (defScope sAre) := ⟨rfl, rfl, rfl, by decide +kernel, rfl, by decide +kernel, by decide +kernel⟩
theorem ok_are {f : Addr} {fd : FuncData} (F : Fun K "are_parts" "are_parts" sAre f fd) (B : TB mg) (cP : Cd P w K mg base 2 "is_part" ["text", "size", "thing"] (spIsPart K)) : FnOk P w K mg base CX0 3 f fd ["text", "size", "thing"] (spAre K) := by
  obtain ⟨fP, fdP, GP, mP, kP, bP⟩ := cP
  refine F.ok scAre (fun vs H Q E h => ?_) (fun cdv A outer s H vs Q E hr h => ?_)
  · obtain ⟨cs, size, v, ps, rfl, _⟩ := h
    rfl
  · obtain ⟨cs, size, v, ps, rfl, rv, h3, h4, h5, k⟩ := h
    have hr2 : Room 2 _ := hr
    refine ⟨_, (pss_cons (ps_if (PW.pt (pw_or (pt_not (pt_val (pe_callB (isiK (K := K) rfl) (by rfl) B.isinstance (by decide +kernel) (pa_cons (pv 2) (pa_cons (pe_bltn (v := .ty "tuple") (by rfl) B.tuple PyProof.Rows.boot_tuple rfl) pa_nil))))) (pw_or1 (pt_not (pt_val (pe_callB (crAllK (K := K) rfl rfl) (by rfl) B.all (by decide +kernel) (pa_cons (pe_lc (own := [("part", 7)]) (g := (gName 7)) (tt := tYes) rfl scAre.nd (pi_tup (pv 2)) (blkOk_by (N := ["text", "size", "thing", "there", "last", "first", "signs", "part"]) (sc := defScope sAre) (by decide +kernel))
       (fun _ _ _ _ _ => (pg_name (i := 7) scAre.nd rfl (Or.inl rfl))) (fun _ _ _ _ _ => pts_nil) (fun _ _ _ _ _ => (pe_call GP hr2 rfl mP kP bP .nil pass0 (pa_cons (pv 0) (pa_cons (pv 1) (pa_cons (pv 7) pa_nil)))))) pa_nil)))))))
       (pss_one (ps_ret pe_bl))
       pss_nil)
       (pss_cons (ps_set (i := 3) scAre.nd rfl (Or.inl rfl) pe_int)
       (pss_cons (ps_set (i := 4) scAre.nd rfl (Or.inl rfl) (pe_un un_neg pe_int))
       (pss_cons (ps_for PassesOwn.never rfl (pi_tup (pv 2)) (pg_tup rfl (pgs_cons (pg_name (i := 5) scAre.nd rfl (Or.inl rfl)) (pgs_cons (pg_name (i := 6) scAre.nd rfl (Or.inl rfl)) pgs_nil)))
       (pss_cons (ps_if (PW.pt (pw_or (pt_cmpR op_le (pv 5) (pv 4) (nomark _)) (pw_or1 (pt_cmpR op_gt (pv 5) (pv 3) (nomark _)))))
       (pss_one (ps_ret pe_bl))
       pss_nil)
       (pss_cons (ps_set (i := 4) scAre.nd rfl (Or.inl rfl) (pv 5))
       (pss_one (ps_set (i := 3) scAre.nd rfl (Or.inl rfl) (pe_callB (call_max2 rfl) (by rfl) B.max (by decide +kernel) (pa_cons (pv 3) (pa_cons (pe_op op_add (pv 5) (pe_callB (lenK (K := K) rfl) (by rfl) B.len PySem.boot_len (pa_cons (pv 6) pa_nil))) pa_nil))))))))
       (pss_one (ps_ret (pe_cmpR op_eq (pv 3) (pe_callB (lenK (K := K) rfl) (by rfl) B.len PySem.boot_len (pa_cons (pv 0) pa_nil)) (nomark _)))))))), ?_⟩
    unfold Rp at rv
    obtain ⟨a, xs, rfl, ha, rl⟩ := rv
    have hcs : (S cs).length ≤ sizeLine := by rw [S_len]; exact Nat.le_trans h3 (by decide)
    refine ⟨_, rfl, _, _, _, _, true, rfl, .ty _, ty_tup ha, kit_ty (by decide +kernel), _, rfl, iteF ?_⟩
    refine ⟨_, rfl, a, rfl, ⟨_, ha⟩, fun D hD => ?_⟩
    refine mapD_it (K := K) (walk_tup (K := K) (a := a) (xs := xs)) (fun H' s' => SqT.tk ha (TK.of s')) (fun p => .bool (isPartB cs size p)) rl hD (by omega) ?_ ?_
    · intro b x H' Q' hb rb s' hQ
      exact ⟨_, rfl, _, rfl, _, rfl, cs, size, x, b, rfl, rb, h3, h4 b hb, hQ _ _ (L2.Same.refl _) (by unfold Rp; rfl)⟩
    intro H1 ys s1 hD1 rD1
    have eys : ys = (ps.map (isPartB cs size)).map V.bl := RpL.bools (by rw [List.map_map]; exact rD1)
    subst eys
    refine ⟨D, ps.map (isPartB cs size), rfl, SqL.of hD1, _, rfl, ?_⟩
    have ea : (ps.map (isPartB cs size)).all id = ps.all (isPartB cs size) := by rw [List.all_map]; rfl
    rw [ea]
    unfold arePartsB at k
    cases e : ps.all (isPartB cs size) with
    | false =>
      rw [e] at k
      exact iteT (k H1 s1)
    | true =>
      rw [e, Bool.true_and] at k
      generalize eR : goB cs ps 0 (-1) = R at k
      refine iteF ?_
      refine ⟨_, rfl, ?_⟩
      have ha1 := SqT.tk ha (TK.of s1)
      have rl1 := RpL.tk (TK.of s1) _ _ rl
      have lxs := RpL.len _ _ rl1
      rw [List.length_map] at lxs
      refine ⟨_, rfl, a, rfl, ⟨_, ha1⟩, ?_⟩
      refine for_tup (K := K) (a := a) (xs := xs) (fun i σ H' => ∃ (there last : Int) (v5 v6 v7 : Option V), σ = [some (.str (S cs)), some (.int size), some (.ref a), some (.int there), some (.int last), v5, v6, v7] ∧ H' = H1 ∧ goB cs (ps.drop i) there last = R) ⟨0, -1, _, _, _, rfl, rfl, eR⟩ (fun i σ H' _ ⟨_, _, _, _, _, _, e, _⟩ => by rw [e]; exact ha1) ?_ ?_
      · rintro i x σ H2 hx ⟨there, last, v5, v6, v7, rfl, rfl, eg⟩
        have hi : i < ps.length := by
          have q := (List.getElem?_eq_some_iff.mp hx).1
          omega
        obtain ⟨v, ev, rv⟩ := RpL.get _ _ rl1 i (partD ps[i]) (by rw [List.getElem?_map, List.getElem?_eq_getElem hi]; rfl)
        have ex : v = x := Option.some.inj (ev.symm.trans hx)
        rw [ex] at rv
        obtain ⟨pa, rfl, hpa⟩ := partD_inv rv
        rw [List.drop_eq_getElem_cons hi] at eg
        unfold goB at eg
        have hps : (S ps[i].2).length ≤ sizeLine := by rw [S_len]; exact Nat.le_trans (h4 _ (List.getElem_mem hi)) (by decide)
        refine ⟨pa, _, rfl, hpa, rfl, _, _, rfl, _, _, rfl, rfl, ?_⟩
        have bad : ((ps[i].1 : Int) ≤ last ∨ there < (ps[i].1 : Int)) → Q (.bl false) H2 := fun hb => by
          rw [if_pos hb] at eg
          rw [eg]
          exact k H2 s1
        refine ⟨_, rfl, _, rfl, _, _, rfl, rfl, _, rfl, ?_⟩
        refine ite2 (fun h1 => iteT (bad (.inl (of_decide_eq_true h1)))) (fun h1 => ?_)
        have h1 : ¬ (ps[i].1 : Int) ≤ last := fun z => h1 (decide_eq_true z)
        refine ⟨_, rfl, _, rfl, _, _, rfl, rfl, _, rfl, ?_⟩
        refine ite2 (fun h2 => bad (.inr (of_decide_eq_true h2))) (fun h2 => ?_)
        have h2 : ¬ there < (ps[i].1 : Int) := fun z => h2 (decide_eq_true z)
        rw [if_neg (fun z => z.elim h1 h2)] at eg
        refine ⟨_, rfl, ?_⟩
        refine ⟨_, rfl, _, rfl, _, rfl, _, ps[i].2.length, rfl, ⟨hps, (S_len _).symm⟩, _, _, rfl, rfl, _, _, rfl, ?_⟩
        exact ⟨_, _, _, _, _, rfl, rfl, eg⟩
      · rintro σ H2 ⟨there, last, v5, v6, v7, rfl, rfl, eg⟩
        rw [lxs, List.drop_length] at eg
        unfold goB at eg
        refine ⟨_, rfl, _, rfl, _, cs.length, rfl, ⟨hcs, (S_len _).symm⟩, rfl, ?_⟩
        show Q (.bl (decide (V.int there = V.int (cs.length : Int)))) H2
        rw [show decide (V.int there = V.int (cs.length : Int)) = decide (there = (cs.length : Int)) from decide_eq_decide.mpr (by rw [V.int.injEq]), eg]
        exact k H2 s1
end
end Wn

namespace Wn
open PySem L2
open SX (S S_len S_cat S_beq_eq join_S)

theorem lt_len {n : Int} : ∀ (l : List Int) (a : Int), l.Pairwise (· < ·) → (∀ x ∈ l, a ≤ x ∧ x < n) → (l.length : Int) ≤ if a ≤ n then n - a else 0
  | [], a, _, _ => by
    show (0 : Int) ≤ _
    split <;> omega
  | x :: l, a, h, b => by
    rw [List.pairwise_cons] at h
    have hx := b x List.mem_cons_self
    have ih := lt_len l (x + 1) h.2 fun y hy => ⟨by have := h.1 y hy; omega, (b y (List.mem_cons_of_mem _ hy)).2⟩
    rw [List.length_cons]
    split at ih <;> split <;> omega
theorem nodup_len {n : Nat} {l : List Int} (nd : l.Nodup) (b : ∀ x ∈ l, 0 ≤ x ∧ x < (n : Int)) : l.length ≤ n := by
  have p := sortI_perm l
  have h := lt_len (n := (n : Int)) (sortI l) 0 (lt_of_nodup (sortI_sorted l) (p.nodup_iff.mpr nd)) fun x hx => b x (p.mem_iff.mp hx)
  rw [p.length_eq, if_pos (by omega)] at h
  omega
theorem nodup_all {n : Nat} {l : List Int} (nd : l.Nodup) (b : ∀ x, x ∈ l ↔ 0 ≤ x ∧ x < (n : Int)) : l.length = n := by
  have p := sortI_perm l
  have e : sortI l = (List.range n).map fun (j : Nat) => (j : Int) := by
    refine eq_of_lt _ _ (lt_of_nodup (sortI_sorted l) (p.nodup_iff.mpr nd)) ?_ fun x => ?_
    · rw [List.pairwise_map]
      exact (List.pairwise_lt_range (n := n)).imp fun h => by omega
    · rw [p.mem_iff, b, List.mem_map]
      constructor
      · intro h
        exact ⟨x.toNat, by rw [List.mem_range]; omega, by omega⟩
      · rintro ⟨j, hj, rfl⟩
        rw [List.mem_range] at hj
        omega
  rw [← p.length_eq, e, List.length_map, List.length_range]
def signD (c : Nat) : PyData := .str (S [c])
/-- signs that have come, all of them those of the text -/
structure Come (cs : List Nat) (m : List (Int × Nat)) : Prop where
  nd : (m.map (·.1)).Nodup
  ok : ∀ i c, lookA m i = some c → 0 ≤ i ∧ i < (cs.length : Int) ∧ cs[i.toNat]? = some c
theorem Come.nil (cs : List Nat) : Come cs [] := ⟨List.nodup_nil, fun i c h => by cases h⟩
theorem Come.put {cs : List Nat} {m : List (Int × Nat)} (h : Come cs m) {j c : Nat} (hc : cs[j]? = some c) : Come cs (putA m (j : Int) c) := by
  refine ⟨nodup_put h.nd, fun i x e => ?_⟩
  rw [lookA_put] at e
  split at e
  · rename_i ei
    cases e
    have := (List.getElem?_eq_some_iff.mp hc).1
    exact ⟨by omega, by omega, by rw [ei]; exact hc⟩
  · exact h.ok i x e
theorem Come.len {cs : List Nat} {m : List (Int × Nat)} (h : Come cs m) : m.length ≤ cs.length := by
  have := nodup_len (n := cs.length) h.nd fun x hx => by
    obtain ⟨c, e, _⟩ := lookA_mem hx
    have := h.ok x c e
    exact ⟨this.1, this.2.1⟩
  rw [List.length_map] at this
  exact this
theorem Come.all {cs : List Nat} {m : List (Int × Nat)} (h : Come cs m) (a : ∀ i : Nat, i < cs.length → (lookA m (i : Int)).isSome = true) : m.length = cs.length := by
  have := nodup_all (n := cs.length) h.nd fun x => by
    constructor
    · intro hx
      obtain ⟨c, e, _⟩ := lookA_mem hx
      have := h.ok x c e
      exact ⟨this.1, this.2.1⟩
    · intro hx
      have := a x.toNat (by omega)
      rw [show ((x.toNat : Nat) : Int) = x by omega] at this
      exact mem_keys.mpr this
  rw [List.length_map] at this
  exact this
section
variable {P : Program} {w : World} {K : PySem.W.Frag} {mg : Str → Option Value} {base : Heap}
theorem scPut : FnScope ["whole", "parts", "signs", "torn", "first", "some", "at", "sign"] ["whole", "parts"] (defScope sPut) := ⟨rfl, rfl, rfl, by decide +kernel, rfl, by decide +kernel, by decide +kernel⟩
theorem ok_puttog {f : Addr} {fd : FuncData} (F : Fun K "put_together" "put_together" sPut f fd) (B : TB mg) : FnOk P w K mg base CX0 1 f fd ["whole", "parts"] (spPut K) := by
  refine F.ok scPut (fun vs H Q E h => ?_) (fun cdv A outer s H vs Q E hr h => ?_)
  · obtain ⟨cs, v, ps, rfl, _⟩ := h
    rfl
  · obtain ⟨cs, v, ps, rfl, rv, ⟨g1, g2, g3⟩, h3, k⟩ := h
    have hu := hu_of hr
    refine ⟨_, (pss_cons (ps_set (i := 2) scPut.nd rfl (Or.inr rfl) pe_dnewK)
       (pss_cons (ps_set (i := 3) scPut.nd rfl (Or.inl rfl) (pe_lst pa_nil))
       (pss_cons (ps_for PassesOwn.never rfl (pi_tup (pv 1)) (pg_tup rfl (pgs_cons (pg_name (i := 4) scPut.nd rfl (Or.inl rfl)) (pgs_cons (pg_name (i := 5) scPut.nd rfl (Or.inl rfl)) pgs_nil)))
       (pss_one (ps_for PassesOwn.never rfl (pi_enumS (by rfl) B.enumerate (pa_cons (pv 5) pa_nil)) (pg_tup rfl (pgs_cons (pg_name (i := 6) scPut.nd rfl (Or.inl rfl)) (pgs_cons (pg_name (i := 7) scPut.nd rfl (Or.inl rfl)) pgs_nil)))
       (pss_cons (ps_if (PW.pt (pw_or (pt_cmpR op_ge (pe_op op_add (pv 4) (pv 6)) (pv 0) (nomark _)) (pw_or1 (pt_cmpR op_ne (pe_dget2 hu (pv 2) (pe_op op_add (pv 4) (pv 6)) (pv 7) ⟨rfl, rfl, rfl, rfl⟩) (pv 7) (nomark _)))))
       (pss_one (ps_expr (pe_bm PySem.F.plainAttrs_list PySem.F.slot_list_append PySem.F.type_list_append mt_append (pv 3) (pa_cons (pe_op op_add (pv 4) (pv 6)) pa_nil))))
       pss_nil)
       (pss_one (ps_dput hu (pv 2) (pe_op op_add (pv 4) (pv 6)) (pv 7) rfl))))))
       (pss_cons (ps_if (pt_cmpR (neDK (K := K) rfl hr.units) (pv 3) (pe_lst pa_nil) (nomark _))
       (pss_one ps_never)
       pss_nil)
       (pss_cons (ps_if (pt_cmpR op_lt (pe_callB call_lenD (by rfl) B.len PySem.boot_len (pa_cons (pv 2) pa_nil)) (pv 0) (nomark _))
       (pss_one (ps_ret pe_non))
       pss_nil)
       (pss_one (ps_ret (joinK (K := K) rfl pe_str (pe_lc (own := [("at", 6)]) (g := (gName 6)) (tt := tYes) rfl scPut.nd (pi_range1 rfl B.range (pa_cons (pv 0) pa_nil)) (blkOk_by (N := ["whole", "parts", "signs", "torn", "first", "some", "at", "sign"]) (sc := defScope sPut) (by decide +kernel))
       (fun _ _ _ _ _ => (pg_name (i := 6) scPut.nd rfl (Or.inl rfl))) (fun _ _ _ _ _ => pts_nil) (fun _ _ _ _ _ => (pe_dget hu (pv 2) (pv 6) (fun _ _ => rfl)))))))))))), ?_⟩
    unfold Rp at rv
    obtain ⟨a, xs, rfl, ha, rl⟩ := rv
    intro sd nsd
    refine ⟨Nat.zero_le _, fun ta nta => ?_⟩
    have s1 : Same H (upd H sd (.dK [])) := (L2.Same.refl H).new nsd
    have s2 : Same H (upd (upd H sd (.dK [])) ta (.lst [])) := s1.new nta
    have hsd2 : upd (upd H sd (.dK [])) ta (.lst []) sd = some (.dK []) := (upd_ne (ne_of_none upd_same nta)).trans upd_same
    have hta2 : upd (upd H sd (.dK [])) ta (.lst []) ta = some (.lst []) := upd_same
    have nta0 : H ta = none := s1.free nta
    generalize upd (upd H sd (.dK [])) ta (.lst []) = H2 at s2 hsd2 hta2
    have lxs := RpL.len _ _ rl
    rw [List.length_map] at lxs
    refine ⟨_, rfl, a, rfl, ⟨_, SqT.tk ha (TK.of s2)⟩, ?_⟩
    refine for_tup (K := K) (a := a) (xs := xs) (fun i σ H' => ∃ (m : List (Int × Nat)) (v4 v5 v6 v7 : Option V), σ = [some (.int (cs.length : Int)), some (.ref a), some (.ref sd), some (.ref ta), v4, v5, v6, v7] ∧ Same H H' ∧ H' ta = some (.lst []) ∧ DictAt signD K H' sd m ∧ Come cs m ∧ ∀ p ∈ ps.take i, ∀ j : Nat, p.1 ≤ j → j < p.1 + p.2.length → (lookA m (j : Int)).isSome = true)
      ⟨[], _, _, _, _, rfl, s2, hta2, ⟨[], hsd2, rfl⟩, Come.nil cs, (by intro p hp; cases hp)⟩ (fun i σ H' _ ⟨_, _, _, _, _, _, s, _⟩ => SqT.tk ha (TK.of s)) ?_ ?_
    · rintro i x σ H3 hx ⟨m, v4, v5, v6, v7, rfl, s3, hta3, hd3, cm, cov⟩
      have hi : i < ps.length := by
        have q := (List.getElem?_eq_some_iff.mp hx).1
        omega
      obtain ⟨v, ev, rv⟩ := RpL.get _ _ rl i (partD ps[i]) (by rw [List.getElem?_map, List.getElem?_eq_getElem hi]; rfl)
      have ex : v = x := Option.some.inj (ev.symm.trans hx)
      rw [ex] at rv
      obtain ⟨pa, rfl, hpa⟩ := partD_inv (Rp.tk (TK.of s3) _ _ rv)
      have hp1 := g1 _ (List.getElem_mem hi)
      have hp2 := g2 _ (List.getElem_mem hi)
      generalize hpe : ps[i] = p at hpa hp1 hp2 rv
      have hsg : ∀ l c, p.2[l]? = some c → cs[p.1 + l]? = some c := fun l c hc => by
        rw [hp1, List.getElem?_take] at hc
        split at hc
        · rw [List.getElem?_drop] at hc
          exact hc
        · cases hc
      refine ⟨pa, _, rfl, hpa, rfl, _, _, rfl, _, _, rfl, rfl, ?_⟩
      refine ⟨_, rfl, _, rfl, ?_⟩
      refine for_it (walk_enumS (x := S p.2)) (fun l σ H' => ∃ (m : List (Int × Nat)) (v6 v7 : Option V), σ = [some (.int (cs.length : Int)), some (.ref a), some (.ref sd), some (.ref ta), some (.int (p.1 : Int)), some (.str (S p.2)), v6, v7] ∧ Same H H' ∧ H' ta = some (.lst []) ∧ DictAt signD K H' sd m ∧ Come cs m ∧ (∀ q ∈ ps.take i, ∀ j : Nat, q.1 ≤ j → j < q.1 + q.2.length → (lookA m (j : Int)).isSome = true) ∧ ∀ j : Nat, p.1 ≤ j → j < p.1 + l → (lookA m (j : Int)).isSome = true)
        ⟨m, _, _, rfl, s3, hta3, hd3, cm, cov, fun j h1 h2 => by omega⟩ (fun _ _ _ _ _ => trivial) ?_ ?_
      · rintro l y σ H4 H5 hl ⟨m, v6, v7, rfl, s4, hta4, hd4, cm4, cov4, cov4'⟩ ⟨T, c, rfl, nT, rfl, hc⟩
        have hc : p.2[l]? = some c := by
          have : (p.2.toArray)[l]? = some c := hc
          rw [List.getElem?_toArray] at this
          exact this
        have hcc := hsg l c hc
        have hll : l < p.2.length := (List.getElem?_eq_some_iff.mp hc).1
        have s45 : Same H4 (upd H4 T (.tup [.int (l : Nat), .str ⟨#[c]⟩])) := (L2.Same.refl _).new nT
        have hT5 : upd H4 T (.tup [.int (l : Nat), .str ⟨#[c]⟩]) T = some (.tup [.int (l : Nat), .str ⟨#[c]⟩]) := upd_same
        generalize upd H4 T (.tup [.int (l : Nat), .str ⟨#[c]⟩]) = H5 at s45 hT5
        have hd5 := hd4.same s45
        have hta5 := s45 _ _ hta4
        have s5 := s4.trans s45
        obtain ⟨kvs, hk5, rk5⟩ := id hd5
        have e0 : ((p.1 : Nat) : Int) + ((l : Nat) : Int) = ((p.1 + l : Nat) : Int) := by omega
        refine ⟨T, _, rfl, SqT.of hT5, rfl, _, _, rfl, _, _, rfl, rfl, ?_⟩
        have kE : Kp [sd] H5 (upd H5 sd (.dK (putK kvs (Sum.inl ((p.1 + l : Nat) : Int)) (.str ⟨#[c]⟩)))) := (Kp.refl _ _).wr (List.mem_singleton.mpr rfl)
        have tE : TK H5 (upd H5 sd (.dK (putK kvs (Sum.inl ((p.1 + l : Nat) : Int)) (.str ⟨#[c]⟩)))) := (TK.refl _).wr hk5 rfl
        have nts : ta ≠ sd := ne_of hta5 hk5 (by intro z; cases z)
        have fin : ∃ (m : List (Int × Nat)) (v6 v7 : Option V), [some (V.int (cs.length : Int)), some (.ref a), some (.ref sd), some (.ref ta), some (.int (p.1 : Int)), some (.str (S p.2)), some (.int (l : Nat)), some (.str ⟨#[c]⟩)] = [some (.int (cs.length : Int)), some (.ref a), some (.ref sd), some (.ref ta), some (.int (p.1 : Int)), some (.str (S p.2)), v6, v7] ∧ Same H (upd H5 sd (.dK (putK kvs (Sum.inl ((p.1 + l : Nat) : Int)) (.str ⟨#[c]⟩)))) ∧ (upd H5 sd (.dK (putK kvs (Sum.inl ((p.1 + l : Nat) : Int)) (.str ⟨#[c]⟩)))) ta = some (.lst []) ∧ DictAt signD K (upd H5 sd (.dK (putK kvs (Sum.inl ((p.1 + l : Nat) : Int)) (.str ⟨#[c]⟩)))) sd m ∧ Come cs m ∧ (∀ q ∈ ps.take i, ∀ j : Nat, q.1 ≤ j → j < q.1 + q.2.length → (lookA m (j : Int)).isSome = true) ∧ ∀ j : Nat, p.1 ≤ j → j < p.1 + (l + 1) → (lookA m (j : Int)).isSome = true := by
          refine ⟨putA m ((p.1 + l : Nat) : Int) c, _, _, rfl, s5.wrn nsd, (upd_ne nts).trans hta5, ⟨_, upd_same, (rk5.put (x := c) Rp.str).tk tE⟩, cm4.put hcc, fun q hq j h1 h2 => ?_, fun j h1 h2 => ?_⟩
          · rw [lookA_put]
            split
            · rfl
            · exact cov4 q hq j h1 h2
          · rw [lookA_put]
            split
            · rfl
            · exact cov4' j h1 (by omega)
        refine ⟨_, rfl, _, rfl, _, _, rfl, rfl, _, rfl, _, _, rfl, rfl, _, rfl, ?_⟩
        rw [show decide ((cs.length : Int) ≤ ((p.1 : Nat) : Int) + ((l : Nat) : Int)) = false from decide_eq_false (by omega)]
        refine iteF ?_
        have g := DGet.k (k := Sum.inl ((p.1 + l : Nat) : Int)) hk5
        have g' : DGet H5 sd (.int (((p.1 : Nat) : Int) + ((l : Nat) : Int))) (valV kvs (Sum.inl ((p.1 + l : Nat) : Int))) := by rw [e0]; exact g
        refine ⟨_, rfl, sd, rfl, .inl ⟨kvs, .inl hk5⟩, _, rfl, _, rfl, _, _, rfl, rfl, _, rfl, _, g', ?_⟩
        have eo : (valV kvs (Sum.inl ((p.1 + l : Nat) : Int))).getD (.str ⟨#[c]⟩) = .str ⟨#[c]⟩ := by
          rcases rk5.val (k := ((p.1 + l : Nat) : Int)) with ⟨e1, e2⟩ | ⟨x, u, e1, e2, r⟩
          · rw [e2]
            rfl
          · rw [e2]
            have h1 := (cm4.ok _ _ e1).2.2
            rw [Int.toNat_natCast, hcc] at h1
            unfold signD Rp at r
            rw [r, Option.some.inj h1]
            rfl
        rw [eo]
        refine ⟨_, rfl, rfl, _, rfl, ?_⟩
        refine iteNS rfl ?_
        have dp : DPut H5 sd (.int (((p.1 : Nat) : Int) + ((l : Nat) : Int))) (.str ⟨#[c]⟩) (upd H5 sd (.dK (putK kvs (Sum.inl ((p.1 + l : Nat) : Int)) (.str ⟨#[c]⟩)))) := by
          rw [e0]
          exact DPut.k (k := Sum.inl ((p.1 + l : Nat) : Int)) hk5 (by rw [rk5.len]; exact Nat.lt_of_le_of_lt (Nat.le_trans cm4.len h3) (by decide))
        exact ⟨_, rfl, _, rfl, _, rfl, _, rfl, _, _, rfl, rfl, sd, _, rfl, dp, fin⟩
      · rintro σ H4 ⟨m, v6, v7, rfl, s4, hta4, hd4, cm4, cov4, cov4'⟩
        have el : (S p.2).cps.size = p.2.length := by simp
        rw [el] at cov4'
        refine ⟨m, _, _, _, _, rfl, s4, hta4, hd4, cm4, fun q hq j h1 h2 => ?_⟩
        rw [List.take_succ_eq_append_getElem hi] at hq
        rcases List.mem_append.mp hq with hq | hq
        · exact cov4 q hq j h1 h2
        · rw [List.mem_singleton, hpe] at hq
          subst hq
          exact cov4' j h1 h2
    · rintro σ H3 ⟨m, v4, v5, v6, v7, rfl, s3, hta3, hd3, cm, cov⟩
      obtain ⟨kvs, hk3, rk3⟩ := id hd3
      have call : m.length = cs.length := cm.all fun i hi => by
        obtain ⟨p, hp, h1, h2⟩ := g3 i hi
        rw [lxs, List.take_length] at cov
        exact cov p hp i h1 h2
      refine ⟨_, rfl, Nat.zero_le _, fun l nl => ?_⟩
      have s4 : Same H3 (upd H3 l (.lst [])) := (L2.Same.refl _).new nl
      have hl4 : upd H3 l (.lst []) l = some (.lst []) := upd_same
      generalize upd H3 l (.lst []) = H4 at s4 hl4
      refine ⟨.list [], .list [], .lst (SqL.of (s4 _ _ hta3)) .nil, .lst (SqL.of hl4) .nil, rfl, rfl, _, rfl, ?_⟩
      rw [show PyData.eqv (.list []) (.list []) = true from SeqAt.eqv_refl _ rfl]
      refine iteF ?_
      refine ⟨_, rfl, sd, kvs, rfl, s4 _ _ hk3, _, rfl, _, _, rfl, rfl, _, rfl, ?_⟩
      rw [show decide (((kvs.length : Nat) : Int) < (cs.length : Int)) = false from decide_eq_false (by rw [rk3.len, call]; omega)]
      refine iteF ?_
      refine ⟨⟨_, rfl⟩, ?_⟩
      refine ⟨_, rfl, _, rfl, by omega, by omega, fun D hD => ?_⟩
      have s34 := s3.trans s4
      refine lc_range (lo := 0) (n := _) (fun j H' => H' D = some (.lst (((cs.take j).map fun c => S [c]).map V.str)) ∧ Same H4 H') ⟨upd_same, (L2.Same.refl _).new hD⟩ ?_ ?_
      · rintro j H5 hj ⟨hD5, s5⟩
        have hj : j < cs.length := by simpa using hj
        have e0 : (0 : Int) + (j : Int) = ((j : Nat) : Int) := by omega
        have hs : (lookA m (j : Int)).isSome = true := by
          obtain ⟨p, hp, h1, h2⟩ := g3 j hj
          rw [lxs, List.take_length] at cov
          exact cov p hp j h1 h2
        have ev : valV kvs (Sum.inl ((j : Nat) : Int)) = some (.str (S [cs[j]])) := by
          rcases rk3.val (k := ((j : Nat) : Int)) with ⟨e1, e2⟩ | ⟨x, u, e1, e2, r⟩
          · rw [e1] at hs
            cases hs
          · have h1 := (cm.ok _ _ e1).2.2
            rw [Int.toNat_natCast, List.getElem?_eq_getElem hj] at h1
            unfold signD Rp at r
            rw [e2, r, Option.some.inj h1]
        have g := DGet.k (k := Sum.inl ((j : Nat) : Int)) (s5 _ _ (s4 _ _ hk3))
        rw [ev] at g
        have g' : DGet H5 sd (.int (0 + (j : Int))) (some (.str (S [cs[j]]))) := by rw [e0]; exact g
        refine ⟨rfl, _, rfl, _, rfl, sd, _, rfl, g', _, hD5, ?_, ?_, s5.wrn hD⟩
        · rw [List.length_map, List.length_map, List.length_take]
          exact Nat.lt_of_le_of_lt (show min j cs.length ≤ 100000 by omega) (by decide)
        · rw [upd_same, List.take_succ_eq_append_getElem hj, List.map_append, List.map_append]
          rfl
      · rintro H5 ⟨hD5, s5⟩
        have hD5 : H5 D = some (.lst ((cs.map fun c => S [c]).map V.str)) := by
          rw [Int.toNat_natCast, List.take_length] at hD5
          exact hD5
        refine ⟨_, D, cs.map fun c => S [c], rfl, rfl, .inl (SqL.of hD5), ?_, ?_⟩
        · rw [sum_signs, List.length_map]
          show cs.length + cs.length * 0 ≤ _
          omega
        · rw [show (Txt.join (Str.ofString "") (cs.map fun c => S [c])) = S cs from join_signs cs]
          exact k H5 (s34.trans s5)
theorem scDue : FnScope ["_law_text_here", "_law_size", "_law_found", "_law_at"] ["_law_text_here", "_law_size"] (defScope sDue) := ⟨rfl, rfl, rfl, by decide +kernel, rfl, by decide +kernel, by decide +kernel⟩
theorem ok_due {f : Addr} {fd : FuncData} (F : Fun K "_law_due" "_law_due" sDue f fd) (B : TB mg) : FnOk P w K mg base CX0 1 f fd ["_law_text_here", "_law_size"] (spDue K) := by
  refine F.ok scDue (fun vs H Q E h => ?_) (fun cdv A outer s H vs Q E hr h => ?_)
  · obtain ⟨cs, s, rfl, _⟩ := h
    rfl
  · obtain ⟨cs, s, rfl, h1, h2, h3, k⟩ := h
    refine ⟨_, (pss_cons (ps_set (i := 2) scDue.nd rfl (Or.inl rfl) (pe_lst pa_nil))
       (pss_cons (ps_set (i := 3) scDue.nd rfl (Or.inl rfl) pe_int)
       (pss_cons (ps_while PassesOwn.never (pt_cmpR op_lt (pv 3) (pe_callB (lenK (K := K) rfl) (by rfl) B.len PySem.boot_len (pa_cons (pv 0) pa_nil)) (nomark _))
       (pss_cons (ps_expr (pe_bm PySem.F.plainAttrs_list PySem.F.slot_list_append PySem.F.type_list_append mt_append (pv 2) (pa_cons (pe_tup (pa_cons (pv 3) (pa_cons (pe_slice sl_str (pv 0) (po_some (pv 3)) (po_some (pe_op op_add (pv 3) (pv 1)))) pa_nil))) pa_nil)))
       (pss_one (ps_set (i := 3) scDue.nd rfl (Or.inl rfl) (pe_op op_add (pv 3) (pv 1))))))
       (pss_one (ps_ret (pe_callTy (tupOfK (K := K) rfl) (by rfl) B.tuple PyProof.Rows.boot_tuple (pa_cons (pv 2) pa_nil))))))), ?_⟩
    have hcs : (S cs).length ≤ sizeLine := by rw [S_len]; exact Nat.le_trans h3 (by decide)
    refine ⟨Nat.zero_le _, fun fa nfa => ?_⟩
    have s1 : Same H (upd H fa (.lst [])) := (L2.Same.refl H).new nfa
    refine while_m (fun σ H' => ∃ i : Nat, σ = [some (.str (S cs)), some (.int (s : Int)), some (.ref fa), some (.int ((i * s : Nat) : Int))] ∧ Same H H' ∧ i ≤ cutN cs s ∧ LstAt K H' fa (((List.range i).map (cutAt cs s)).map partD)) (fun σ _ => match σ[3]? with | some (some (V.int r)) => cs.length - r.toNat | _ => 0)
      ⟨0, by rw [Nat.zero_mul]; rfl, s1, Nat.zero_le _, [], upd_same, RpL.nil⟩ ?_
    rintro m σ H2 hm ⟨i, rfl, s2, hi, xs, hx2, rx2⟩
    have hm' : m = cs.length - (((i * s : Nat) : Int)).toNat := hm
    rw [Int.toNat_natCast] at hm'
    refine ⟨_, rfl, _, rfl, _, cs.length, rfl, ⟨hcs, (S_len cs).symm⟩, _, _, rfl, rfl, _, rfl, ?_⟩
    refine ite2 (fun hl => ?_) (fun hl => ?_)
    · have hl := of_decide_eq_true hl
      have hlt : i * s < cs.length := by omega
      have hin := (cutN_lt (cs := cs) (i := i) h1).mpr hlt
      refine ⟨fun σ' H' => (∃ i : Nat, σ' = [some (.str (S cs)), some (.int (s : Int)), some (.ref fa), some (.int ((i * s : Nat) : Int))] ∧ Same H H' ∧ i ≤ cutN cs s ∧ LstAt K H' fa (((List.range i).map (cutAt cs s)).map partD)) ∧ (match σ'[3]? with | some (some (V.int r)) => cs.length - r.toNat | _ => 0) < m, fun σ' H' q => ⟨_, q.2, rfl, q.1⟩, ?_⟩
      have lx := RpL.len _ _ rx2
      rw [List.length_map, List.length_map, List.length_range] at lx
      have e2 : ((i * s : Nat) : Int) + (s : Int) = ((i * s + s : Nat) : Int) := by omega
      have ec : cutS (S cs) (some ((i * s : Nat) : Int)) (some (((i * s : Nat) : Int) + (s : Int))) = S (cutAt cs s i).2 := by
        rw [e2, cutS_S]
        unfold cutAt
        rw [Nat.add_sub_cancel_left]
      refine ⟨_, rfl, .inl ⟨rfl, _, SqL.of hx2⟩, _, rfl, _, rfl, _, rfl, _, rfl, _, rfl, _, rfl, _, _, rfl, rfl, _, rfl, _, rfl, hcs, (by show 2 ≤ sizeLine; decide), fun t nt => ?_⟩
      have s3 : Same H2 (upd H2 t (.tup [.int ((i * s : Nat) : Int), .str (cutS (S cs) (some ((i * s : Nat) : Int)) (some (((i * s : Nat) : Int) + (s : Int))))])) := (L2.Same.refl _).new nt
      have rt : Rp K (upd H2 t (.tup [.int ((i * s : Nat) : Int), .str (cutS (S cs) (some ((i * s : Nat) : Int)) (some (((i * s : Nat) : Int) + (s : Int))))])) (partD (cutAt cs s i)) (.ref t) := by
        refine Rp.tup upd_same ?_
        rw [ec]
        exact RpL.cons Rp.int (RpL.cons Rp.str RpL.nil)
      generalize upd H2 t (.tup [.int ((i * s : Nat) : Int), .str (cutS (S cs) (some ((i * s : Nat) : Int)) (some (((i * s : Nat) : Int) + (s : Int))))]) = H3 at s3 rt
      have i1 : i * 1 ≤ i * s := Nat.mul_le_mul_left _ h1
      refine ⟨fa, _, _, rfl, rfl, s3 _ _ hx2, Nat.lt_of_le_of_lt (show xs.length ≤ 100000 by omega) (by decide), ?_⟩
      have tE : TK H3 (upd H3 fa (.lst (xs ++ [.ref t]))) := (TK.refl _).wr (s3 _ _ hx2) rfl
      have es : (i + 1) * s = i * s + s := Nat.succ_mul i s
      refine ⟨_, rfl, _, rfl, _, _, rfl, rfl, ?_⟩
      refine ⟨⟨i + 1, ?_, (s2.trans s3).wrn nfa, by omega, xs ++ [.ref t], upd_same, ?_⟩, ?_⟩
      · rw [es, ← e2]
        rfl
      · rw [List.range_succ, List.map_append, List.map_append]
        exact RpL.tk tE _ _ (RpL.app (RpL.tk (TK.of s3) _ _ rx2) (RpL.cons rt RpL.nil))
      · show cs.length - (((i * s : Nat) : Int) + (s : Int)).toNat < m
        omega
    · have hl : ¬ ((i * s : Nat) : Int) < (cs.length : Int) := fun z => hl (decide_eq_true z)
      have hin : ¬ i < cutN cs s := fun z => hl (by have := (cutN_lt (cs := cs) (i := i) h1).mp z; omega)
      have ei : i = cutN cs s := by omega
      subst ei
      refine ⟨_, rfl, fa, xs, rfl, .inl ⟨SqL.of hx2, fun t nt => ?_⟩⟩
      exact k _ _ (s2.new nt) (Rp.tup upd_same (RpL.tk ((TK.refl _).new nt) _ _ rx2))
end
end Wn

namespace Wn
open PySem L2
open SX (S S_len S_cat S_beq_eq join_S)
theorem take_len_take {l : List Nat} {s : Nat} : l.take (l.take s).length = l.take s := by
  have h := List.take_length (l := l.take s)
  rw [List.take_take, Nat.min_eq_left (by rw [List.length_take]; omega)] at h
  exact h
theorem cutAt_len {cs : List Nat} {s i : Nat} : (cutAt cs s i).2.length = min s (cs.length - i * s) := by
  unfold cutAt
  rw [List.length_take, List.length_drop]
theorem cut_isPart {cs : List Nat} {s i : Nat} (h1 : 1 ≤ s) (hi : i < cutN cs s) : isPartB cs (s : Int) (cutAt cs s i) = true := by
  have hl := (cutN_lt (cs := cs) (i := i) h1).mp hi
  unfold isPartB
  rw [cutAt_len, Bool.and_eq_true]
  refine ⟨decide_eq_true ⟨by omega, by omega⟩, decide_eq_true ?_⟩
  rw [← cutAt_len]
  exact take_len_take
theorem cutL_drop {cs : List Nat} {s i : Nat} (hi : i < cutN cs s) : (cutL cs s).drop i = cutAt cs s i :: (cutL cs s).drop (i + 1) := by
  have hl : i < (cutL cs s).length := by
    unfold cutL
    rw [List.length_map, List.length_range]
    exact hi
  rw [List.drop_eq_getElem_cons hl]
  congr 1
  have h : (cutL cs s)[i]? = some (cutAt cs s i) := by
    unfold cutL
    rw [List.getElem?_map, List.getElem?_range hi]
    rfl
  rw [List.getElem?_eq_getElem hl] at h
  exact Option.some.inj h
theorem cutN_mul {cs : List Nat} {s : Nat} (h1 : 1 ≤ s) : cs.length ≤ cutN cs s * s := by
  have h := (cutN_lt (cs := cs) (s := s) (i := cutN cs s) h1)
  have : ¬ cutN cs s < cutN cs s := Nat.lt_irrefl _
  omega
theorem cut_go {cs : List Nat} {s : Nat} (h1 : 1 ≤ s) : ∀ (k i : Nat) (last : Int), i + k = cutN cs s → last < ((i * s : Nat) : Int) → goB cs ((cutL cs s).drop i) ((min (i * s) cs.length : Nat) : Int) last = true
  | 0, i, last, h, _ => by
    have hd : (cutL cs s).drop i = [] := List.drop_of_length_le (by unfold cutL; rw [List.length_map, List.length_range]; omega)
    have := cutN_mul (cs := cs) h1
    have e : i = cutN cs s := by omega
    rw [hd]
    unfold goB
    rw [e]
    exact decide_eq_true (by omega)
  | k + 1, i, last, h, hl => by
    have hi : i < cutN cs s := by omega
    have hlt := (cutN_lt (cs := cs) (i := i) h1).mp hi
    rw [cutL_drop hi]
    unfold goB
    have e1 : (cutAt cs s i).1 = i * s := rfl
    rw [e1, if_neg (by omega), cutAt_len]
    have es : (i + 1) * s = i * s + s := Nat.succ_mul i s
    have ih := cut_go (cs := cs) h1 k (i + 1) ((i * s : Nat) : Int) (by omega) (by rw [es]; omega)
    have e2 : (if ((i * s : Nat) : Int) + ((min s (cs.length - i * s) : Nat) : Int) > ((min (i * s) cs.length : Nat) : Int) then ((i * s : Nat) : Int) + ((min s (cs.length - i * s) : Nat) : Int) else ((min (i * s) cs.length : Nat) : Int)) = ((min ((i + 1) * s) cs.length : Nat) : Int) := by
      rw [es]
      split <;> omega
    rw [e2]
    exact ih
theorem cut_are {cs : List Nat} {s : Nat} (h1 : 1 ≤ s) : arePartsB cs (s : Int) (cutL cs s) = true := by
  unfold arePartsB
  rw [Bool.and_eq_true]
  refine ⟨?_, ?_⟩
  · rw [List.all_eq_true]
    intro p hp
    unfold cutL at hp
    obtain ⟨i, hi, rfl⟩ := List.mem_map.mp hp
    exact cut_isPart h1 (List.mem_range.mp hi)
  · have h := cut_go (cs := cs) h1 (cutN cs s) 0 (-1) (by omega) (by rw [Nat.zero_mul]; decide)
    rw [Nat.zero_mul, Nat.zero_min] at h
    exact h
theorem cut_not {cs : List Nat} {s : Nat} (h1 : 2 ≤ s) (h2 : s < cs.length) : arePartsB cs ((s : Int) - 1) (cutL cs s) = false := by
  have hi : 0 < cutN cs s := (cutN_lt (cs := cs) (i := 0) (by omega)).mpr (by rw [Nat.zero_mul]; omega)
  have hd := cutL_drop (cs := cs) (s := s) hi
  rw [List.drop_zero] at hd
  unfold arePartsB
  rw [hd, List.all_cons]
  have : isPartB cs ((s : Int) - 1) (cutAt cs s 0) = false := by
    unfold isPartB
    rw [cutAt_len, Nat.zero_mul, decide_eq_false (by omega)]
    rfl
  rw [this]
  rfl
theorem cut_good {cs : List Nat} {s : Nat} (h1 : 1 ≤ s) : GoodParts cs (cutL cs s) := by
  have mem : ∀ p ∈ cutL cs s, ∃ i, i < cutN cs s ∧ p = cutAt cs s i := fun p hp => by
    unfold cutL at hp
    obtain ⟨i, hi, rfl⟩ := List.mem_map.mp hp
    exact ⟨i, List.mem_range.mp hi, rfl⟩
  refine ⟨fun p hp => ?_, fun p hp => ?_, fun i hi => ?_⟩
  · obtain ⟨i, hi, rfl⟩ := mem p hp
    exact take_len_take.symm
  · obtain ⟨i, hi, rfl⟩ := mem p hp
    have hl := (cutN_lt (cs := cs) (i := i) h1).mp hi
    rw [cutAt_len]
    show i * s + _ ≤ _
    omega
  · have hq : i / s * s ≤ i := Nat.div_mul_le_self i s
    have hr : i < i / s * s + s := by
      have := Nat.lt_div_mul_add (a := i) (b := s) (by omega)
      omega
    refine ⟨cutAt cs s (i / s), ?_, hq, ?_⟩
    · unfold cutL
      exact List.mem_map.mpr ⟨_, List.mem_range.mpr ((cutN_lt (cs := cs) h1).mpr (by omega)), rfl⟩
    · rw [cutAt_len]
      show i < i / s * s + _
      omega
theorem cut_self {cs : List Nat} (h : 0 < cs.length) : cutL cs cs.length = [(0, cs)] := by
  have e : cutN cs cs.length = 1 := by
    have h1 := (cutN_lt (cs := cs) (s := cs.length) (i := 0) h).mpr (by omega)
    have h2 : ¬ 1 < cutN cs cs.length := fun z => by
      have := (cutN_lt (cs := cs) (s := cs.length) (i := 1) h).mp z
      omega
    omega
  unfold cutL
  rw [e]
  show [cutAt cs cs.length 0] = _
  unfold cutAt
  rw [Nat.zero_mul, List.drop_zero, List.take_length]
theorem cutL_len {cs : List Nat} {s : Nat} (h1 : 1 ≤ s) : (cutL cs s).length ≤ cs.length := by
  unfold cutL
  rw [List.length_map, List.length_range]
  by_cases hz : cutN cs s = 0
  · omega
  · have := (cutN_lt (cs := cs) (i := cutN cs s - 1) h1).mp (by omega)
    have h4 : (cutN cs s - 1) * 1 ≤ (cutN cs s - 1) * s := Nat.mul_le_mul_left _ h1
    omega
theorem cutL_part {cs : List Nat} {s : Nat} : ∀ p ∈ cutL cs s, p.2.length ≤ cs.length := fun p hp => by
  unfold cutL at hp
  obtain ⟨i, hi, rfl⟩ := List.mem_map.mp hp
  rw [cutAt_len]
  omega
theorem dep_parts (ps : List Part) : dep (.tuple (ps.map partD)) < 3 := by
  unfold dep
  have := deps_map_le (c := 1) (f := partD) ps fun x _ => by simp [partD, dep, deps]
  omega
theorem sz_parts (ps : List Part) (h : ps.length ≤ 100000) : sz (.tuple (ps.map partD)) ≤ 1000000 := by
  unfold sz
  have := szs_map_le (c := 3) (f := partD) ps fun x _ => by simp [partD, sz, szs]
  omega
mutual
theorem Rp.dp {K : PySem.W.Frag} {H : Hp} : ∀ (d : PyData) (v : V), Rp K H d v → Dp K H v d
  | .none, _, h => by unfold Rp at h; subst h; exact .non
  | .bool _, _, h => by unfold Rp at h; subst h; exact .bl _
  | .int _, _, h => by unfold Rp at h; subst h; exact .int _
  | .str _, _, h => by unfold Rp at h; subst h; exact .str _
  | .tuple ds, v, h => by
    unfold Rp at h
    obtain ⟨a, xs, rfl, hs, hl⟩ := h
    exact .tup hs (RpL.dp ds xs hl)
  | .list _, _, h => by cases h
  | .dict _, _, h => by cases h
theorem RpL.dp {K : PySem.W.Frag} {H : Hp} : ∀ (ds : List PyData) (xs : List V), RpL K H ds xs → DpAll K H xs ds
  | [], _, h => by unfold RpL at h; subst h; exact .nil
  | d :: ds, xs, h => by
    unfold RpL at h
    obtain ⟨v, r, rfl, h1, h2⟩ := h
    exact .cons (Rp.dp d v h1) (RpL.dp ds r h2)
end
end Wn

namespace Wn
open PySem L2
open SX (S S_len S_cat S_beq_eq join_S)
abbrev sLaw : Stmt := top 18

theorem at3i {a b c : Int} {r : Int} (h0 : 0 ≤ r) (h1 : r < 3) : ∃ v : Int, atI [V.int a, .int b, .int c] r = some (.int v) ∧ (v = a ∨ v = b ∨ v = c) := by
  have h : r = 0 ∨ r = 1 ∨ r = 2 := by omega
  rcases h with rfl | rfl | rfl
  · exact ⟨a, rfl, .inl rfl⟩
  · exact ⟨b, rfl, .inr (.inl rfl)⟩
  · exact ⟨c, rfl, .inr (.inr rfl)⟩
theorem shaped_one {cs : List Nat} (h : ∀ c ∈ cs, OkSign c) : SeqAt.shaped (.tuple ([(0, cs)].map partD)) = true := by
  unfold SeqAt.shaped
  rw [Bool.and_eq_true]
  refine ⟨?_, decide_eq_true (by show max (max 0 (max 0 0) + 1) 0 + 1 ≤ 64; decide)⟩
  show ((PyData.canLay0 (.int (((0 : Nat)) : Int)) && (PyData.canLay0 (.str (S cs)) && true)) && true) = true
  have e : PyData.canLay0 (.str (S cs)) = true := by
    show (S cs).cps.all (· < 0x110000) = true
    rw [← Array.all_toList, List.all_eq_true]
    intro c hc
    have := h c (by simpa using hc)
    exact decide_eq_true (by have := this.2.1; omega)
  rw [e]
  rfl
section
variable {P : Program} {w : World} {K : PySem.W.Frag} {mg : Str → Option Value} {base : Heap}
theorem scLaw : FnScope ["_law_script", "_law_deck_here", "_law_turn", "_law_text_here", "_law_size", "_law_parts"] ["_law_script"] (defScope sLaw) := ⟨rfl, rfl, rfl, by decide +kernel, rfl, by decide +kernel, by decide +kernel⟩
theorem ok_law {f : Addr} {fd : FuncData} (F : Fun K "law" "law" sLaw f fd) (B : TB mg)
    (cN : Cd P w K mg base 2 "_law_next" ["_law_deck_here", "_law_many"] spNext) (cD : Cd P w K mg base 2 "_law_deck" ["_law_script"] (spDeck K)) (cX : Cd P w K mg base 4 "_law_text" ["_law_deck_here", "_law_most"] spText)
    (cC : Cd P w K mg base 1 "cut" ["text", "size"] (spCut K)) (cU : Cd P w K mg base 1 "_law_due" ["_law_text_here", "_law_size"] (spDue K)) (cA : Cd P w K mg base 3 "are_parts" ["text", "size", "thing"] (spAre K)) (cP : Cd P w K mg base 1 "put_together" ["whole", "parts"] (spPut K))
    (cS : Cd P w K mg base 3 "_law_same" ["_law_thing", "_law_due_here"] (spSame K 3)) :
    FnOk P w K mg base CX0 5 f fd ["_law_script"] (spLaw K) := by
  obtain ⟨fN, fdN, GN, mN, kN, bN⟩ := cN
  obtain ⟨fD, fdD, GD, mD, kD, bD⟩ := cD
  obtain ⟨fX, fdX, GX, mX, kX, bX⟩ := cX
  obtain ⟨fC, fdC, GC, mC, kC, bC⟩ := cC
  obtain ⟨fU, fdU, GU, mU, kU, bU⟩ := cU
  obtain ⟨fA, fdA, GA, mA, kA, bA⟩ := cA
  obtain ⟨fP, fdP, GP, mP, kP, bP⟩ := cP
  obtain ⟨fS, fdS, GS, mS, kS, bS⟩ := cS
  refine F.ok scLaw (fun vs H Q E h => ?_) (fun cdv A outer s H vs Q E hr h => ?_)
  · obtain ⟨a, ns, rfl, _⟩ := h
    rfl
  · obtain ⟨a, ns, rfl, hS, hlen, k⟩ := h
    have hr1 : Room 1 _ := hr.mono (by decide)
    have hr2 : Room 2 _ := hr.mono (by decide)
    have hr3 : Room 3 _ := hr.mono (by decide)
    have hr4 : Room 4 _ := hr
    refine ⟨_, (pss_cons (ps_set (i := 1) scLaw.nd rfl (Or.inl rfl) (pe_call GD hr2 rfl mD kD bD .nil pass0 (pa_cons (pv 0) pa_nil)))
       (pss_cons (ps_for PassesOwn.never rfl (pi_range1 rfl B.range (pa_cons pe_int pa_nil)) (pg_name (i := 2) scLaw.nd rfl (Or.inl rfl))
       (pss_cons (ps_set (i := 3) scLaw.nd rfl (Or.inl rfl) (pe_call GX hr4 rfl mX kX bX .nil pass0 (pa_cons (pv 1) (pa_cons (pe_ix (ixL (K := K) rfl) (pe_lst (pa_cons pe_int (pa_cons pe_int (pa_cons pe_int pa_nil)))) (pe_call GN hr2 rfl mN kN bN .nil pass0 (pa_cons (pv 1) (pa_cons pe_int pa_nil))) (fun _ _ => rfl)) pa_nil))))
       (pss_cons (ps_set (i := 4) scLaw.nd rfl (Or.inl rfl) (pe_op op_add pe_int (pe_call GN hr2 rfl mN kN bN .nil pass0 (pa_cons (pv 1) (pa_cons (pe_ix (ixL (K := K) rfl) (pe_lst (pa_cons pe_int (pa_cons pe_int (pa_cons pe_int pa_nil)))) (pe_call GN hr2 rfl mN kN bN .nil pass0 (pa_cons (pv 1) (pa_cons pe_int pa_nil))) (fun _ _ => rfl)) pa_nil)))))
       (pss_cons (ps_set (i := 5) scLaw.nd rfl (Or.inl rfl) (pe_call GC hr1 rfl mC kC bC .nil pass0 (pa_cons (pv 3) (pa_cons (pv 4) pa_nil))))
       (pss_cons (ps_if (PW.pt (pw_or (pt_not (pt_val (pe_call GS hr3 rfl mS kS bS .nil pass0 (pa_cons (pv 5) (pa_cons (pe_call GU hr1 rfl mU kU bU .nil pass0 (pa_cons (pv 3) (pa_cons (pv 4) pa_nil))) pa_nil))))) (pw_or1 (pt_not (pt_val (pe_call GS hr3 rfl mS kS bS .nil pass0 (pa_cons (pe_call GC hr1 rfl mC kC bC .nil pass0 (pa_cons (pv 3) (pa_cons (pv 4) pa_nil))) (pa_cons (pv 5) pa_nil))))))))
       (pss_one (ps_ret pe_bl))
       pss_nil)
       (pss_cons (ps_if (PW.pt (pw_or (pt_cmpR op_isnot_bl (pe_call GA hr3 rfl mA kA bA .nil pass0 (pa_cons (pv 3) (pa_cons (pv 4) (pa_cons (pv 5) pa_nil)))) pe_bl (nomark _)) (pw_or1 (pt_cmpR op_ne (pe_call GP hr1 rfl mP kP bP .nil pass0 (pa_cons (pe_callB (lenK (K := K) rfl) (by rfl) B.len PySem.boot_len (pa_cons (pv 3) pa_nil)) (pa_cons (pv 5) pa_nil))) (pv 3) (nomark _)))))
       (pss_one (ps_ret pe_bl))
       pss_nil)
       (pss_cons (ps_if (PW.pt (pw_and (pt_cmpR op_gt (pe_callB (lenK (K := K) rfl) (by rfl) B.len PySem.boot_len (pa_cons (pv 3) pa_nil)) pe_int (nomark _)) (pw_and1 (pt_cmpR (neDK (K := K) rfl hr.units) (pe_call GC hr1 rfl mC kC bC .nil pass0 (pa_cons (pv 3) (pa_cons (pe_callB (lenK (K := K) rfl) (by rfl) B.len PySem.boot_len (pa_cons (pv 3) pa_nil)) pa_nil))) (pe_tup (pa_cons (pe_tup (pa_cons pe_int (pa_cons (pv 3) pa_nil))) pa_nil)) (nomark _)))))
       (pss_one (ps_ret pe_bl))
       pss_nil)
       (pss_one (ps_if (PW.pt (pw_and (pt_cmpR op_gt (pv 4) pe_int (nomark _)) (pw_and (pt_cmpR op_gt (pe_callB (lenK (K := K) rfl) (by rfl) B.len PySem.boot_len (pa_cons (pv 3) pa_nil)) (pv 4) (nomark _)) (pw_and1 (pt_cmpR op_isnot_bl (pe_call GA hr3 rfl mA kA bA .nil pass0 (pa_cons (pv 3) (pa_cons (pe_op op_sub (pv 4) pe_int) (pa_cons (pv 5) pa_nil)))) pe_bl (nomark _))))))
       (pss_one (ps_ret pe_bl))
       pss_nil)))))))))
       (pss_one (ps_ret pe_bl)))), ?_⟩
    refine ⟨_, rfl, a, ns, rfl, hS, hlen, fun H1 d f nd nf s1 D1 => ?_⟩
    refine ⟨10, rfl, by decide, by decide, ?_⟩
    refine for_range (lo := 0) (fun i σ H' => ∃ v2 v3 v4 v5, σ = [some (.ref a), some (.ref d), v2, v3, v4, v5] ∧ Deck H' d f (2000 * i)) ⟨_, _, _, _, rfl, D1.mono (by omega)⟩ ?_ ?_
    · rintro i σ H2 hi ⟨v2, v3, v4, v5, rfl, D2⟩
      have hi : i < 10 := hi
      refine ⟨_, rfl, (by show 3 ≤ sizeLine; decide), fun l nl => ?_⟩
      have s3 : Same H2 (upd H2 l (.lst [.int 0, .int 5, .int 90])) := (L2.Same.refl _).new nl
      have hl3 : upd H2 l (.lst [.int 0, .int 5, .int 90]) l = some (.lst [.int 0, .int 5, .int 90]) := upd_same
      have nld : l ≠ d := (ne_of_none D2.lst.choose_spec nl).symm
      generalize upd H2 l (.lst [.int 0, .int 5, .int 90]) = H3 at s3 hl3
      refine ⟨_, rfl, d, f, 3, 2000 * i, rfl, by decide, by omega, D2.same s3, fun r H4 r0 r1 k4 D4 => ?_⟩
      obtain ⟨most, hmost, hm3⟩ := at3i (a := 0) (b := 5) (c := 90) r0 r1
      refine ⟨l, _, _, _, rfl, rfl, SqL.of (k4 _ _ (nin1 nld) hl3), hmost, ?_⟩
      refine ⟨d, f, 2000 * i + 1, most, rfl, D4, by omega, by omega, by omega, fun cs H5 lcs ocs k5 D5 => ?_⟩
      have lcs : cs.length ≤ 90 := by omega
      have hcs : (S cs).length ≤ sizeLine := by rw [S_len]; exact Nat.le_trans lcs (by decide)
      refine ⟨_, rfl, (by show 3 ≤ sizeLine; decide), fun l2 nl2 => ?_⟩
      have s6 : Same H5 (upd H5 l2 (.lst [.int 3, .int 20, .int 100])) := (L2.Same.refl _).new nl2
      have hl6 : upd H5 l2 (.lst [.int 3, .int 20, .int 100]) l2 = some (.lst [.int 3, .int 20, .int 100]) := upd_same
      have nld2 : l2 ≠ d := (ne_of_none D5.lst.choose_spec nl2).symm
      generalize upd H5 l2 (.lst [.int 3, .int 20, .int 100]) = H6 at s6 hl6
      refine ⟨_, rfl, d, f, 3, 2000 * i + 1 + 1 + most, rfl, by decide, by omega, D5.same s6, fun r2 H7 r20 r21 k7 D7 => ?_⟩
      obtain ⟨many, hmany, hm7⟩ := at3i (a := 3) (b := 20) (c := 100) r20 r21
      refine ⟨l2, _, _, _, rfl, rfl, SqL.of (k7 _ _ (nin1 nld2) hl6), hmany, ?_⟩
      refine ⟨d, f, many, 2000 * i + 1 + 1 + most + 1, rfl, by omega, by omega, D7, fun z H8 z0 z1 k8 D8 => ?_⟩
      obtain ⟨sz', ez⟩ : ∃ n : Nat, 1 + z = (n : Int) := ⟨(1 + z).toNat, by omega⟩
      refine ⟨_, _, rfl, rfl, ?_⟩
      show tSeq _ _ _ _ _
      rw [show (fun i j => V.int (i + j)) 1 z = V.int (sz' : Int) from congrArg V.int ez]
      have hz1 : 1 ≤ sz' := by omega
      have hz2 : sz' ≤ 100 := by omega
      have lcut := cutL_len (cs := cs) hz1
      refine ⟨_, rfl, _, rfl, cs, sz', rfl, hz1, by omega, by omega, fun H9 pv s9 rp9 => ?_⟩
      refine ⟨_, rfl, _, rfl, _, rfl, cs, sz', rfl, hz1, by omega, by omega, fun H10 dv s10 rd10 => ?_⟩
      have rp10 := Rp.tk (TK.of s10) _ _ rp9
      refine ⟨pv, dv, _, rfl, rp10, rd10, dep_parts _, sz_parts _ (by omega), fun H11 s11 => ?_⟩
      refine ⟨_, rfl, iteF ?_⟩
      refine ⟨_, rfl, _, rfl, cs, sz', rfl, hz1, by omega, by omega, fun H12 cv s12 rc12 => ?_⟩
      have rp12 := Rp.tk (TK.of (s11.trans s12)) _ _ rp10
      refine ⟨_, rfl, cv, pv, _, rfl, rc12, rp12, dep_parts _, sz_parts _ (by omega), fun H13 s13 => ?_⟩
      refine ⟨_, rfl, iteF ?_⟩
      have rp13 := Rp.tk (TK.of s13) _ _ rp12
      refine ⟨_, rfl, _, rfl, _, rfl, cs, (sz' : Int), pv, _, rfl, rp13, by omega, fun p hp => Nat.le_trans (cutL_part p hp) (by omega), by omega, fun H14 s14 => ?_⟩
      rw [cut_are hz1]
      refine ⟨_, _, rfl, rfl, _, rfl, iteF ?_⟩
      have rp14 := Rp.tk (TK.of s14) _ _ rp13
      refine ⟨_, rfl, _, cs.length, rfl, ⟨hcs, (S_len cs).symm⟩, _, rfl, cs, pv, _, rfl, rp14, cut_good hz1, by omega, fun H15 s15 => ?_⟩
      refine ⟨_, rfl, rfl, _, rfl, iteNS rfl ?_⟩
      have rp15 := Rp.tk (TK.of s15) _ _ rp14
      have sA := ((((s9.trans s10).trans s11).trans s12).trans s13).trans (s14.trans s15)
      have D15 := D8.same sA
      dsimp only [tNext]
      refine seq_if (fun σ' H' => σ' = [some (.ref a), some (.ref d), some (.int (0 + (i : Int))), some (.str (S cs)), some (.int (sz' : Int)), some pv] ∧ Deck H' d f (2000 * i + 1 + 1 + most + 1 + 1) ∧ Rp K H' (.tuple ((cutL cs sz').map partD)) pv) ?rest (fun rest => ?_)
      case rest =>
        rintro σ' H16 ⟨rfl, D16, rp16⟩
        have fin : ∀ H', Same H16 H' → ∃ v2 v3 v4 v5, [some (V.ref a), some (.ref d), some (.int (0 + (i : Int))), some (.str (S cs)), some (.int (sz' : Int)), some pv] = [some (.ref a), some (.ref d), v2, v3, v4, v5] ∧ Deck H' d f (2000 * ((i + 1 : Nat) : Int)) := fun H' s' => ⟨_, _, _, _, rfl, (D16.same s').mono (by omega)⟩
        refine ⟨_, rfl, _, _, rfl, rfl, _, rfl, ?_⟩
        refine ite2 (fun hz => ?_) (fun _ => fin _ (L2.Same.refl _))
        have hz := of_decide_eq_true hz
        refine ⟨_, rfl, _, cs.length, rfl, ⟨hcs, (S_len cs).symm⟩, _, rfl, _, _, rfl, rfl, _, rfl, ?_⟩
        refine ite2 (fun hw => ?_) (fun _ => fin _ (L2.Same.refl _))
        have hw := of_decide_eq_true hw
        refine ⟨_, rfl, _, rfl, _, _, rfl, rfl, _, rfl, cs, (sz' : Int) - 1, pv, _, rfl, rp16, by omega, fun p hp => Nat.le_trans (cutL_part p hp) (by omega), by omega, fun H17 s17 => ?_⟩
        rw [cut_not (by omega) (by omega)]
        refine ⟨_, _, rfl, rfl, _, rfl, iteF ?_⟩
        exact fin _ s17
      refine ⟨_, rfl, _, cs.length, rfl, ⟨hcs, (S_len cs).symm⟩, _, _, rfl, rfl, _, rfl, ?_⟩
      refine ite2 (fun h0 => ?_) (fun _ => rest _ _ ⟨rfl, D15, rp15⟩)
      have h0 := of_decide_eq_true h0
      have h0 : 0 < cs.length := by omega
      refine ⟨_, rfl, _, rfl, _, cs.length, rfl, ⟨hcs, (S_len cs).symm⟩, cs, cs.length, rfl, by omega, by omega, by omega, fun H16 cv2 s16 rc16 => ?_⟩
      rw [cut_self h0] at rc16
      refine ⟨_, rfl, (by show 2 ≤ sizeLine; decide), fun t1 nt1 => ?_⟩
      refine ⟨(by show 1 ≤ sizeLine; decide), fun t2 nt2 => ?_⟩
      have s17 : Same H16 (upd H16 t1 (.tup [.int 0, .str (S cs)])) := (L2.Same.refl _).new nt1
      have s18 : Same (upd H16 t1 (.tup [.int 0, .str (S cs)])) (upd (upd H16 t1 (.tup [.int 0, .str (S cs)])) t2 (.tup [.ref t1])) := (L2.Same.refl _).new nt2
      have r1 : Rp K (upd H16 t1 (.tup [.int 0, .str (S cs)])) (partD (0, cs)) (.ref t1) := Rp.tup upd_same (RpL.cons Rp.int (RpL.cons Rp.str RpL.nil))
      have r2 : Rp K (upd (upd H16 t1 (.tup [.int 0, .str (S cs)])) t2 (.tup [.ref t1])) (.tuple ([(0, cs)].map partD)) (.ref t2) := Rp.tup upd_same (RpL.cons (Rp.tk (TK.of s18) _ _ r1) RpL.nil)
      have shp := shaped_one ocs
      refine ⟨_, _, Rp.dp _ _ (Rp.tk (TK.of (s17.trans s18)) _ _ rc16), Rp.dp _ _ r2, shp, shp, _, rfl, ?_⟩
      rw [SeqAt.eqv_refl _ (SeqAt.canLay_of_shaped shp)]
      refine iteF (rest _ _ ⟨rfl, D15.same (s16.trans (s17.trans s18)), Rp.tk (TK.of (s16.trans (s17.trans s18))) _ _ rp15⟩)
    · rintro σ H2 ⟨v2, v3, v4, v5, rfl, D2⟩
      exact k _
end
end Wn

namespace Wn
open PySem L2
theorem all_mk {l : PySem.W.OpenLaw} {w : World} {K : PySem.W.Frag} {h : Heap} {mg : Str → Option Value} {fa f_is_whole f_cut f_is_part f_are_parts f_put_together f_law_mixed f_law_deck f_law_next f_law_same f_law_sign f_law_text f_law_due f_law : Addr} (X : K.In h) (G : h.Ns mainGlobals mg) (hfa : mg "law" = some (.ref fa))
    {od_is_whole an_is_whole od_cut an_cut od_is_part an_is_part od_are_parts an_are_parts od_put_together an_put_together od_law_mixed an_law_mixed od_law_deck an_law_deck od_law_next an_law_next od_law_same an_law_same od_law_sign an_law_sign od_law_text an_law_text od_law_due an_law_due od_law an_law : Option Addr} {sl_is_whole sl_cut sl_is_part sl_are_parts sl_put_together sl_law_mixed sl_law_deck sl_law_next sl_law_same sl_law_sign sl_law_text sl_law_due sl_law : Array (Option Value)} {oc_is_whole kV_is_whole dc_is_whole pm_is_whole cd_is_whole ct_is_whole oc_cut kV_cut dc_cut pm_cut cd_cut ct_cut oc_is_part kV_is_part dc_is_part pm_is_part cd_is_part ct_is_part oc_are_parts kV_are_parts dc_are_parts pm_are_parts cd_are_parts ct_are_parts oc_put_together kV_put_together dc_put_together pm_put_together cd_put_together ct_put_together oc_law_mixed kV_law_mixed dc_law_mixed pm_law_mixed cd_law_mixed ct_law_mixed oc_law_deck kV_law_deck dc_law_deck pm_law_deck cd_law_deck ct_law_deck oc_law_next kV_law_next dc_law_next pm_law_next cd_law_next ct_law_next oc_law_same kV_law_same dc_law_same pm_law_same cd_law_same ct_law_same oc_law_sign kV_law_sign dc_law_sign pm_law_sign cd_law_sign ct_law_sign oc_law_text kV_law_text dc_law_text pm_law_text cd_law_text ct_law_text oc_law_due kV_law_due dc_law_due pm_law_due cd_law_due ct_law_due oc_law kV_law dc_law pm_law cd_law ct_law : Value}
    (a_is_whole : PySem.W.nsIn K mainGlobals "is_whole" = some (some (.ref f_is_whole)))
    (l_is_whole : K.lookup f_is_whole = some ⟨oc_is_whole, od_is_whole, .func (PySem.W.fnOf "is_whole" "is_whole" (defArgs sWhole) (defBody sWhole) (defScope sWhole) .none kV_is_whole dc_is_whole pm_is_whole an_is_whole cd_is_whole ct_is_whole), sl_is_whole⟩)
    (c_is_whole : PySem.W.codeIn K cd_is_whole "is_whole" = true)
    (k_is_whole : PySem.W.keepIn K (.ref f_is_whole) = true)
    (a_cut : PySem.W.nsIn K mainGlobals "cut" = some (some (.ref f_cut)))
    (l_cut : K.lookup f_cut = some ⟨oc_cut, od_cut, .func (PySem.W.fnOf "cut" "cut" (defArgs sCut) (defBody sCut) (defScope sCut) .none kV_cut dc_cut pm_cut an_cut cd_cut ct_cut), sl_cut⟩)
    (c_cut : PySem.W.codeIn K cd_cut "cut" = true)
    (k_cut : PySem.W.keepIn K (.ref f_cut) = true)
    (a_is_part : PySem.W.nsIn K mainGlobals "is_part" = some (some (.ref f_is_part)))
    (l_is_part : K.lookup f_is_part = some ⟨oc_is_part, od_is_part, .func (PySem.W.fnOf "is_part" "is_part" (defArgs sIsPart) (defBody sIsPart) (defScope sIsPart) .none kV_is_part dc_is_part pm_is_part an_is_part cd_is_part ct_is_part), sl_is_part⟩)
    (c_is_part : PySem.W.codeIn K cd_is_part "is_part" = true)
    (k_is_part : PySem.W.keepIn K (.ref f_is_part) = true)
    (a_are_parts : PySem.W.nsIn K mainGlobals "are_parts" = some (some (.ref f_are_parts)))
    (l_are_parts : K.lookup f_are_parts = some ⟨oc_are_parts, od_are_parts, .func (PySem.W.fnOf "are_parts" "are_parts" (defArgs sAre) (defBody sAre) (defScope sAre) .none kV_are_parts dc_are_parts pm_are_parts an_are_parts cd_are_parts ct_are_parts), sl_are_parts⟩)
    (c_are_parts : PySem.W.codeIn K cd_are_parts "are_parts" = true)
    (k_are_parts : PySem.W.keepIn K (.ref f_are_parts) = true)
    (a_put_together : PySem.W.nsIn K mainGlobals "put_together" = some (some (.ref f_put_together)))
    (l_put_together : K.lookup f_put_together = some ⟨oc_put_together, od_put_together, .func (PySem.W.fnOf "put_together" "put_together" (defArgs sPut) (defBody sPut) (defScope sPut) .none kV_put_together dc_put_together pm_put_together an_put_together cd_put_together ct_put_together), sl_put_together⟩)
    (c_put_together : PySem.W.codeIn K cd_put_together "put_together" = true)
    (k_put_together : PySem.W.keepIn K (.ref f_put_together) = true)
    (a_law_mixed : PySem.W.nsIn K mainGlobals "_law_mixed" = some (some (.ref f_law_mixed)))
    (l_law_mixed : K.lookup f_law_mixed = some ⟨oc_law_mixed, od_law_mixed, .func (PySem.W.fnOf "_law_mixed" "_law_mixed" (defArgs sMixed) (defBody sMixed) (defScope sMixed) .none kV_law_mixed dc_law_mixed pm_law_mixed an_law_mixed cd_law_mixed ct_law_mixed), sl_law_mixed⟩)
    (c_law_mixed : PySem.W.codeIn K cd_law_mixed "_law_mixed" = true)
    (k_law_mixed : PySem.W.keepIn K (.ref f_law_mixed) = true)
    (a_law_deck : PySem.W.nsIn K mainGlobals "_law_deck" = some (some (.ref f_law_deck)))
    (l_law_deck : K.lookup f_law_deck = some ⟨oc_law_deck, od_law_deck, .func (PySem.W.fnOf "_law_deck" "_law_deck" (defArgs sDeck) (defBody sDeck) (defScope sDeck) .none kV_law_deck dc_law_deck pm_law_deck an_law_deck cd_law_deck ct_law_deck), sl_law_deck⟩)
    (c_law_deck : PySem.W.codeIn K cd_law_deck "_law_deck" = true)
    (k_law_deck : PySem.W.keepIn K (.ref f_law_deck) = true)
    (a_law_next : PySem.W.nsIn K mainGlobals "_law_next" = some (some (.ref f_law_next)))
    (l_law_next : K.lookup f_law_next = some ⟨oc_law_next, od_law_next, .func (PySem.W.fnOf "_law_next" "_law_next" (defArgs sNext) (defBody sNext) (defScope sNext) .none kV_law_next dc_law_next pm_law_next an_law_next cd_law_next ct_law_next), sl_law_next⟩)
    (c_law_next : PySem.W.codeIn K cd_law_next "_law_next" = true)
    (k_law_next : PySem.W.keepIn K (.ref f_law_next) = true)
    (a_law_same : PySem.W.nsIn K mainGlobals "_law_same" = some (some (.ref f_law_same)))
    (l_law_same : K.lookup f_law_same = some ⟨oc_law_same, od_law_same, .func (PySem.W.fnOf "_law_same" "_law_same" (defArgs sSame) (defBody sSame) (defScope sSame) .none kV_law_same dc_law_same pm_law_same an_law_same cd_law_same ct_law_same), sl_law_same⟩)
    (c_law_same : PySem.W.codeIn K cd_law_same "_law_same" = true)
    (k_law_same : PySem.W.keepIn K (.ref f_law_same) = true)
    (a_law_sign : PySem.W.nsIn K mainGlobals "_law_sign" = some (some (.ref f_law_sign)))
    (l_law_sign : K.lookup f_law_sign = some ⟨oc_law_sign, od_law_sign, .func (PySem.W.fnOf "_law_sign" "_law_sign" (defArgs sSign) (defBody sSign) (defScope sSign) .none kV_law_sign dc_law_sign pm_law_sign an_law_sign cd_law_sign ct_law_sign), sl_law_sign⟩)
    (c_law_sign : PySem.W.codeIn K cd_law_sign "_law_sign" = true)
    (k_law_sign : PySem.W.keepIn K (.ref f_law_sign) = true)
    (a_law_text : PySem.W.nsIn K mainGlobals "_law_text" = some (some (.ref f_law_text)))
    (l_law_text : K.lookup f_law_text = some ⟨oc_law_text, od_law_text, .func (PySem.W.fnOf "_law_text" "_law_text" (defArgs sText) (defBody sText) (defScope sText) .none kV_law_text dc_law_text pm_law_text an_law_text cd_law_text ct_law_text), sl_law_text⟩)
    (c_law_text : PySem.W.codeIn K cd_law_text "_law_text" = true)
    (k_law_text : PySem.W.keepIn K (.ref f_law_text) = true)
    (a_law_due : PySem.W.nsIn K mainGlobals "_law_due" = some (some (.ref f_law_due)))
    (l_law_due : K.lookup f_law_due = some ⟨oc_law_due, od_law_due, .func (PySem.W.fnOf "_law_due" "_law_due" (defArgs sDue) (defBody sDue) (defScope sDue) .none kV_law_due dc_law_due pm_law_due an_law_due cd_law_due ct_law_due), sl_law_due⟩)
    (c_law_due : PySem.W.codeIn K cd_law_due "_law_due" = true)
    (k_law_due : PySem.W.keepIn K (.ref f_law_due) = true)
    (a_law : PySem.W.nsIn K mainGlobals "law" = some (some (.ref f_law)))
    (l_law : K.lookup f_law = some ⟨oc_law, od_law, .func (PySem.W.fnOf "law" "law" (defArgs sLaw) (defBody sLaw) (defScope sLaw) .none kV_law dc_law pm_law an_law cd_law ct_law), sl_law⟩)
    (c_law : PySem.W.codeIn K cd_law "law" = true)
    (k_law : PySem.W.keepIn K (.ref f_law) = true)
    (z_len : PySem.W.nsIn K mainGlobals "len" = some none)
    (z_range : PySem.W.nsIn K mainGlobals "range" = some none)
    (z_min : PySem.W.nsIn K mainGlobals "min" = some none)
    (z_max : PySem.W.nsIn K mainGlobals "max" = some none)
    (z_isinstance : PySem.W.nsIn K mainGlobals "isinstance" = some none)
    (z_tuple : PySem.W.nsIn K mainGlobals "tuple" = some none)
    (z_bool : PySem.W.nsIn K mainGlobals "bool" = some none)
    (z_str : PySem.W.nsIn K mainGlobals "str" = some none)
    (z_int : PySem.W.nsIn K mainGlobals "int" = some none)
    (z_all : PySem.W.nsIn K mainGlobals "all" = some none)
    (z_enumerate : PySem.W.nsIn K mainGlobals "enumerate" = some none) :
    ∃ fd : FuncData, (∀ (s : Shared) (v : Value), BindsTo s fd ⟨[v], []⟩ [("_law_script", v)]) ∧ ∀ base : Heap, K.In base → base.Ns mainGlobals mg → FnOk l.prog w K mg base CX0 5 fa fd ["_law_script"] (spLaw K) := by
  have e := hfa.symm.trans (PySem.W.mg_of X G a_law)
  cases e
  have F_is_whole := fun_mk (st := sWhole) l_is_whole c_is_whole k_is_whole
  have b_is_whole := F_is_whole.binds (ps := ["thing"]) fun _ _ _ _ _ _ us hl => match us, hl with | [_], _ => rfl
  have m_is_whole := PySem.W.mg_of X G a_is_whole
  have F_cut := fun_mk (st := sCut) l_cut c_cut k_cut
  have b_cut := F_cut.binds (ps := ["text", "size"]) fun _ _ _ _ _ _ us hl => match us, hl with | [_, _], _ => rfl
  have m_cut := PySem.W.mg_of X G a_cut
  have F_is_part := fun_mk (st := sIsPart) l_is_part c_is_part k_is_part
  have b_is_part := F_is_part.binds (ps := ["text", "size", "thing"]) fun _ _ _ _ _ _ us hl => match us, hl with | [_, _, _], _ => rfl
  have m_is_part := PySem.W.mg_of X G a_is_part
  have F_are_parts := fun_mk (st := sAre) l_are_parts c_are_parts k_are_parts
  have b_are_parts := F_are_parts.binds (ps := ["text", "size", "thing"]) fun _ _ _ _ _ _ us hl => match us, hl with | [_, _, _], _ => rfl
  have m_are_parts := PySem.W.mg_of X G a_are_parts
  have F_put_together := fun_mk (st := sPut) l_put_together c_put_together k_put_together
  have b_put_together := F_put_together.binds (ps := ["whole", "parts"]) fun _ _ _ _ _ _ us hl => match us, hl with | [_, _], _ => rfl
  have m_put_together := PySem.W.mg_of X G a_put_together
  have F_law_mixed := fun_mk (st := sMixed) l_law_mixed c_law_mixed k_law_mixed
  have b_law_mixed := F_law_mixed.binds (ps := ["_law_cell", "_law_at"]) fun _ _ _ _ _ _ us hl => match us, hl with | [_, _], _ => rfl
  have m_law_mixed := PySem.W.mg_of X G a_law_mixed
  have F_law_deck := fun_mk (st := sDeck) l_law_deck c_law_deck k_law_deck
  have b_law_deck := F_law_deck.binds (ps := ["_law_script"]) fun _ _ _ _ _ _ us hl => match us, hl with | [_], _ => rfl
  have m_law_deck := PySem.W.mg_of X G a_law_deck
  have F_law_next := fun_mk (st := sNext) l_law_next c_law_next k_law_next
  have b_law_next := F_law_next.binds (ps := ["_law_deck_here", "_law_many"]) fun _ _ _ _ _ _ us hl => match us, hl with | [_, _], _ => rfl
  have m_law_next := PySem.W.mg_of X G a_law_next
  have F_law_same := fun_mk (st := sSame) l_law_same c_law_same k_law_same
  have b_law_same := F_law_same.binds (ps := ["_law_thing", "_law_due_here"]) fun _ _ _ _ _ _ us hl => match us, hl with | [_, _], _ => rfl
  have m_law_same := PySem.W.mg_of X G a_law_same
  have F_law_sign := fun_mk (st := sSign) l_law_sign c_law_sign k_law_sign
  have b_law_sign := F_law_sign.binds (ps := ["_law_deck_here"]) fun _ _ _ _ _ _ us hl => match us, hl with | [_], _ => rfl
  have m_law_sign := PySem.W.mg_of X G a_law_sign
  have F_law_text := fun_mk (st := sText) l_law_text c_law_text k_law_text
  have b_law_text := F_law_text.binds (ps := ["_law_deck_here", "_law_most"]) fun _ _ _ _ _ _ us hl => match us, hl with | [_, _], _ => rfl
  have m_law_text := PySem.W.mg_of X G a_law_text
  have F_law_due := fun_mk (st := sDue) l_law_due c_law_due k_law_due
  have b_law_due := F_law_due.binds (ps := ["_law_text_here", "_law_size"]) fun _ _ _ _ _ _ us hl => match us, hl with | [_, _], _ => rfl
  have m_law_due := PySem.W.mg_of X G a_law_due
  have F_law := fun_mk (st := sLaw) l_law c_law k_law
  have b_law := F_law.binds (ps := ["_law_script"]) fun _ _ _ _ _ _ us hl => match us, hl with | [_], _ => rfl
  have n_len := PySem.W.mg_none_of X G z_len
  have n_range := PySem.W.mg_none_of X G z_range
  have n_min := PySem.W.mg_none_of X G z_min
  have n_max := PySem.W.mg_none_of X G z_max
  have n_isinstance := PySem.W.mg_none_of X G z_isinstance
  have n_tuple := PySem.W.mg_none_of X G z_tuple
  have n_bool := PySem.W.mg_none_of X G z_bool
  have n_str := PySem.W.mg_none_of X G z_str
  have n_int := PySem.W.mg_none_of X G z_int
  have n_all := PySem.W.mg_none_of X G z_all
  have n_enumerate := PySem.W.mg_none_of X G z_enumerate
  refine ⟨PySem.W.fnOf "law" "law" (defArgs sLaw) (defBody sLaw) (defScope sLaw) .none kV_law dc_law pm_law an_law cd_law ct_law, fun s v => .of_eq rfl, fun base _ _ => ?_⟩
  have TBx : TB mg := ⟨n_isinstance, n_tuple, n_bool, n_str, n_int, n_all, n_len, n_range, n_max, n_enumerate⟩
  have B : SameB mg := ⟨n_isinstance, n_tuple, n_bool, n_str, n_int, n_all, n_len, n_range⟩
  have cM : Cd l.prog w K mg base 1 "_law_mixed" ["_law_cell", "_law_at"] spMixed := ⟨_, _, ok_mixed F_law_mixed, m_law_mixed, k_law_mixed, b_law_mixed⟩
  have cN : Cd l.prog w K mg base 2 "_law_next" ["_law_deck_here", "_law_many"] spNext := ⟨_, _, ok_next F_law_next n_len cM, m_law_next, k_law_next, b_law_next⟩
  have cD : Cd l.prog w K mg base 2 "_law_deck" ["_law_script"] (spDeck K) := ⟨_, _, ok_deck F_law_deck n_len n_range n_min cM, m_law_deck, k_law_deck, b_law_deck⟩
  have cS : Cd l.prog w K mg base 3 "_law_same" ["_law_thing", "_law_due_here"] (spSame K 3) := ⟨_, _, ok_same F_law_same B m_law_same k_law_same b_law_same 3, m_law_same, k_law_same, b_law_same⟩
  have cG : Cd l.prog w K mg base 3 "_law_sign" ["_law_deck_here"] spSign := ⟨_, _, ok_sign F_law_sign cN, m_law_sign, k_law_sign, b_law_sign⟩
  have cX : Cd l.prog w K mg base 4 "_law_text" ["_law_deck_here", "_law_most"] spText := ⟨_, _, ok_text F_law_text n_range cN cG, m_law_text, k_law_text, b_law_text⟩
  have cW : Cd l.prog w K mg base 1 "is_whole" ["thing"] (spWhole K) := ⟨_, _, ok_whole F_is_whole TBx, m_is_whole, k_is_whole, b_is_whole⟩
  have cI : Cd l.prog w K mg base 2 "is_part" ["text", "size", "thing"] (spIsPart K) := ⟨_, _, ok_ispart F_is_part TBx cW, m_is_part, k_is_part, b_is_part⟩
  exact ok_law F_law TBx cN cD cX ⟨_, _, ok_cut F_cut TBx, m_cut, k_cut, b_cut⟩ ⟨_, _, ok_due F_law_due TBx, m_law_due, k_law_due, b_law_due⟩ ⟨_, _, ok_are F_are_parts TBx cI, m_are_parts, k_are_parts, b_are_parts⟩ ⟨_, _, ok_puttog F_put_together TBx, m_put_together, k_put_together, b_put_together⟩ cS
theorem walk {l : PySem.W.OpenLaw} {q : Program} {loose : List Str} {XP : (Str → Option Value) → Heap → Prop} {YP : World → Heap → Prop} {d : DefRec} {K : Params → PySem.W.Frag} (hn : l.most = some 63) (hdf : d.params.defaults = [])
    (hY : ∀ (w : World) (h : Heap), YP w h → (K w.params).In h)
    (F : ∀ (w : World) (mg : Str → Option Value) (fa : Addr) (h : Heap), (K w.params).In h → h.Ns mainGlobals mg → mg d.name = some (.ref fa) →
      ∃ fd : FuncData, (∀ (s : Shared) (u : Value), BindsTo s fd ⟨[u], []⟩ [("_law_script", u)]) ∧ ∀ base : Heap, (K w.params).In base → base.Ns mainGlobals mg → FnOk l.prog w (K w.params) mg base CX0 5 fa fd ["_law_script"] (spLaw (K w.params))) :
    PySem.W.WalkO q loose XP YP l.row.toRowW d [] (fun f vs => PySem.call f vs) :=
  L2.walk_of (n := 63) (k := 5) (x := "_law_script") (CX := fun _ => CX0) (sp := fun w => spLaw (K w.params)) hn (by decide) hdf ⟨rfl, by decide, by decide⟩ hY F (fun _ _ a ns hl _ hS => ⟨a, ns, rfl, hS, hl, fun _ => rfl⟩) fun _ _ _ _ _ z => z
end Wn

open PySem PySem.W PyProof.Rows in
set_option maxRecDepth 100000 in
set_option maxHeartbeats 0 in
theorem PySem.Challenge.cw_wrapnets_k22_texts_cut_holds : PySem.Challenge.rw_wrapnets_k22_texts_cut.Holds := by
  w_on; o_law; k_head; (case hw => w_witness2)
  k_fill
  refine Wn.walk (l := PySem.Challenge.rw_wrapnets_k22_texts_cut) rfl rfl (fun w h Y => PySem.W.kIn_of Y) ?F
  case F =>
    intro w mg fa h KX G hmg
    refine' Wn.all_mk KX G hmg ?a_is_whole ?l_is_whole ?c_is_whole ?k_is_whole ?a_cut ?l_cut ?c_cut ?k_cut ?a_is_part ?l_is_part ?c_is_part ?k_is_part ?a_are_parts ?l_are_parts ?c_are_parts ?k_are_parts ?a_put_together ?l_put_together ?c_put_together ?k_put_together ?a_law_mixed ?l_law_mixed ?c_law_mixed ?k_law_mixed ?a_law_deck ?l_law_deck ?c_law_deck ?k_law_deck ?a_law_next ?l_law_next ?c_law_next ?k_law_next ?a_law_same ?l_law_same ?c_law_same ?k_law_same ?a_law_sign ?l_law_sign ?c_law_sign ?k_law_sign ?a_law_text ?l_law_text ?c_law_text ?k_law_text ?a_law_due ?l_law_due ?c_law_due ?k_law_due ?a_law ?l_law ?c_law ?k_law ?z_len ?z_range ?z_min ?z_max ?z_isinstance ?z_tuple ?z_bool ?z_str ?z_int ?z_all ?z_enumerate
    (case a_is_whole => k_is)
    (case l_is_whole => k_is)
    (case c_is_whole => k_is)
    (case k_is_whole => k_is)
    (case a_cut => k_is)
    (case l_cut => k_is)
    (case c_cut => k_is)
    (case k_cut => k_is)
    (case a_is_part => k_is)
    (case l_is_part => k_is)
    (case c_is_part => k_is)
    (case k_is_part => k_is)
    (case a_are_parts => k_is)
    (case l_are_parts => k_is)
    (case c_are_parts => k_is)
    (case k_are_parts => k_is)
    (case a_put_together => k_is)
    (case l_put_together => k_is)
    (case c_put_together => k_is)
    (case k_put_together => k_is)
    (case a_law_mixed => k_is)
    (case l_law_mixed => k_is)
    (case c_law_mixed => k_is)
    (case k_law_mixed => k_is)
    (case a_law_deck => k_is)
    (case l_law_deck => k_is)
    (case c_law_deck => k_is)
    (case k_law_deck => k_is)
    (case a_law_next => k_is)
    (case l_law_next => k_is)
    (case c_law_next => k_is)
    (case k_law_next => k_is)
    (case a_law_same => k_is)
    (case l_law_same => k_is)
    (case c_law_same => k_is)
    (case k_law_same => k_is)
    (case a_law_sign => k_is)
    (case l_law_sign => k_is)
    (case c_law_sign => k_is)
    (case k_law_sign => k_is)
    (case a_law_text => k_is)
    (case l_law_text => k_is)
    (case c_law_text => k_is)
    (case k_law_text => k_is)
    (case a_law_due => k_is)
    (case l_law_due => k_is)
    (case c_law_due => k_is)
    (case k_law_due => k_is)
    (case a_law => k_is)
    (case l_law => k_is)
    (case c_law => k_is)
    (case k_law => k_is)
    (case z_len => k_is)
    (case z_range => k_is)
    (case z_min => k_is)
    (case z_max => k_is)
    (case z_isinstance => k_is)
    (case z_tuple => k_is)
    (case z_bool => k_is)
    (case z_str => k_is)
    (case z_int => k_is)
    (case z_all => k_is)
    (case z_enumerate => k_is)
