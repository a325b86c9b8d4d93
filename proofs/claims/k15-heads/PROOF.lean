import PyProof.Rows.All
import Wide.All
import OpenK.AllK
import Wide.FinOn
import HandS.ForMost
import HandS.IsInst
import HandS.Flow
import HandS.SortInts
import HandS.More
import HandS.Text
import HandS.Walk
import HandS.Conv
import PyProof.Draws
import PyProof.EnumMake
import HandS.Zip0
import HandS.RaiseMore
import HandS.Replace
import HandS.Codes
import PyProof.StrLawsFirst
import HandS.ForExc
import HandS.ExcInit
import HandS.ExcField
import HandS.ExcIs
import HandS.TupLe
import PySem.Challenge.RW_wrapnets_k15_whole_heads_there_and_back
set_option Elab.async false
set_option maxRecDepth 100000
set_option linter.all false
namespace Wn
open PySem L2

/-- what a caller knows of a def: that it keeps a promise, and where it stands -/
def Cd (P : Program) (w : World) (K : PySem.W.Frag) (mg : Str → Option Value) (base : Heap) (k : Nat) (name : Str) (ps : List Str) (sp : Sp) : Prop :=
  ∃ (f : Addr) (fd : FuncData), FnOk P w K mg base CX0 k f fd ps sp ∧ mg name = some (.ref f) ∧ PySem.W.keepIn K (.ref f) = true ∧ Binds K fd ps []
/-- what a caller knows of a method -/
def Md (P : Program) (w : World) (K : PySem.W.Frag) (mg : Str → Option Value) (base : Heap) (k : Nat) (C : Addr) (name : Str) (ps : List Str) (sp : Sp) : Prop :=
  ∃ (f : Addr) (fd : FuncData), FnOk P w K mg base CX0 k f fd ps sp ∧ Meth K C name f ∧ Binds K fd ps []

/-- all but some addresses stay -/
def Kp (M : List Addr) (H H' : Hp) : Prop := ∀ b o, b ∉ M → H b = some o → H' b = some o
theorem Kp.refl (M : List Addr) (H : Hp) : Kp M H H := fun _ _ _ h => h
theorem Kp.trans {M : List Addr} {H H1 H2 : Hp} (a : Kp M H H1) (b : Kp M H1 H2) : Kp M H H2 := fun c o hc h => b c o hc (a c o hc h)
theorem Kp.mono {M M' : List Addr} {H H1 : Hp} (a : Kp M H H1) (h : ∀ x ∈ M, x ∈ M') : Kp M' H H1 := fun c o hc q => a c o (fun z => hc (h c z)) q
theorem Kp.of {M : List Addr} {H H1 : Hp} (a : Same H H1) : Kp M H H1 := fun c o _ q => a c o q
theorem Kp.new {M : List Addr} {H H1 : Hp} {p : Addr} {o : HO} (a : Kp M H H1) (hp : H1 p = none) : Kp M H (upd H1 p o) := fun c u hc q => by
  rw [upd_ne (ne_of_none (a c u hc q) hp)]
  exact a c u hc q
theorem Kp.wr {M : List Addr} {H H1 : Hp} {p : Addr} {o : HO} (a : Kp M H H1) (hp : p ∈ M) : Kp M H (upd H1 p o) := fun c u hc q => by
  rw [upd_ne (show c ≠ p from fun z => hc (by rw [z]; exact hp))]
  exact a c u hc q
/-- a write to what wasn't there at first -/
theorem Kp.wrn {M : List Addr} {H H1 : Hp} {p : Addr} {o : HO} (a : Kp M H H1) (hp : H p = none) : Kp M H (upd H1 p o) := fun c u hc q => by
  rw [upd_ne (ne_of_none q hp)]
  exact a c u hc q
theorem _root_.L2.Same.new {H H1 : Hp} {p : Addr} {o : HO} (a : Same H H1) (hp : H1 p = none) : Same H (upd H1 p o) := fun c u q => by
  rw [upd_ne (ne_of_none (a c u q) hp)]
  exact a c u q
theorem _root_.L2.Same.wrn {H H1 : Hp} {p : Addr} {o : HO} (a : Same H H1) (hp : H p = none) : Same H (upd H1 p o) := fun c u q => by
  rw [upd_ne (ne_of_none q hp)]
  exact a c u q

/-- a while by a word and a measure -/
theorem while_m {c : TT} {tb : TS} {D : Ends} {σ : L2.St} {H : Hp} (Pv : L2.St → Hp → Prop) (μ : L2.St → Hp → Nat) (h0 : Pv σ H)
    (hs : ∀ m σ H, m = μ σ H → Pv σ H → c σ H fun b H1 => if b = true then ∃ N : L2.St → Hp → Prop, (∀ σ' H', N σ' H' → ∃ m', m' < m ∧ (m' = μ σ' H' ∧ Pv σ' H')) ∧ tb { D with nx := N, ct := N, bk := D.nx } σ H1 else D.nx σ H1) : tWhile c tb D σ H :=
  ⟨fun m σ H => m = μ σ H ∧ Pv σ H, ⟨_, rfl, h0⟩, fun m σ H ⟨e, p⟩ => hs m σ H e p⟩

/-! ### the deck -/
def spMixed : Sp := fun vs H Q _ => ∃ (c a : Int), vs = [.int c, .int a] ∧ -1 ≤ a ∧ a < 2 ^ 60 ∧ ∀ r : Int, Q (.int r) H
/-- a deck at d, of which n draws were taken at most -/
def Deck (H : Hp) (d f : Addr) (n : Int) : Prop :=
  ∃ (a wh : Int) (xs : List Int), H d = some (.lst [.int a, .int wh, .ref f]) ∧ H f = some (.lst (xs.map V.int)) ∧ 0 ≤ a ∧ a ≤ n ∧ xs.length ≤ 100000
def spNext : Sp := fun vs H Q _ => ∃ (d f : Addr) (m n : Int), vs = [.ref d, .int m] ∧ 0 < m ∧ n < 2 ^ 60 ∧ Deck H d f n ∧
  ∀ (r : Int) (H' : Hp), 0 ≤ r → r < m → Kp [d] H H' → Deck H' d f (n + 1) → Q (.int r) H'
def spDeck (K : PySem.W.Frag) : Sp := fun vs H Q _ => ∃ (a : Addr) (ns : List Int), vs = [.ref a] ∧ SqL K H a (ns.map V.int) ∧ ns.length ≤ 63 ∧
  ∀ (H' : Hp) (d f : Addr), H d = none → H f = none → Same H H' → Deck H' d f 0 → Q (.ref d) H'
end Wn

namespace Wn
open PySem L2
/-! ### tuples stay, whatever is called -/
def TK (H H' : Hp) : Prop := (∀ b xs, H b = some (.tup xs) → H' b = some (.tup xs)) ∧ (∀ b o u, H b = some (.frz o u) → H' b = some (.frz o u))
theorem TK.refl (H : Hp) : TK H H := ⟨fun _ _ h => h, fun _ _ _ h => h⟩
theorem TK.trans {H H1 H2 : Hp} (a : TK H H1) (b : TK H1 H2) : TK H H2 := ⟨fun c o h => b.1 c o (a.1 c o h), fun c o u h => b.2 c o u (a.2 c o u h)⟩
theorem TK.of {H H1 : Hp} (a : Same H H1) : TK H H1 := ⟨fun c o h => a _ _ h, fun c o u h => a _ _ h⟩
theorem TK.new {H H1 : Hp} {p : Addr} {o : HO} (a : TK H H1) (hp : H1 p = none) : TK H (upd H1 p o) :=
  ⟨fun c u q => by rw [upd_ne (ne_of_none (a.1 c u q) hp)]; exact a.1 c u q, fun c u z q => by rw [upd_ne (ne_of_none (a.2 c u z q) hp)]; exact a.2 c u z q⟩
/-- what is neither a tuple nor locked may be written -/
def Wrt : HO → Bool
  | .tup _ => false
  | .frz _ _ => false
  | _ => true
theorem TK.wr {H H1 : Hp} {p : Addr} {o u : HO} (a : TK H H1) (hp : H1 p = some u) (hu : Wrt u = true) : TK H (upd H1 p o) :=
  ⟨fun c v q => by
    have h1 := a.1 c v q
    rw [upd_ne (ne_of h1 hp (fun z => by rw [← z] at hu; cases hu))]
    exact h1, fun c v z q => by
    have h1 := a.2 c v z q
    rw [upd_ne (ne_of h1 hp (fun z => by rw [← z] at hu; cases hu))]
    exact h1⟩
theorem _root_.L2.FnOk.tk {P : Program} {w : World} {K : PySem.W.Frag} {mg : Str → Option Value} {base : Heap} {k : Nat} {f : Addr} {fd : FuncData} {ps : List Str} {sp : Sp} (F : FnOk P w K mg base CX0 k f fd ps sp) :
    FnOk P w K mg base CX0 k f fd ps (fun vs H Q E => sp vs H (fun v H' => TK H H' → Q v H') E) := by
  refine ⟨fun vs H Q E q => F.len vs H _ E q, fun A outer s H args us vs Q E hr he hb hv hs => ?_⟩
  refine codeAny_mono (F.run A outer s H args us vs _ E hr he hb hv hs) fun r s' h => ?_
  cases r with
  | ok fl =>
    cases fl with
    | ret u =>
      obtain ⟨v, H', e1, e2, e3, e4, e5, q⟩ := h
      exact ⟨v, H', e1, e2, e3, e4, e5, q ⟨e3.tups, e3.frzs⟩⟩
    | _ => exact h
  | error e => exact h
/-- a promise, tuples kept besides -/
def Tk (sp : Sp) : Sp := fun vs H Q E => sp vs H (fun v H' => TK H H' → Q v H') E
theorem Cd.tk {P : Program} {w : World} {K : PySem.W.Frag} {mg : Str → Option Value} {base : Heap} {k : Nat} {name : Str} {ps : List Str} {sp : Sp} (h : Cd P w K mg base k name ps sp) : Cd P w K mg base k name ps (Tk sp) := by
  obtain ⟨f, fd, G, a, b, c⟩ := h
  exact ⟨f, fd, G.tk, a, b, c⟩
theorem Md.tk {P : Program} {w : World} {K : PySem.W.Frag} {mg : Str → Option Value} {base : Heap} {k : Nat} {C : Addr} {name : Str} {ps : List Str} {sp : Sp} (h : Md P w K mg base k C name ps sp) : Md P w K mg base k C name ps (Tk sp) := by
  obtain ⟨f, fd, G, a, b⟩ := h
  exact ⟨f, fd, G.tk, a, b⟩

/-! ### data: None, truths, ints, texts, tuples of these -/
mutual
def Rp (K : PySem.W.Frag) (H : Hp) : PyData → V → Prop
  | .none, v => v = .non
  | .bool b, v => v = .bl b
  | .int i, v => v = .int i
  | .str s, v => v = .str s
  | .tuple ds, v => ∃ a xs, v = .ref a ∧ SqT K H a xs ∧ RpL K H ds xs
  | .list _, _ => False
  | .dict _, _ => False
def RpL (K : PySem.W.Frag) (H : Hp) : List PyData → List V → Prop
  | [], xs => xs = []
  | d :: ds, xs => ∃ v r, xs = v :: r ∧ Rp K H d v ∧ RpL K H ds r
end
mutual
def dep : PyData → Nat
  | .tuple xs => deps xs + 1
  | _ => 0
def deps : List PyData → Nat
  | [] => 0
  | x :: xs => max (dep x) (deps xs)
end
mutual
def sz : PyData → Nat
  | .tuple xs => szs xs + 1
  | _ => 1
def szs : List PyData → Nat
  | [] => 0
  | x :: xs => sz x + szs xs
end
theorem SqT.tk {K : PySem.W.Frag} {H H' : Hp} {a : Addr} {xs : List V} (h : SqT K H a xs) (e : TK H H') : SqT K H' a xs := by
  rcases h with (h | ⟨o, h⟩) | h
  · exact .inl (.inl (e.1 _ _ h))
  · exact .inl (.inr ⟨o, e.2 _ _ _ h⟩)
  · exact .inr h
mutual
theorem Rp.tk {K : PySem.W.Frag} {H H' : Hp} (e : TK H H') : ∀ (d : PyData) (v : V), Rp K H d v → Rp K H' d v
  | .none, _, h => h
  | .bool _, _, h => h
  | .int _, _, h => h
  | .str _, _, h => h
  | .tuple ds, v, h => by
    unfold Rp at h ⊢
    obtain ⟨a, xs, rfl, hs, hl⟩ := h
    exact ⟨a, xs, rfl, SqT.tk hs e, RpL.tk e ds xs hl⟩
  | .list _, _, h => h
  | .dict _, _, h => h
theorem RpL.tk {K : PySem.W.Frag} {H H' : Hp} (e : TK H H') : ∀ (ds : List PyData) (xs : List V), RpL K H ds xs → RpL K H' ds xs
  | [], _, h => h
  | d :: ds, xs, h => by
    unfold RpL at h ⊢
    obtain ⟨v, r, rfl, h1, h2⟩ := h
    exact ⟨v, r, rfl, Rp.tk e d v h1, RpL.tk e ds r h2⟩
end
theorem RpL.len {K : PySem.W.Frag} {H : Hp} : ∀ (ds : List PyData) (xs : List V), RpL K H ds xs → xs.length = ds.length
  | [], xs, h => by
    unfold RpL at h
    rw [h]
    rfl
  | d :: ds, xs, h => by
    unfold RpL at h
    obtain ⟨v, r, rfl, h1, h2⟩ := h
    rw [List.length_cons, List.length_cons, RpL.len ds r h2]
theorem RpL.get {K : PySem.W.Frag} {H : Hp} : ∀ (ds : List PyData) (xs : List V), RpL K H ds xs → ∀ (i : Nat) (d : PyData), ds[i]? = some d → ∃ v, xs[i]? = some v ∧ Rp K H d v
  | [], xs, h, i, d, e => by cases e
  | d :: ds, xs, h, i, d', e => by
    unfold RpL at h
    obtain ⟨v, r, rfl, h1, h2⟩ := h
    cases i with
    | zero =>
      simp only [List.getElem?_cons_zero, Option.some.injEq] at e
      exact ⟨v, rfl, e ▸ h1⟩
    | succ i =>
      simp only [List.getElem?_cons_succ] at e ⊢
      exact RpL.get ds r h2 i d' e
theorem RpL.of {K : PySem.W.Frag} {H : Hp} : ∀ (ds : List PyData) (xs : List V), xs.length = ds.length → (∀ (i : Nat) (d : PyData) (v : V), ds[i]? = some d → xs[i]? = some v → Rp K H d v) → RpL K H ds xs
  | [], xs, h, _ => by
    unfold RpL
    exact List.length_eq_zero_iff.mp h
  | d :: ds, [], h, _ => by cases h
  | d :: ds, v :: r, h, k => by
    unfold RpL
    refine ⟨v, r, rfl, k 0 d v rfl rfl, RpL.of ds r (by simpa using h) fun i d' v' h1 h2 => k (i + 1) d' v' ?_ ?_⟩
    · simpa using h1
    · simpa using h2
theorem RpL.snoc {K : PySem.W.Frag} {H : Hp} {d : PyData} {v : V} (h : Rp K H d v) : ∀ (ds : List PyData) (xs : List V), RpL K H ds xs → RpL K H (ds ++ [d]) (xs ++ [v])
  | [], xs, q => by
    unfold RpL at q
    subst q
    show RpL K H [d] [v]
    unfold RpL
    exact ⟨v, [], rfl, h, by unfold RpL; rfl⟩
  | d' :: ds, xs, q => by
    unfold RpL at q
    obtain ⟨v', r, rfl, h1, h2⟩ := q
    show RpL K H (d' :: (ds ++ [d])) (v' :: (r ++ [v]))
    unfold RpL
    exact ⟨_, _, rfl, h1, RpL.snoc h ds r h2⟩
theorem dep_get : ∀ (ds : List PyData) (i : Nat) (d : PyData), ds[i]? = some d → dep d ≤ deps ds
  | [], i, d, e => by cases e
  | x :: xs, 0, d, e => by
    simp only [List.getElem?_cons_zero, Option.some.injEq] at e
    unfold deps
    rw [e]
    exact Nat.le_max_left _ _
  | x :: xs, i + 1, d, e => by
    simp only [List.getElem?_cons_succ] at e
    unfold deps
    exact Nat.le_trans (dep_get xs i d e) (Nat.le_max_right _ _)
theorem sz_get : ∀ (ds : List PyData) (i : Nat) (d : PyData), ds[i]? = some d → sz d ≤ szs ds
  | [], i, d, e => by cases e
  | x :: xs, 0, d, e => by
    simp only [List.getElem?_cons_zero, Option.some.injEq] at e
    unfold szs
    rw [e]
    exact Nat.le_add_right _ _
  | x :: xs, i + 1, d, e => by
    simp only [List.getElem?_cons_succ] at e
    unfold szs
    exact Nat.le_trans (sz_get xs i d e) (Nat.le_add_left _ _)
theorem sz_pos : ∀ d : PyData, 1 ≤ sz d
  | .tuple xs => by unfold sz; omega
  | .none | .bool _ | .int _ | .str _ | .list _ | .dict _ => by unfold sz; exact Nat.le_refl _
theorem szs_len : ∀ ds : List PyData, ds.length ≤ szs ds
  | [] => Nat.zero_le _
  | x :: xs => by
    have := szs_len xs
    have := sz_pos x
    unfold szs
    rw [List.length_cons]
    omega
/-- the type of such a thing -/
theorem ty_tup {K : PySem.W.Frag} {H : Hp} {a : Addr} {xs : List V} (h : SqT K H a xs) : TyX K H (.ref a) (.type "tuple") := by
  rcases h with (h | ⟨o, h⟩) | ⟨o, its, n, h, c, _⟩
  · exact .base (.tup h)
  · exact .fTuple h
  · exact .kTuple h c
/-- the same data handed in twice, of depth below n: True -/
def spSame (K : PySem.W.Frag) (n : Nat) : Sp := fun vs H Q _ => ∃ (x y : V) (d : PyData), vs = [x, y] ∧ Rp K H d x ∧ Rp K H d y ∧ dep d < n ∧ sz d ≤ 1000000 ∧ ∀ H', Same H H' → Q (.bl true) H'
end Wn

namespace Wn
open PySem L2
theorem fld1 {f : Str} {v : V} : ([(f, v)] : List (Str × V)).lookup f = some v := by
  show (match f == f with | true => some v | false => _) = some v
  rw [beq_self_eq_true]
theorem fld1_ne {f g : Str} {v : V} (h : (g == f) = false) : ([(f, v)] : List (Str × V)).lookup g = none := by
  show (match g == f with | true => some v | false => _) = none
  rw [h]
  rfl
theorem putF1 {f : Str} {v u : V} : putF f u [(f, v)] = [(f, u)] := by
  show (if f = f then (f, u) :: [] else _) = _
  rw [if_pos rfl]
/-! ### dicts by whole numbers, their values data -/
section
variable {α : Type}
def lookA (m : List (Int × α)) (k : Int) : Option α := (m.find? fun p => decide (p.1 = k)).map (·.2)
def putA (m : List (Int × α)) (k : Int) (v : α) : List (Int × α) :=
  if (m.any fun kv => decide (kv.1 = k)) = true then m.map (fun kv => if kv.1 = k then (kv.1, v) else kv) else m ++ [(k, v)]
def dropA (m : List (Int × α)) (k : Int) : List (Int × α) := m.filter fun kv => decide (kv.1 ≠ k)
theorem putA_len (m : List (Int × α)) (k : Int) (v : α) : (putA m k v).length ≤ m.length + 1 := by
  unfold putA
  split
  · rw [List.length_map]
    omega
  · rw [List.length_append, List.length_singleton]
    exact Nat.le_refl _
theorem dropA_len (m : List (Int × α)) (k : Int) : (dropA m k).length ≤ m.length := List.length_filter_le _ _
def RpD (enc : α → PyData) (K : PySem.W.Frag) (H : Hp) : List (Int × α) → List (Key × V) → Prop
  | [], kvs => kvs = []
  | p :: m, kvs => ∃ v r, kvs = (Sum.inl p.1, v) :: r ∧ Rp K H (enc p.2) v ∧ RpD enc K H m r
variable {enc : α → PyData} {K : PySem.W.Frag} {H H' : Hp}
theorem RpD.tk (e : TK H H') : ∀ {m : List (Int × α)} {kvs : List (Key × V)}, RpD enc K H m kvs → RpD enc K H' m kvs
  | [], _, h => h
  | p :: m, kvs, h => by
    obtain ⟨v, r, rfl, h1, h2⟩ := h
    exact ⟨v, r, rfl, Rp.tk e _ _ h1, RpD.tk e h2⟩
theorem RpD.len : ∀ {m : List (Int × α)} {kvs : List (Key × V)}, RpD enc K H m kvs → kvs.length = m.length
  | [], kvs, h => by rw [show kvs = [] from h]; rfl
  | p :: m, kvs, h => by
    obtain ⟨v, r, rfl, h1, h2⟩ := h
    rw [List.length_cons, List.length_cons, RpD.len h2]
theorem RpD.keys : ∀ {m : List (Int × α)} {kvs : List (Key × V)}, RpD enc K H m kvs → (kvs.map fun kv => kV kv.1) = (m.map (·.1)).map V.int
  | [], kvs, h => by rw [show kvs = [] from h]; rfl
  | p :: m, kvs, h => by
    obtain ⟨v, r, rfl, h1, h2⟩ := h
    rw [List.map_cons, List.map_cons, List.map_cons, RpD.keys h2]
    rfl
theorem inl_iff {a b : Int} : ((Sum.inl a : Key) = Sum.inl b) ↔ a = b := ⟨fun h => by cases h; rfl, fun h => by rw [h]⟩
theorem RpD.val {k : Int} : ∀ {m : List (Int × α)} {kvs : List (Key × V)}, RpD enc K H m kvs → (lookA m k = none ∧ valV kvs (Sum.inl k) = none) ∨ ∃ x v, lookA m k = some x ∧ valV kvs (Sum.inl k) = some v ∧ Rp K H (enc x) v
  | [], kvs, h => by
    rw [show kvs = [] from h]
    exact .inl ⟨rfl, rfl⟩
  | p :: m, kvs, h => by
    obtain ⟨v, r, rfl, h1, h2⟩ := h
    by_cases e : p.1 = k
    · refine .inr ⟨p.2, v, ?_, valV_pos (by rw [e]), h1⟩
      simp [lookA, List.find?_cons, e]
    · have e1 : lookA (p :: m) k = lookA m k := by simp [lookA, List.find?_cons, e]
      rw [e1, valV_neg (p := (Sum.inl p.1, v)) (fun z => e (inl_iff.mp z))]
      exact RpD.val h2
theorem RpD.any {k : Int} : ∀ {m : List (Int × α)} {kvs : List (Key × V)}, RpD enc K H m kvs → (kvs.any fun kv => decide (kv.1 = Sum.inl k)) = (m.any fun kv => decide (kv.1 = k))
  | [], kvs, h => by rw [show kvs = [] from h]; rfl
  | p :: m, kvs, h => by
    obtain ⟨v, r, rfl, h1, h2⟩ := h
    rw [List.any_cons, List.any_cons, RpD.any h2]
    congr 1
    exact decide_eq_decide.mpr inl_iff
theorem RpD.snoc {k : Int} {x : α} {v : V} (hv : Rp K H (enc x) v) : ∀ {m : List (Int × α)} {kvs : List (Key × V)}, RpD enc K H m kvs → RpD enc K H (m ++ [(k, x)]) (kvs ++ [(Sum.inl k, v)])
  | [], kvs, h => by
    rw [show kvs = [] from h]
    exact ⟨v, [], rfl, hv, rfl⟩
  | p :: m, kvs, h => by
    obtain ⟨u, r, rfl, h1, h2⟩ := h
    exact ⟨u, _, rfl, h1, RpD.snoc hv h2⟩
theorem RpD.map {k : Int} {x : α} {v : V} (hv : Rp K H (enc x) v) : ∀ {m : List (Int × α)} {kvs : List (Key × V)}, RpD enc K H m kvs → RpD enc K H (m.map fun kv => if kv.1 = k then (kv.1, x) else kv) (kvs.map fun kv => if kv.1 = Sum.inl k then (kv.1, v) else kv)
  | [], kvs, h => by rw [show kvs = [] from h]; rfl
  | p :: m, kvs, h => by
    obtain ⟨u, r, rfl, h1, h2⟩ := h
    have h3 := RpD.map (k := k) hv h2
    rw [List.map_cons, List.map_cons]
    by_cases e : p.1 = k
    · rw [if_pos e, if_pos (inl_iff.mpr e)]
      exact ⟨v, _, rfl, hv, h3⟩
    · rw [if_neg e, if_neg (fun z => e (inl_iff.mp z))]
      exact ⟨u, _, rfl, h1, h3⟩
theorem RpD.put {k : Int} {x : α} {v : V} {m : List (Int × α)} {kvs : List (Key × V)} (h : RpD enc K H m kvs) (hv : Rp K H (enc x) v) : RpD enc K H (putA m k x) (putK kvs (Sum.inl k) v) := by
  unfold putA putK
  rw [h.any]
  split
  · exact h.map hv
  · exact h.snoc hv
theorem RpD.drop {k : Int} : ∀ {m : List (Int × α)} {kvs : List (Key × V)}, RpD enc K H m kvs → RpD enc K H (dropA m k) (dropK kvs (Sum.inl k))
  | [], kvs, h => by rw [show kvs = [] from h]; rfl
  | p :: m, kvs, h => by
    obtain ⟨u, r, rfl, h1, h2⟩ := h
    have h3 := RpD.drop (k := k) h2
    unfold dropA dropK at *
    by_cases e : p.1 = k
    · rw [List.filter_cons_of_neg (by simp [e]), List.filter_cons_of_neg (by simp [e])]
      exact h3
    · rw [List.filter_cons_of_pos (by simp [e]), List.filter_cons_of_pos (by simp [inl_iff, e])]
      exact ⟨u, _, rfl, h1, h3⟩
/-- a dict at q that stands for m -/
def DictAt (enc : α → PyData) (K : PySem.W.Frag) (H : Hp) (q : Addr) (m : List (Int × α)) : Prop := ∃ kvs, H q = some (.dK kvs) ∧ RpD enc K H m kvs
theorem DictAt.kp {M : List Addr} {q : Addr} {m : List (Int × α)} (h : DictAt enc K H q m) (k : Kp M H H') (t : TK H H') (n : q ∉ M) : DictAt enc K H' q m := by
  obtain ⟨kvs, a, b⟩ := h
  exact ⟨kvs, k _ _ n a, b.tk t⟩
def sortI (ns : List Int) : List Int := ns.mergeSort (fun a b => decide (a ≤ b))
theorem sortI_perm (ns : List Int) : (sortI ns).Perm ns := List.mergeSort_perm _ _
theorem sortI_sorted (ns : List Int) : (sortI ns).Pairwise (· ≤ ·) := by
  have h := List.pairwise_mergeSort (le := fun a b : Int => decide (a ≤ b)) (fun a b c h1 h2 => by simp only [decide_eq_true_eq] at *; omega) (fun a b => by simp only [Bool.or_eq_true, decide_eq_true_eq]; omega) ns
  exact h.imp fun h => of_decide_eq_true h
theorem sortI_eq {ns ms : List Int} (p : ms.Perm ns) (s : ms.Pairwise (· ≤ ·)) : ms = sortI ns :=
  PySem.W.ksm_same (p.trans (sortI_perm ns).symm) s (sortI_sorted ns)
/-- rows by hands: (hand,) and what stands there -/
def rowsD (encL : α → List PyData) (m : List (Int × α)) : PyData := .tuple ((sortI (m.map (·.1))).map fun k => .tuple (.int k :: ((lookA m k).map encL).getD []))
theorem lookA_mem {m : List (Int × α)} {k : Int} (h : k ∈ m.map (·.1)) : ∃ x, lookA m k = some x ∧ (k, x) ∈ m := by
  obtain ⟨p, hp, rfl⟩ := List.mem_map.mp h
  unfold lookA
  cases e : m.find? fun q => decide (q.1 = p.1) with
  | none =>
    have := List.find?_eq_none.mp e p hp
    simp at this
  | some q =>
    have h1 := List.find?_some e
    have h2 := List.mem_of_find?_eq_some e
    simp only [decide_eq_true_eq] at h1
    exact ⟨q.2, rfl, by rw [← h1]; exact h2⟩
theorem szs_map_le {β : Type} {f : β → PyData} {c : Nat} : ∀ (l : List β), (∀ x ∈ l, sz (f x) ≤ c) → szs (l.map f) ≤ c * l.length
  | [], _ => Nat.zero_le _
  | x :: l, h => by
    have h1 := szs_map_le l fun y hy => h y (List.mem_cons_of_mem _ hy)
    have h2 := h x List.mem_cons_self
    rw [List.map_cons, List.length_cons]
    unfold szs
    rw [Nat.mul_succ]
    omega
theorem deps_map_le {β : Type} {f : β → PyData} {c : Nat} : ∀ (l : List β), (∀ x ∈ l, dep (f x) ≤ c) → deps (l.map f) ≤ c
  | [], _ => Nat.zero_le _
  | x :: l, h => by
    have h1 := deps_map_le l fun y hy => h y (List.mem_cons_of_mem _ hy)
    have h2 := h x List.mem_cons_self
    rw [List.map_cons]
    unfold deps
    omega
theorem Rp.tup {ds : List PyData} {a : Addr} {xs : List V} (h : H a = some (.tup xs)) (r : RpL K H ds xs) : Rp K H (.tuple ds) (.ref a) := by
  unfold Rp
  exact ⟨a, xs, rfl, SqT.of h, r⟩
theorem Rp.tupS {ds : List PyData} {a : Addr} {xs : List V} (h : SqT K H a xs) (r : RpL K H ds xs) : Rp K H (.tuple ds) (.ref a) := by
  unfold Rp
  exact ⟨a, xs, rfl, h, r⟩
theorem RpL.cons {d : PyData} {ds : List PyData} {v : V} {xs : List V} (h : Rp K H d v) (r : RpL K H ds xs) : RpL K H (d :: ds) (v :: xs) := by
  unfold RpL
  exact ⟨v, xs, rfl, h, r⟩
theorem RpL.nil : RpL K H [] [] := by
  unfold RpL
  rfl
theorem Rp.int {i : Int} : Rp K H (.int i) (.int i) := by
  unfold Rp
  rfl
theorem Rp.none : Rp K H .none .non := by
  unfold Rp
  rfl
theorem Rp.str {z : Str} : Rp K H (.str z) (.str z) := by
  unfold Rp
  rfl
end
end Wn

namespace Wn
open PySem L2
theorem tYes_t {σ : L2.St} {H : Hp} {F : Bool → Hp → Prop} (h : F true H) : tYes σ H F := h
theorem rows_lc {α : Type} {encL : α → List PyData} {K : PySem.W.Frag} {td : TE} {i : Nat} {σ : L2.St} {H2 : Hp} {S D q : Addr} {ns : List Int} {m : List (Int × α)} {kvs : List (Key × V)} {Qd : Hp → Prop}
    (hS : H2 S = some (.lst (ns.map V.int))) (hq : H2 q = some (.dK kvs)) (hm : RpD (fun x => .tuple (encL x)) K H2 m kvs) (hns : ∀ k ∈ ns, k ∈ m.map (·.1)) (hz : ∀ x, (encL x).length ≤ 100) (hln : ns.length ≤ 1000000)
    (htd : ∀ (σ' : L2.St) (H' : Hp) (Q : VK), wipe σ' [i] = wipe σ [i] → Same H2 H' → Q (.ref q) H' → td σ' H' Q) (hD : H2 D = none) (hσ : i < σ.length)
    (hd : ∀ (H' : Hp) (xs : List V), Same H2 H' → H' D = some (.lst xs) → RpL K H' (ns.map fun k => .tuple (.int k :: ((lookA m k).map encL).getD [])) xs → Qd H') :
    ∃ W : Nat → Nat → Hp → Prop, (∃ m, W 0 m (upd H2 D (.lst []))) ∧ ∀ j m H, W j m H →
      ((Itl K S).stop j H ∧ Qd H) ∨ ((Itl K S).go j H ∧ ∃ Nx : Hp → Prop, (∀ H', Nx H' → ∃ m', m' < m ∧ W (j + 1) m' H') ∧ ∀ x H', (Itl K S).yld j H x H' → gName i x (wipe σ [i]) H' fun σ2 H2 => wipe σ2 [i] = wipe σ [i] ∧ tYes σ2 H2 fun b H3 =>
        if b = true then tOp (rCatT K) (tTup (tCons (tVar i) tNil)) (tDGet td (tVar i)) σ2 H3 fun y H4 => ∃ acc, H4 D = some (.lst acc) ∧ acc.length < sizeLine ∧ Nx (upd H4 D (.lst (acc ++ [y]))) else Nx H3) := by
  have nSD : S ≠ D := ne_of_none hS hD
  refine lc_list (K := K) (a := S) (xs := ns.map V.int) (fun j H => ∃ xs, Same H2 H ∧ H D = some (.lst xs) ∧ RpL K H ((ns.take j).map fun k => .tuple (.int k :: ((lookA m k).map encL).getD [])) xs)
    ⟨[], (L2.Same.refl H2).new hD, upd_same, RpL.nil⟩ (fun j H _ ⟨xs, s, _, _⟩ => SqL.of (s _ _ hS)) ?_ ?_
  · rintro j x H3 hx ⟨xs, s3, hD3, hr⟩
    have hj : j < ns.length := by
      have q := (List.getElem?_eq_some_iff.mp hx).1
      rw [List.length_map] at q
      exact q
    obtain rfl : x = V.int ns[j] := by
      rw [List.getElem?_map, List.getElem?_eq_getElem hj] at hx
      exact (Option.some.inj hx).symm
    have hmem : ns[j] ∈ m.map (·.1) := hns _ (List.getElem_mem hj)
    have eσ : (((wipe σ [i]).set i (some (V.int ns[j]))))[i]? = some (some (V.int ns[j])) := by
      rw [List.getElem?_set_self]
      rw [wipe_length]
      exact hσ
    have ew : wipe ((wipe σ [i]).set i (some (V.int ns[j]))) [i] = wipe σ [i] := by
      show ((σ.set i none).set i (some (V.int ns[j]))).set i none = σ.set i none
      rw [List.set_set, List.set_set]
    refine ⟨ew, ?_⟩
    refine tYes_t (iteT ?_)
    have hlx : xs.length < sizeLine := by
      have := RpL.len _ _ hr
      rw [List.length_map, List.length_take] at this
      exact Nat.lt_of_le_of_lt (show xs.length ≤ 1000000 by omega) (by decide)
    refine ⟨_, eσ, (by show 1 ≤ sizeLine; decide), fun t ht => ?_⟩
    have s4 := s3.new (o := .tup [V.int ns[j]]) ht
    have t4 := TK.of s4
    refine htd _ _ _ ew s4 ⟨_, eσ, ?_⟩
    rcases hm.val (k := ns[j]) with ⟨e1, e2⟩ | ⟨y, v, e1, e2, r⟩
    · obtain ⟨z, e3, _⟩ := lookA_mem hmem
      rw [e1] at e3
      cases e3
    · have r4 := Rp.tk t4 _ _ r
      unfold Rp at r4
      obtain ⟨b, ys, rfl, hb, hl⟩ := r4
      have hly := RpL.len _ _ hl
      refine ⟨q, .ref b, rfl, by rw [← e2]; exact DGet.k (k := Sum.inl ns[j]) (s4 _ _ hq), ?_⟩
      have hD4 : (upd H3 t (.tup [V.int ns[j]])) D = some (.lst xs) := by
        rw [upd_ne (ne_of_none hD3 ht)]
        exact hD3
      have etk : (ns.take (j + 1)).map (fun k => PyData.tuple (.int k :: ((lookA m k).map encL).getD [])) = (ns.take j).map (fun k => PyData.tuple (.int k :: ((lookA m k).map encL).getD [])) ++ [PyData.tuple (.int ns[j] :: encL y)] := by
        rw [List.take_succ_eq_append_getElem hj, List.map_append, List.map_singleton, e1]
        rfl
      have s34 : TK H3 (upd H3 t (.tup [V.int ns[j]])) := (TK.refl _).new ht
      refine ⟨t, b, _, ys, rfl, rfl, SqT.of upd_same, hb, List.cons_ne_nil _ _, ?_, fun ey => ?_, fun _ p hp => ?_⟩
      · have := hz y
        rw [hly, List.length_singleton]
        exact Nat.le_trans (show 1 + (encL y).length ≤ 1000 by omega) (by decide)
      · refine ⟨xs, hD4, hlx, _, s4.wrn hD, upd_same, ?_⟩
        rw [etk]
        have tE : TK (upd H3 t (.tup [V.int ns[j]])) (upd (upd H3 t (.tup [V.int ns[j]])) D (.lst (xs ++ [V.ref t]))) := (TK.refl _).wr hD4 rfl
        refine RpL.snoc (Rp.tk tE _ _ (Rp.tup upd_same ?_)) _ _ (RpL.tk (s34.trans tE) _ _ hr)
        have e0 : encL y = [] := List.length_eq_zero_iff.mp (by rw [← hly, ey]; rfl)
        rw [e0]
        exact RpL.cons Rp.int RpL.nil
      · have s5 := s4.new (o := .tup ([V.int ns[j]] ++ ys)) hp
        have hD5 : upd (upd H3 t (.tup [V.int ns[j]])) p (.tup ([V.int ns[j]] ++ ys)) D = some (.lst xs) := by
          rw [upd_ne (ne_of_none hD4 hp)]
          exact hD4
        have tE : TK (upd (upd H3 t (.tup [V.int ns[j]])) p (.tup ([V.int ns[j]] ++ ys))) (upd (upd (upd H3 t (.tup [V.int ns[j]])) p (.tup ([V.int ns[j]] ++ ys))) D (.lst (xs ++ [V.ref p]))) := (TK.refl _).wr hD5 rfl
        have s45 : TK (upd H3 t (.tup [V.int ns[j]])) (upd (upd H3 t (.tup [V.int ns[j]])) p (.tup ([V.int ns[j]] ++ ys))) := (TK.refl _).new hp
        refine ⟨xs, hD5, hlx, _, s5.wrn hD, upd_same, ?_⟩
        rw [etk]
        refine RpL.snoc (Rp.tk tE _ _ (Rp.tup upd_same ?_)) _ _ (RpL.tk ((s34.trans s45).trans tE) _ _ hr)
        exact RpL.cons Rp.int (RpL.tk s45 _ _ hl)
  · rintro H3 ⟨xs, s3, hD3, hr⟩
    rw [List.length_map, List.take_length] at hr
    exact hd H3 xs s3 hD3 hr
end Wn

namespace Wn
open PySem L2
section
variable {X : Cx} {K : PySem.W.Frag}
theorem ixL (hK : X.K = K) : IxR X (rIxL K) := hK ▸ ix_list
theorem ixT (hK : X.K = K) : IxR X (rIxT K) := hK ▸ ix_tup
theorem opCatT (hK : X.K = K) : OpR X (binaryOp .Add) (rCatT K) := hK ▸ op_catT
theorem slL (hK : X.K = K) : SlR X (rSlL K) := hK ▸ sl_list
theorem slT (hK : X.K = K) : SlR X (rSlT K) := hK ▸ sl_tup
theorem fldK {e : Expr} {ta : TE} {f : Str} {pos : Pos} (hK : X.K = K) (he : PE X e ta) (hb : attributeBase e f X.env (eval e X.env) = eval e X.env) : PE X (.Attribute e f pos) (tFld K ta f) := hK ▸ pe_fld he hb
theorem lenK (hK : X.K = K) : CallR X (.builtin "len") (fun xs H Q => ∃ x n, xs = [x] ∧ LenV K x H n ∧ Q (.int n) H) := hK ▸ call_len
theorem crMaxK (hK : X.K = K) (hc : X.calm = true) : CallR X (.builtin "max") (rMax K) := hK ▸ cr_max hc
theorem crMinK (hK : X.K = K) (hc : X.calm = true) : CallR X (.builtin "min") (rMin K) := hK ▸ cr_min hc
theorem crAllK (hK : X.K = K) (hc : X.calm = true) : CallR X (.builtin "all") (rAll K) := hK ▸ cr_all hc
theorem crAnyK (hK : X.K = K) (hc : X.calm = true) : CallR X (.builtin "any") (rAny K) := hK ▸ cr_any hc
theorem isiK (hK : X.K = K) : CallR X (.builtin "isinstance") (rIsi K) := hK ▸ call_isi
theorem tupOfK (hK : X.K = K) : CallR X (.type "tuple") (fun xs H Q => ∃ p ys, xs = [.ref p] ∧ ((SqL K H p ys ∧ ∀ l, H l = none → Q (.ref l) (upd H l (.tup ys))) ∨ (SqT K H p ys ∧ Q (.ref p) H))) := hK ▸ call_tuple_of
theorem lstOfK (hK : X.K = K) : CallR X (.type "list") (fun xs H Q => ∃ p ys, xs = [.ref p] ∧ (SqL K H p ys ∨ SqT K H p ys) ∧ ∀ l, H l = none → Q (.ref l) (upd H l (.lst ys))) := hK ▸ call_list_of
theorem sortIK (hK : X.K = K) : CallR X (.builtin "sorted") (rSortedI K) := hK ▸ cr_sortedI
theorem inSeqK (hK : X.K = K) : OpR X (compareOp .In) (rIn K false) := hK ▸ op_in_seq
theorem notInSeqK (hK : X.K = K) : OpR X (compareOp .NotIn) (rIn K true) := hK ▸ op_notIn_seq
theorem eqDK (hK : X.K = K) (hu : X.A.units + 64 < cLine) : OpR X (compareOp .Eq) (rEqD K) := hK ▸ op_eqD hu
theorem neDK (hK : X.K = K) (hu : X.A.units + 64 < cLine) : OpR X (compareOp .NotEq) (rNeD K) := hK ▸ op_neD hu
end
end Wn

namespace Wn
open PySem L2
theorem Deck.kp {M : List Addr} {H H' : Hp} {d f : Addr} {n : Int} (h : Deck H d f n) (k : Kp M H H') (n1 : d ∉ M) (n2 : f ∉ M) : Deck H' d f n := by
  obtain ⟨a, wh, xs, h1, h2, h3⟩ := h
  exact ⟨a, wh, xs, k _ _ n1 h1, k _ _ n2 h2, h3⟩
theorem Deck.mono {H : Hp} {d f : Addr} {n m : Int} (h : Deck H d f n) (hm : n ≤ m) : Deck H d f m := by
  obtain ⟨a, wh, xs, h1, h2, h3, h4, h5⟩ := h
  exact ⟨a, wh, xs, h1, h2, h3, by omega, h5⟩
theorem Deck.lst {H : Hp} {d f : Addr} {n : Int} (h : Deck H d f n) : ∃ zs, H d = some (.lst zs) := by
  obtain ⟨a, wh, xs, h1, h2, h3⟩ := h
  exact ⟨_, h1⟩
theorem Deck.lst2 {H : Hp} {d f : Addr} {n : Int} (h : Deck H d f n) : ∃ zs, H f = some (.lst zs) := by
  obtain ⟨a, wh, xs, h1, h2, h3⟩ := h
  exact ⟨_, h2⟩
theorem seq_have {t u : TS} {D : Ends} {σ : L2.St} {H : Hp} (Mid : L2.St → Hp → Prop) (h2 : ∀ σ' H', Mid σ' H' → u D σ' H') (h1 : (∀ σ' H', Mid σ' H' → u D σ' H') → t { D with nx := u D } σ H) : tSeq t u D σ H := h1 h2
theorem seq_if {c : TT} {t1 t2 u : TS} {D : Ends} {σ : L2.St} {H : Hp} (Mid : L2.St → Hp → Prop) (h2 : ∀ σ' H', Mid σ' H' → u D σ' H') (h1 : (∀ σ' H', Mid σ' H' → u D σ' H') → tIfS c t1 t2 { D with nx := u D } σ H) : tSeq (tIfS c t1 t2) u D σ H := h1 h2
theorem nin1 {a b : Addr} (h : a ≠ b) : a ∉ [b] := fun z => h (List.mem_singleton.mp z)
theorem nin2 {a b c : Addr} (h : a ≠ b) (h' : a ≠ c) : a ∉ [b, c] := fun z => by
  rcases List.mem_cons.mp z with z | z
  · exact h z
  · exact h' (List.mem_singleton.mp z)
section
variable {α : Type}
/-- an object at p whose dict by_hand stands at q -/
def HoldAt (enc : α → PyData) (K : PySem.W.Frag) (C : Addr) (H : Hp) (p q : Addr) (m : List (Int × α)) : Prop :=
  (∃ dx, H p = some (.ins C dx [("by_hand", .ref q)])) ∧ DictAt enc K H q m
variable {enc : α → PyData} {K : PySem.W.Frag} {C : Addr} {H H' : Hp}
theorem HoldAt.kp {M : List Addr} {p q : Addr} {m : List (Int × α)} (h : HoldAt enc K C H p q m) (k : Kp M H H') (t : TK H H') (n1 : p ∉ M) (n2 : q ∉ M) : HoldAt enc K C H' p q m := by
  obtain ⟨⟨dx, a⟩, b⟩ := h
  exact ⟨⟨dx, k _ _ n1 a⟩, b.kp k t n2⟩
/-- n objects and n dicts, in two lists -/
structure Rack (enc : α → PyData) (K : PySem.W.Frag) (C : Addr) (H : Hp) (L1 L2 : Addr) (n : Nat) (p q md : Nat → Addr) (m m' : Nat → List (Int × α)) : Prop where
  l1 : H L1 = some (.lst ((List.range n).map fun j => V.ref (p j)))
  l2 : H L2 = some (.lst ((List.range n).map fun j => V.ref (md j)))
  ok : ∀ j, j < n → HoldAt enc K C H (p j) (q j) (m j)
  mo : ∀ j, j < n → DictAt enc K H (md j) (m' j)
  dq : ∀ i j, i < n → j < n → i ≠ j → q i ≠ q j
  dm : ∀ i j, i < n → j < n → i ≠ j → md i ≠ md j
  dx : ∀ i j, i < n → j < n → q i ≠ md j
variable {L1 L2 : Addr} {n : Nat} {p q md : Nat → Addr} {m m' : Nat → List (Int × α)}
theorem Rack.kp {M : List Addr} (R : Rack enc K C H L1 L2 n p q md m m') (k : Kp M H H') (t : TK H H') (h : ∀ x ∈ M, x ≠ L1 ∧ x ≠ L2 ∧ ∀ j, j < n → x ≠ p j ∧ x ≠ q j ∧ x ≠ md j) : Rack enc K C H' L1 L2 n p q md m m' where
  l1 := k _ _ (fun z => (h _ z).1 rfl) R.l1
  l2 := k _ _ (fun z => (h _ z).2.1 rfl) R.l2
  ok := fun j hj => (R.ok j hj).kp k t (fun z => ((h _ z).2.2 j hj).1 rfl) (fun z => ((h _ z).2.2 j hj).2.1 rfl)
  mo := fun j hj => (R.mo j hj).kp k t (fun z => ((h _ z).2.2 j hj).2.2 rfl)
  dq := R.dq
  dm := R.dm
  dx := R.dx
/-- a list beside was written -/
theorem Rack.lst {d : Addr} {zs : List V} (R : Rack enc K C H L1 L2 n p q md m m') (k : Kp [d] H H') (t : TK H H') (hd : H d = some (.lst zs)) (n1 : d ≠ L1) (n2 : d ≠ L2) : Rack enc K C H' L1 L2 n p q md m m' :=
  R.kp k t fun x hx => by
    rw [List.mem_singleton] at hx
    subst hx
    refine ⟨n1, n2, fun j hj => ?_⟩
    obtain ⟨⟨dx, a⟩, kvs, b, _⟩ := R.ok j hj
    obtain ⟨kvs', c, _⟩ := R.mo j hj
    exact ⟨ne_of hd a (by intro z; cases z), ne_of hd b (by intro z; cases z), ne_of hd c (by intro z; cases z)⟩
theorem Rack.same (R : Rack enc K C H L1 L2 n p q md m m') (s : Same H H') : Rack enc K C H' L1 L2 n p q md m m' :=
  R.kp (M := []) (Kp.of s) (TK.of s) fun x hx => by cases hx
/-- the k-th object's dict is another one -/
theorem Rack.setq {i : Nat} {mn : List (Int × α)} (R : Rack enc K C H L1 L2 n p q md m m') (hi : i < n) (k : Kp [q i] H H') (t : TK H H') (h : HoldAt enc K C H' (p i) (q i) mn) :
    Rack enc K C H' L1 L2 n p q md (fun j => if j = i then mn else m j) m' := by
  obtain ⟨_, kvq, hq, _⟩ := R.ok i hi
  refine ⟨k _ _ (nin1 (ne_of R.l1 hq (by intro z; cases z))) R.l1, k _ _ (nin1 (ne_of R.l2 hq (by intro z; cases z))) R.l2, fun j hj => ?_, fun j hj => ?_, R.dq, R.dm, R.dx⟩
  · by_cases e : j = i
    · subst e
      simp only [if_true]
      exact h
    · simp only [if_neg e]
      obtain ⟨⟨dx, a⟩, _⟩ := R.ok j hj
      exact (R.ok j hj).kp k t (nin1 (ne_of a hq (by intro z; cases z))) (nin1 (R.dq j i hj hi e))
  · exact (R.mo j hj).kp k t (nin1 (fun z => R.dx i j hi hj z.symm))
theorem Rack.setm {i : Nat} {mn : List (Int × α)} (R : Rack enc K C H L1 L2 n p q md m m') (hi : i < n) (k : Kp [md i] H H') (t : TK H H') (h : DictAt enc K H' (md i) mn) :
    Rack enc K C H' L1 L2 n p q md m (fun j => if j = i then mn else m' j) := by
  obtain ⟨kvq, hq, _⟩ := R.mo i hi
  refine ⟨k _ _ (nin1 (ne_of R.l1 hq (by intro z; cases z))) R.l1, k _ _ (nin1 (ne_of R.l2 hq (by intro z; cases z))) R.l2, fun j hj => ?_, fun j hj => ?_, R.dq, R.dm, R.dx⟩
  · obtain ⟨⟨dx, a⟩, _⟩ := R.ok j hj
    exact (R.ok j hj).kp k t (nin1 (ne_of a hq (by intro z; cases z))) (nin1 (R.dx j i hj hi))
  · by_cases e : j = i
    · subst e
      simp only [if_true]
      exact h
    · simp only [if_neg e]
      exact (R.mo j hj).kp k t (nin1 (R.dm j i hj hi e))
/-- one more -/
theorem Rack.push {pn qn mdn : Addr} {mn : List (Int × α)} (R : Rack enc K C H L1 L2 n p q md m m') (k : Kp [L1, L2] H H') (t : TK H H') (h1 : H' L1 = some (.lst (((List.range n).map fun j => V.ref (p j)) ++ [V.ref pn]))) (h2 : H' L2 = some (.lst (((List.range n).map fun j => V.ref (md j)) ++ [V.ref mdn])))
    (hp : HoldAt enc K C H' pn qn mn) (hm : DictAt enc K H' mdn mn) (nq : H qn = none) (nm : H mdn = none) (nqm : qn ≠ mdn) :
    Rack enc K C H' L1 L2 (n + 1) (fun j => if j = n then pn else p j) (fun j => if j = n then qn else q j) (fun j => if j = n then mdn else md j) (fun j => if j = n then mn else m j) (fun j => if j = n then mn else m' j) := by
  have e1 : ∀ (f : Nat → Addr) (x : Addr), (List.range (n + 1)).map (fun j => V.ref (if j = n then x else f j)) = ((List.range n).map fun j => V.ref (f j)) ++ [V.ref x] := fun f x => by
    rw [List.range_succ, List.map_append, List.map_singleton, if_pos rfl]
    congr 1
    refine List.map_congr_left fun j hj => ?_
    rw [List.mem_range] at hj
    rw [if_neg (by omega)]
  have hq : ∀ j, j < n → q j ≠ qn ∧ q j ≠ mdn := fun j hj => by
    obtain ⟨_, kv, a, _⟩ := R.ok j hj
    exact ⟨ne_of_none a nq, ne_of_none a nm⟩
  have hmd : ∀ j, j < n → md j ≠ qn ∧ md j ≠ mdn := fun j hj => by
    obtain ⟨kv, a, _⟩ := R.mo j hj
    exact ⟨ne_of_none a nq, ne_of_none a nm⟩
  refine ⟨by rw [e1]; exact h1, by rw [e1]; exact h2, fun j hj => ?_, fun j hj => ?_, fun i j hi hj e => ?_, fun i j hi hj e => ?_, fun i j hi hj => ?_⟩
  · by_cases e : j = n
    · simp only [if_pos e]
      exact hp
    · simp only [if_neg e]
      obtain ⟨⟨dx, a⟩, kv, b, _⟩ := R.ok j (by omega)
      exact (R.ok j (by omega)).kp k t (nin2 (ne_of a R.l1 (by intro z; cases z)) (ne_of a R.l2 (by intro z; cases z))) (nin2 (ne_of b R.l1 (by intro z; cases z)) (ne_of b R.l2 (by intro z; cases z)))
  · by_cases e : j = n
    · simp only [if_pos e]
      exact hm
    · simp only [if_neg e]
      obtain ⟨kv, b, _⟩ := R.mo j (by omega)
      exact (R.mo j (by omega)).kp k t (nin2 (ne_of b R.l1 (by intro z; cases z)) (ne_of b R.l2 (by intro z; cases z)))
  · by_cases ei : i = n
    · have ej : ¬ j = n := by omega
      simp only [if_pos ei, if_neg ej]
      exact (hq j (by omega)).1.symm
    · by_cases ej : j = n
      · simp only [if_neg ei, if_pos ej]
        exact (hq i (by omega)).1
      · simp only [if_neg ei, if_neg ej]
        exact R.dq i j (by omega) (by omega) e
  · by_cases ei : i = n
    · have ej : ¬ j = n := by omega
      simp only [if_pos ei, if_neg ej]
      exact (hmd j (by omega)).2.symm
    · by_cases ej : j = n
      · simp only [if_neg ei, if_pos ej]
        exact (hmd i (by omega)).2
      · simp only [if_neg ei, if_neg ej]
        exact R.dm i j (by omega) (by omega) e
  · by_cases ei : i = n
    · by_cases ej : j = n
      · simp only [if_pos ei, if_pos ej]
        exact nqm
      · simp only [if_pos ei, if_neg ej]
        exact (hmd j (by omega)).1.symm
    · by_cases ej : j = n
      · simp only [if_neg ei, if_pos ej]
        exact (hq i (by omega)).2
      · simp only [if_neg ei, if_neg ej]
        exact R.dx i j (by omega) (by omega)
end
section
variable {α : Type} {enc : α → PyData} {K : PySem.W.Frag} {C : Addr} {H H' : Hp}
theorem HoldAt.lst {d p q : Addr} {zs : List V} {m : List (Int × α)} (h : HoldAt enc K C H p q m) (k : Kp [d] H H') (t : TK H H') (hd : H d = some (.lst zs)) : HoldAt enc K C H' p q m := by
  obtain ⟨⟨dx, a⟩, kv, b, _⟩ := id h
  exact h.kp k t (nin1 (ne_of a hd (by intro z; cases z))) (nin1 (ne_of b hd (by intro z; cases z)))
theorem HoldAt.same {p q : Addr} {m : List (Int × α)} (h : HoldAt enc K C H p q m) (s : Same H H') : HoldAt enc K C H' p q m :=
  h.kp (M := []) (Kp.of s) (TK.of s) (by simp) (by simp)
theorem DictAt.lst {d q : Addr} {zs : List V} {m : List (Int × α)} (h : DictAt enc K H q m) (k : Kp [d] H H') (t : TK H H') (hd : H d = some (.lst zs)) : DictAt enc K H' q m := by
  obtain ⟨kv, b, _⟩ := id h
  exact h.kp k t (nin1 (ne_of b hd (by intro z; cases z)))
theorem DictAt.same {q : Addr} {m : List (Int × α)} (h : DictAt enc K H q m) (s : Same H H') : DictAt enc K H' q m :=
  h.kp (M := []) (Kp.of s) (TK.of s) (by simp)
theorem Deck.same {d f : Addr} {n : Int} (h : Deck H d f n) (s : Same H H') : Deck H' d f n := h.kp (M := []) (Kp.of s) (by simp) (by simp)
/-- a dict beside was written -/
theorem Deck.dict {d f q : Addr} {n : Int} {m : List (Int × α)} (h : Deck H d f n) (k : Kp [q] H H') (hq : DictAt enc K H q m) : Deck H' d f n := by
  obtain ⟨kv, b, _⟩ := hq
  obtain ⟨zs, h1⟩ := h.lst
  obtain ⟨zf, h2⟩ := h.lst2
  exact h.kp k (nin1 (ne_of h1 b (by intro z; cases z))) (nin1 (ne_of h2 b (by intro z; cases z)))
variable {La Lb : Addr} {n : Nat} {p q md : Nat → Addr} {m m' : Nat → List (Int × α)}
/-- the k-th object's dict, the k-th dict and a list beside are others -/
theorem Rack.set2 {d : Addr} {zs : List V} {i : Nat} {mn mn' : List (Int × α)} (R : Rack enc K C H La Lb n p q md m m') (hi : i < n) (k : Kp [d, q i, md i] H H') (t : TK H H') (hd : H d = some (.lst zs)) (n1 : d ≠ La) (n2 : d ≠ Lb)
    (h : HoldAt enc K C H' (p i) (q i) mn) (h' : DictAt enc K H' (md i) mn') :
    Rack enc K C H' La Lb n p q md (fun j => if j = i then mn else m j) (fun j => if j = i then mn' else m' j) := by
  obtain ⟨_, kvq, hq, _⟩ := R.ok i hi
  obtain ⟨kvm, hm, _⟩ := R.mo i hi
  have nin : ∀ {x : Addr}, x ≠ d → x ≠ q i → x ≠ md i → x ∉ [d, q i, md i] := fun a b c z => by
    rcases List.mem_cons.mp z with z | z
    · exact a z
    · exact nin2 b c z
  refine ⟨k _ _ (nin n1.symm (ne_of R.l1 hq (by intro z; cases z)) (ne_of R.l1 hm (by intro z; cases z))) R.l1, k _ _ (nin n2.symm (ne_of R.l2 hq (by intro z; cases z)) (ne_of R.l2 hm (by intro z; cases z))) R.l2, fun j hj => ?_, fun j hj => ?_, R.dq, R.dm, R.dx⟩
  · by_cases e : j = i
    · subst e
      simp only [if_true]
      exact h
    · simp only [if_neg e]
      obtain ⟨⟨dx, a⟩, kv, b, _⟩ := R.ok j hj
      exact (R.ok j hj).kp k t (nin (ne_of a hd (by intro z; cases z)) (ne_of a hq (by intro z; cases z)) (ne_of a hm (by intro z; cases z))) (nin (ne_of b hd (by intro z; cases z)) (R.dq j i hj hi e) (R.dx j i hj hi))
  · by_cases e : j = i
    · subst e
      simp only [if_true]
      exact h'
    · simp only [if_neg e]
      obtain ⟨kv, b, _⟩ := R.mo j hj
      exact (R.mo j hj).kp k t (nin (ne_of b hd (by intro z; cases z)) (fun z => R.dx i j hi hj z.symm) (R.dm j i hj hi e))
end
theorem at3 {x y z : V} {r : Int} (h0 : 0 ≤ r) (h1 : r < 3) : ∃ v, atI [x, y, z] r = some v ∧ (v = x ∨ v = y ∨ v = z) := by
  have h : r = 0 ∨ r = 1 ∨ r = 2 := by omega
  rcases h with rfl | rfl | rfl
  · exact ⟨x, rfl, .inl rfl⟩
  · exact ⟨y, rfl, .inr (.inl rfl)⟩
  · exact ⟨z, rfl, .inr (.inr rfl)⟩
theorem at5 {a b c d e : Int} {r : Int} (h0 : 0 ≤ r) (h1 : r < 5) : ∃ v : Int, atI [V.int a, .int b, .int c, .int d, .int e] r = some (.int v) := by
  have h : r = 0 ∨ r = 1 ∨ r = 2 ∨ r = 3 ∨ r = 4 := by omega
  rcases h with rfl | rfl | rfl | rfl | rfl <;> exact ⟨_, rfl⟩
theorem atR {n : Nat} {f : Nat → Addr} {r : Int} (h0 : 0 ≤ r) (h1 : r < n) : atI ((List.range n).map fun j => V.ref (f j)) r = some (.ref (f r.toNat)) := by
  have e : ((r.toNat : Nat) : Int) = r := by omega
  have := atI_nat (xs := (List.range n).map fun j => V.ref (f j)) (j := r.toNat) (v := .ref (f r.toNat)) (by
    rw [List.getElem?_map, List.getElem?_range (by omega)]
    rfl)
  rw [e] at this
  exact this
def spLaw (K : PySem.W.Frag) : Sp := fun vs H Q _ => ∃ (a : Addr) (ns : List Int), vs = [.ref a] ∧ SqL K H a (ns.map V.int) ∧ ns.length ≤ 63 ∧ ∀ H', Q (.bl true) H'
/-! ### lists of data -/
def LstAt (K : PySem.W.Frag) (H : Hp) (a : Addr) (ds : List PyData) : Prop := ∃ xs, H a = some (.lst xs) ∧ RpL K H ds xs
section
variable {K : PySem.W.Frag} {H H' : Hp}
theorem LstAt.kp {M : List Addr} {a : Addr} {ds : List PyData} (h : LstAt K H a ds) (k : Kp M H H') (t : TK H H') (n : a ∉ M) : LstAt K H' a ds := by
  obtain ⟨xs, h1, h2⟩ := h
  exact ⟨xs, k _ _ n h1, RpL.tk t _ _ h2⟩
theorem LstAt.same {a : Addr} {ds : List PyData} (h : LstAt K H a ds) (s : Same H H') : LstAt K H' a ds := h.kp (M := []) (Kp.of s) (TK.of s) (by simp)
theorem LstAt.lst {a : Addr} {ds : List PyData} (h : LstAt K H a ds) : ∃ zs, H a = some (.lst zs) := ⟨_, h.choose_spec.1⟩
theorem RpL.app : ∀ {ds es : List PyData} {xs ys : List V}, RpL K H ds xs → RpL K H es ys → RpL K H (ds ++ es) (xs ++ ys)
  | [], es, xs, ys, h1, h2 => by
    unfold RpL at h1
    subst h1
    exact h2
  | d :: ds, es, xs, ys, h1, h2 => by
    unfold RpL at h1
    obtain ⟨v, r, rfl, a, b⟩ := h1
    show RpL K H (d :: (ds ++ es)) (v :: (r ++ ys))
    exact RpL.cons a (RpL.app b h2)
theorem RpL.take : ∀ (k : Nat) {ds : List PyData} {xs : List V}, RpL K H ds xs → RpL K H (ds.take k) (xs.take k)
  | 0, ds, xs, _ => by
    rw [List.take_zero, List.take_zero]
    exact RpL.nil
  | k + 1, [], xs, h => by
    unfold RpL at h
    subst h
    exact RpL.nil
  | k + 1, d :: ds, xs, h => by
    unfold RpL at h
    obtain ⟨v, r, rfl, a, b⟩ := h
    exact RpL.cons a (RpL.take k b)
theorem RpL.drop : ∀ (k : Nat) {ds : List PyData} {xs : List V}, RpL K H ds xs → RpL K H (ds.drop k) (xs.drop k)
  | 0, ds, xs, h => h
  | k + 1, [], xs, h => by
    unfold RpL at h
    subst h
    exact RpL.nil
  | k + 1, d :: ds, xs, h => by
    unfold RpL at h
    obtain ⟨v, r, rfl, a, b⟩ := h
    exact RpL.drop k b
theorem inV_int {k : Int} : ∀ ns : List Int, inV (.int k) (ns.map V.int) = decide (k ∈ ns)
  | [] => by simp [inV]
  | n :: ns => by
    have h := inV_int (k := k) ns
    unfold inV at h ⊢
    rw [List.map_cons, List.any_cons, h]
    show ((n == k) || _) = _
    by_cases e : n = k
    · simp [e]
    · have e2 : ¬ k = n := fun z => e z.symm
      simp [e, e2]
theorem flat_ints (ns : List Int) : (ns.map V.int).all flatV = true := by
  rw [List.all_eq_true]
  intro x hx
  obtain ⟨n, _, rfl⟩ := List.mem_map.mp hx
  rfl
theorem set_wipe {σ : L2.St} {i : Nat} {x : Option V} : (wipe σ [i]).set i x = σ.set i x := by
  show (σ.set i none).set i x = _
  rw [List.set_set]
theorem wipe_set {σ : L2.St} {i : Nat} {x : Option V} : wipe (σ.set i x) [i] = wipe σ [i] := by
  show (σ.set i x).set i none = σ.set i none
  rw [List.set_set]
/-- [x for x in xs if test] -/
theorem filt_lc {β : Type} {enc : β → PyData} {tt : TT} {i : Nat} {σ : L2.St} {H2 : Hp} {S D : Addr} {xs : List V} {L : List β} {Qd : Hp → Prop} (p : β → Bool) (hS : H2 S = some (.lst xs)) (hr : RpL K H2 (L.map enc) xs) (hD : H2 D = none) (hσ : i < σ.length) (hl : L.length ≤ 1000000)
    (htt : ∀ (b : β) (x : V) (H' : Hp) (Q : Bool → Hp → Prop), b ∈ L → Rp K H' (enc b) x → Same H2 H' → Q (p b) H' → tt (σ.set i (some x)) H' Q)
    (hd : ∀ (H' : Hp) (ys : List V), Same H2 H' → H' D = some (.lst ys) → RpL K H' ((L.filter p).map enc) ys → Qd H') :
    ∃ W : Nat → Nat → Hp → Prop, (∃ m, W 0 m (upd H2 D (.lst []))) ∧ ∀ j m H, W j m H →
      ((Itl K S).stop j H ∧ Qd H) ∨ ((Itl K S).go j H ∧ ∃ Nx : Hp → Prop, (∀ H', Nx H' → ∃ m', m' < m ∧ W (j + 1) m' H') ∧ ∀ x H', (Itl K S).yld j H x H' → gName i x (wipe σ [i]) H' fun σ2 H2 => wipe σ2 [i] = wipe σ [i] ∧ tt σ2 H2 fun b H3 =>
        if b = true then tVar i σ2 H3 fun y H4 => ∃ acc, H4 D = some (.lst acc) ∧ acc.length < sizeLine ∧ Nx (upd H4 D (.lst (acc ++ [y]))) else Nx H3) := by
  refine lc_list (K := K) (a := S) (xs := xs) (fun j H => ∃ ys, Same H2 H ∧ H D = some (.lst ys) ∧ RpL K H (((L.take j).filter p).map enc) ys)
    ⟨[], (L2.Same.refl H2).new hD, upd_same, RpL.nil⟩ (fun j H _ ⟨ys, s, _, _⟩ => SqL.of (s _ _ hS)) ?_ ?_
  · rintro j x H3 hx ⟨ys, s3, hD3, hr3⟩
    have hlen := RpL.len _ _ hr
    have hj : j < L.length := by
      have q := (List.getElem?_eq_some_iff.mp hx).1
      rw [hlen, List.length_map] at q
      exact q
    obtain ⟨v, ev, rv⟩ := RpL.get _ _ hr j (enc L[j]) (by rw [List.getElem?_map, List.getElem?_eq_getElem hj]; rfl)
    have ex : v = x := Option.some.inj (ev.symm.trans hx)
    rw [ex] at rv
    have rx := Rp.tk (TK.of s3) _ _ rv
    show wipe ((wipe σ [i]).set i (some x)) [i] = wipe σ [i] ∧ _
    rw [set_wipe]
    refine ⟨wipe_set, ?_⟩
    have hly : ys.length < sizeLine := by
      have := RpL.len _ _ hr3
      rw [List.length_map] at this
      have h2 := List.length_filter_le p (L.take j)
      rw [List.length_take] at h2
      exact Nat.lt_of_le_of_lt (show ys.length ≤ 1000000 by omega) (by decide)
    refine htt L[j] x H3 _ (List.getElem_mem hj) rx s3 ?_
    have et : L.take (j + 1) = L.take j ++ [L[j]] := List.take_succ_eq_append_getElem hj
    cases e : p L[j] with
    | false =>
      refine iteF ⟨ys, s3, hD3, ?_⟩
      rw [et, List.filter_append, List.filter_cons, e]
      simpa using hr3
    | true =>
      refine iteT ⟨x, ?_, ys, hD3, hly, ys ++ [x], s3.wrn hD, upd_same, ?_⟩
      · rw [List.getElem?_set_self hσ]
      · have tE : TK H3 (upd H3 D (.lst (ys ++ [x]))) := (TK.refl _).wr hD3 rfl
        rw [et, List.filter_append, List.filter_cons, e, List.map_append]
        exact RpL.app (RpL.tk tE _ _ hr3) (RpL.cons (Rp.tk tE _ _ rx) RpL.nil)
  · rintro H3 ⟨ys, s3, hD3, hr3⟩
    have hlen := RpL.len _ _ hr
    rw [hlen, List.length_map, List.take_length] at hr3
    exact hd H3 ys s3 hD3 hr3
/-- [number of x for x in xs] -/
theorem mapI_lc {β : Type} {enc : β → PyData} {te : TE} {i : Nat} {σ : L2.St} {H2 : Hp} {S D : Addr} {xs : List V} {L : List β} {Qd : Hp → Prop} (f : β → Int) (hS : H2 S = some (.lst xs)) (hr : RpL K H2 (L.map enc) xs) (hD : H2 D = none) (hl : L.length ≤ 1000000)
    (hte : ∀ (b : β) (x : V) (H' : Hp) (Q : VK), b ∈ L → Rp K H' (enc b) x → Same H2 H' → Q (.int (f b)) H' → te (σ.set i (some x)) H' Q)
    (hd : ∀ (H' : Hp), Same H2 H' → H' D = some (.lst ((L.map f).map V.int)) → Qd H') :
    ∃ W : Nat → Nat → Hp → Prop, (∃ m, W 0 m (upd H2 D (.lst []))) ∧ ∀ j m H, W j m H →
      ((Itl K S).stop j H ∧ Qd H) ∨ ((Itl K S).go j H ∧ ∃ Nx : Hp → Prop, (∀ H', Nx H' → ∃ m', m' < m ∧ W (j + 1) m' H') ∧ ∀ x H', (Itl K S).yld j H x H' → gName i x (wipe σ [i]) H' fun σ2 H2 => wipe σ2 [i] = wipe σ [i] ∧ tYes σ2 H2 fun b H3 =>
        if b = true then te σ2 H3 fun y H4 => ∃ acc, H4 D = some (.lst acc) ∧ acc.length < sizeLine ∧ Nx (upd H4 D (.lst (acc ++ [y]))) else Nx H3) := by
  refine lc_list (K := K) (a := S) (xs := xs) (fun j H => Same H2 H ∧ H D = some (.lst (((L.take j).map f).map V.int)))
    ⟨(L2.Same.refl H2).new hD, upd_same⟩ (fun j H _ ⟨s, _⟩ => SqL.of (s _ _ hS)) ?_ ?_
  · rintro j x H3 hx ⟨s3, hD3⟩
    have hlen := RpL.len _ _ hr
    have hj : j < L.length := by
      have q := (List.getElem?_eq_some_iff.mp hx).1
      rw [hlen, List.length_map] at q
      exact q
    obtain ⟨v, ev, rv⟩ := RpL.get _ _ hr j (enc L[j]) (by rw [List.getElem?_map, List.getElem?_eq_getElem hj]; rfl)
    have ex : v = x := Option.some.inj (ev.symm.trans hx)
    rw [ex] at rv
    have rx := Rp.tk (TK.of s3) _ _ rv
    show wipe ((wipe σ [i]).set i (some x)) [i] = wipe σ [i] ∧ _
    rw [set_wipe]
    refine ⟨wipe_set, tYes_t (iteT ?_)⟩
    refine hte L[j] x H3 _ (List.getElem_mem hj) rx s3 ⟨_, hD3, ?_, s3.wrn hD, ?_⟩
    · rw [List.length_map, List.length_map, List.length_take]
      exact Nat.lt_of_le_of_lt (show min j L.length ≤ 1000000 by omega) (by decide)
    · rw [upd_same, List.take_succ_eq_append_getElem hj, List.map_append, List.map_append]
      rfl
  · rintro H3 ⟨s3, hD3⟩
    have hlen := RpL.len _ _ hr
    rw [hlen, List.length_map, List.take_length] at hD3
    exact hd H3 s3 hD3
end
section
variable {K : PySem.W.Frag} {H H' : Hp}
/-- [e for x in xs], each e data -/
theorem mapD_it {J : It} {G : Hp → Prop} {β : Type} {enc : β → PyData} {te : TE} {i : Nat} {σ : L2.St} {H2 : Hp} {D : Addr} {xs : List V} {L : List β} {Qd : Hp → Prop} (w : Walk J xs.length G (YAt xs)) (hG : ∀ H', Same H2 H' → G H') (g : β → PyData) (hr : RpL K H2 (L.map enc) xs) (hD : H2 D = none) (hl : L.length ≤ 1000000)
    (hte : ∀ (b : β) (x : V) (H' : Hp) (Q : VK), b ∈ L → Rp K H' (enc b) x → Same H2 H' → (∀ (H'' : Hp) (y : V), Same H' H'' → Rp K H'' (g b) y → Q y H'') → te (σ.set i (some x)) H' Q)
    (hd : ∀ (H' : Hp) (ys : List V), Same H2 H' → H' D = some (.lst ys) → RpL K H' (L.map g) ys → Qd H') :
    ∃ W : Nat → Nat → Hp → Prop, (∃ m, W 0 m (upd H2 D (.lst []))) ∧ ∀ j m H, W j m H →
      (J.stop j H ∧ Qd H) ∨ (J.go j H ∧ ∃ Nx : Hp → Prop, (∀ H', Nx H' → ∃ m', m' < m ∧ W (j + 1) m' H') ∧ ∀ x H', J.yld j H x H' → gName i x (wipe σ [i]) H' fun σ2 H2 => wipe σ2 [i] = wipe σ [i] ∧ tYes σ2 H2 fun b H3 =>
        if b = true then te σ2 H3 fun y H4 => ∃ acc, H4 D = some (.lst acc) ∧ acc.length < sizeLine ∧ Nx (upd H4 D (.lst (acc ++ [y]))) else Nx H3) := by
  refine lc_it w (fun j H => ∃ ys, Same H2 H ∧ H D = some (.lst ys) ∧ RpL K H ((L.take j).map g) ys)
    ⟨[], (L2.Same.refl H2).new hD, upd_same, RpL.nil⟩ (fun j H _ ⟨ys, s, _⟩ => hG H s) ?_ ?_
  · rintro j x H3 H3' hj ⟨ys, s3, hD3, hr3⟩ ⟨rfl, hx⟩
    have hlen := RpL.len _ _ hr
    rw [List.length_map] at hlen
    have hj : j < L.length := by omega
    obtain ⟨v, ev, rv⟩ := RpL.get _ _ hr j (enc L[j]) (by rw [List.getElem?_map, List.getElem?_eq_getElem hj]; rfl)
    have ex : v = x := Option.some.inj (ev.symm.trans hx)
    rw [ex] at rv
    have rx := Rp.tk (TK.of s3) _ _ rv
    show wipe ((wipe σ [i]).set i (some x)) [i] = wipe σ [i] ∧ _
    rw [set_wipe]
    refine ⟨wipe_set, tYes_t (iteT ?_)⟩
    refine hte L[j] x H3' _ (List.getElem_mem hj) rx s3 fun H4 y s4 ry => ⟨ys, s4 _ _ hD3, ?_, ys ++ [y], (s3.trans s4).wrn hD, upd_same, ?_⟩
    · have := RpL.len _ _ hr3
      rw [List.length_map, List.length_take] at this
      exact Nat.lt_of_le_of_lt (show ys.length ≤ 1000000 by omega) (by decide)
    · have tE : TK H4 (upd H4 D (.lst (ys ++ [y]))) := (TK.refl _).wr (s4 _ _ hD3) rfl
      rw [List.take_succ_eq_append_getElem hj, List.map_append]
      exact RpL.app (RpL.tk ((TK.of s4).trans tE) _ _ hr3) (RpL.cons (Rp.tk tE _ _ ry) RpL.nil)
  · rintro H3 ⟨ys, s3, hD3, hr3⟩
    have hlen := RpL.len _ _ hr
    rw [hlen, List.length_map, List.take_length] at hr3
    exact hd H3 ys s3 hD3 hr3
theorem RpL.ints : ∀ {ns : List Int} {ys : List V}, RpL K H (ns.map PyData.int) ys → ys = ns.map V.int
  | [], ys, h => by
    unfold List.map RpL at h
    exact h
  | n :: ns, ys, h => by
    rw [List.map_cons] at h
    unfold RpL at h
    obtain ⟨v, r, rfl, h1, h2⟩ := h
    unfold Rp at h1
    rw [RpL.ints h2, h1]
    rfl
theorem dp_ints : ∀ (ns : List Int), DpAll K H (ns.map V.int) (ns.map PyData.int)
  | [] => .nil
  | n :: ns => .cons (.int n) (dp_ints ns)
theorem LstAt.dict {α : Type} {enc : α → PyData} {a q : Addr} {ds : List PyData} {m : List (Int × α)} (h : LstAt K H a ds) (k : Kp [q] H H') (t : TK H H') (hq : DictAt enc K H q m) : LstAt K H' a ds := by
  obtain ⟨xs, h1, _⟩ := id h
  obtain ⟨kv, h2, _⟩ := hq
  exact h.kp k t (nin1 (ne_of h1 h2 (by intro z; cases z)))
theorem dep_ints (ns : List Int) : dep (.tuple (ns.map PyData.int)) ≤ 1 := by
  unfold dep
  have := deps_map_le (c := 0) (f := PyData.int) ns fun x _ => Nat.le_refl _
  omega
end
section
variable {K : PySem.W.Frag} {H H' : Hp}
/-- [e for i in range(..)], each e data -/
theorem mapR_it {J : It} {n : Nat} {fv : Nat → V} {te : TE} {i : Nat} {σ : L2.St} {H2 : Hp} {D : Addr} {Qd : Hp → Prop} (w : Walk J n (fun _ => True) (YFn fv)) (g : Nat → PyData) (hD : H2 D = none) (hl : n ≤ 1000000)
    (hte : ∀ (j : Nat) (H' : Hp) (Q : VK), j < n → Same H2 H' → (∀ (H'' : Hp) (y : V), Same H' H'' → Rp K H'' (g j) y → Q y H'') → te (σ.set i (some (fv j))) H' Q)
    (hd : ∀ (H' : Hp) (ys : List V), Same H2 H' → H' D = some (.lst ys) → RpL K H' ((List.range n).map g) ys → Qd H') :
    ∃ W : Nat → Nat → Hp → Prop, (∃ m, W 0 m (upd H2 D (.lst []))) ∧ ∀ j m H, W j m H →
      (J.stop j H ∧ Qd H) ∨ (J.go j H ∧ ∃ Nx : Hp → Prop, (∀ H', Nx H' → ∃ m', m' < m ∧ W (j + 1) m' H') ∧ ∀ x H', J.yld j H x H' → gName i x (wipe σ [i]) H' fun σ2 H2 => wipe σ2 [i] = wipe σ [i] ∧ tYes σ2 H2 fun b H3 =>
        if b = true then te σ2 H3 fun y H4 => ∃ acc, H4 D = some (.lst acc) ∧ acc.length < sizeLine ∧ Nx (upd H4 D (.lst (acc ++ [y]))) else Nx H3) := by
  refine lc_it w (fun j H => ∃ ys, Same H2 H ∧ H D = some (.lst ys) ∧ RpL K H ((List.range j).map g) ys)
    ⟨[], (L2.Same.refl H2).new hD, upd_same, RpL.nil⟩ (fun j H _ _ => trivial) ?_ ?_
  · rintro j x H3 H3' hj ⟨ys, s3, hD3, hr3⟩ ⟨rfl, rfl⟩
    show wipe ((wipe σ [i]).set i (some (fv j))) [i] = wipe σ [i] ∧ _
    rw [set_wipe]
    refine ⟨wipe_set, tYes_t (iteT ?_)⟩
    refine hte j H3' _ hj s3 fun H4 y s4 ry => ⟨ys, s4 _ _ hD3, ?_, ys ++ [y], (s3.trans s4).wrn hD, upd_same, ?_⟩
    · have := RpL.len _ _ hr3
      rw [List.length_map, List.length_range] at this
      exact Nat.lt_of_le_of_lt (show ys.length ≤ 1000000 by omega) (by decide)
    · have tE : TK H4 (upd H4 D (.lst (ys ++ [y]))) := (TK.refl _).wr (s4 _ _ hD3) rfl
      rw [List.range_succ, List.map_append]
      exact RpL.app (RpL.tk ((TK.of s4).trans tE) _ _ hr3) (RpL.cons (Rp.tk tE _ _ ry) RpL.nil)
  · rintro H3 ⟨ys, s3, hD3, hr3⟩
    exact hd H3 ys s3 hD3 hr3
end
end Wn

namespace Wn
open PySem PySem.Spec PyProof.Rows L2
/-- enumerate of a text: each sign in a new pair -/
def ItsE (x : Str) : It :=
  ⟨fun i _ => i < x.cps.size, fun i H v H' => ∃ T c, v = .ref T ∧ H T = none ∧ H' = upd H T (.tup [.int (i : Nat), .str ⟨#[c]⟩]) ∧ x.cps[i]? = some c, fun i _ => x.cps.size ≤ i⟩
theorem turn_enumS {P : Program} {w : World} {K : PySem.W.Frag} {elts : List Expr} {kk : Nat} {tpos : Pos} (e it : Addr) (x : Str) (t : Tok) (ty : String) (hty : ty = "str_ascii_iterator" ∨ ty = "str_iterator") :
    Turn P w K (.Tuple elts kk tpos) (ItsE x) [e, it] e (fun i h => (∃ old, IsEnum h e it ((i : Nat) : Int) old) ∧ h.IsStrIter it ty x t i ∧ e ≠ it) where
  mem := by simp
  obj := fun i h st b hb => by
    obtain ⟨⟨old, he⟩, ⟨o, ho, hc, hd⟩, _⟩ := st
    have e' : b = e ∨ b = it := by simpa using hb
    rcases e' with z | z
    · rw [z]; exact ⟨_, he, fun v q => nomatch q⟩
    · rw [z]; exact ⟨o, ho, fun v q => by rw [hd] at q; cases q⟩
  keep := fun i h h' st k => let ⟨⟨old, he⟩, ⟨o, ho, r⟩, hne⟩ := st; ⟨⟨old, k e (by simp) _ he⟩, ⟨o, k it (by simp) o ho, r⟩, hne⟩
  item := by
    intro X hP hw hK hc i pins s σ H E I hf st hg
    subst hP hw hK
    obtain ⟨⟨old, he⟩, hit, hne⟩ := st
    have hh : X.A.in1.handled = none := I.ok.hd hc
    have hel : e < s.heap.objs.size := Heap.lt_size he
    have hil : it < s.heap.objs.size := by obtain ⟨_, q, _⟩ := hit; exact Heap.lt_size q
    have D : Draws X.prog X.w X.A.in1 it [it] x.cps.size (fun i v => ∃ c u, x.cps[i]? = some c ∧ v = .str ⟨#[c]⟩ u) (fun i h => h.IsStrIter it ty x t i) := by
      rcases hty with z | z
      · rw [z]; exact Draws.strAscii hh it x t
      · rw [z]; exact Draws.strWide hh it x t
    refine wpAny_pyNext_enum_itemD D he hit hg hne (by simpa using hne) fun v h' tk hv ho hit' hT hsz hk => ?_
    obtain ⟨c, u, hcx, rfl⟩ := hv
    refine ⟨_, rfl, wpAny_letOwnedTupleGo_enum (s := { s with heap := h', toks := tk + 1 }) ho fun h'' he' sb => ?_⟩
    have hT2 : h''.get? s.heap.objs.size = some { cls := .type "tuple", data := .seq #[.int i tk, .str ⟨#[c]⟩ u] } := (sb.2 _ (Nat.ne_of_gt hel)).trans hT
    have new : ObjOk X.prog X.w (upd H s.heap.objs.size (.tup [.int (i : Nat), .str ⟨#[c]⟩])) h'' s.heap.objs.size (.tup [.int (i : Nat), .str ⟨#[c]⟩]) :=
      ⟨by show 2 ≤ sizeLine; decide, [.int i tk, .str ⟨#[c]⟩ u], .cons ⟨_, rfl⟩ (.cons ⟨_, rfl⟩ .nil), ⟨_, hT2, rfl, _, rfl⟩⟩
    have I1 : Inv X pins σ (upd H s.heap.objs.size (.tup [.int (i : Nat), .str ⟨#[c]⟩])) { s with heap := h'', toks := tk + 1 } :=
      I.turnedNew (ch := [e, it]) (fun b ob hb q => (sb.2 b (fun z => hb (by simp [z]))).trans (hk b ob (fun z => hb (by simp [z])) (fun z => hb (by simp [z])) q)) hf (Nat.le_refl _) new
    refine ⟨.ref s.heap.objs.size, _, I1, rfl, ⟨_, c, rfl, I.hok.fresh (Nat.le_refl _), rfl, hcx⟩, ⟨⟨.str ⟨#[c]⟩ u, ?_⟩, ?_, hne⟩, fun b hb => ?_⟩
    · have e1 : ((i + 1 : Nat) : Int) = (i : Int) + 1 := by omega
      rw [e1]; exact he'
    · obtain ⟨o, q, r⟩ := hit'
      exact ⟨o, (sb.2 it (Ne.symm hne)).trans q, r⟩
    · have hb' : b < s.heap.objs.size := by
        have e' : b = e ∨ b = it := by simpa using hb
        rcases e' with z | z
        · rw [z]; exact hel
        · rw [z]; exact hil
      rw [upd_ne (Nat.ne_of_lt hb')]
      exact (hf b hb).1
  done := by
    intro X hP hw hK hc i pins s σ H E I hf st hg
    subst hP hw hK
    obtain ⟨⟨old, he⟩, hit, hne⟩ := st
    have hh : X.A.in1.handled = none := I.ok.hd hc
    obtain ⟨f0, f1, f2, f3, f4, f5⟩ := hf it (by simp)
    have D : Draws X.prog X.w X.A.in1 it [it] i (fun i v => False) (fun j h => j = i ∧ h.IsStrIter it ty x t i) := by
      refine ⟨fun _ _ st => let ⟨o, ho, _⟩ := st.2; ⟨o, ho⟩, fun _ _ _ st hk => let ⟨o, ho, r⟩ := st.2; ⟨st.1, o, hk it (by simp) o ho, r⟩, fun j s Q E hj st => absurd st.1 (Nat.ne_of_lt hj), fun s Q E st hE => ?_⟩
      have hx : x.cps[i]? = none := Array.getElem?_eq_none hg
      have st2 := st.2
      rcases hty with z | z
      · rw [z] at st2; exact wpAny_nextOf_ascii_end hh st2 hx hE
      · rw [z] at st2; exact wpAny_nextOf_wide_end hh st2 hx hE
    exact wpAny_pyNext_enum_endD D he ⟨rfl, hit⟩ fun h' eb => ⟨rfl, I.turned (t' := s.toks) (fun b o hb q => eb b o hb q) f0 f1 f3 f4 f5⟩
  self := fun A i s Q E st h => let ⟨⟨_, he⟩, _⟩ := st; wpAny_pyIter_enum he h
def iEnumS (ta : TA) : TI := fun σ H R => ta σ H fun vs H1 => ∃ x, vs = [.str x] ∧ R (ItsE x) H1
theorem pi_enumS {X : Cx} {e : Expr} {ta : TA} {p pos tpos : Pos} {elts : List Expr} {kk : Nat} (hg : Gl X "enumerate") (hm : X.mg "enumerate" = none) (ha : PA X [e] ta) (hs : starEach [e] X.env = [(false, eval e X.env)] := by rfl) :
    PI X (.Tuple elts kk tpos) (.Call (.Name "enumerate" p) [e] [] pos) (iEnumS ta) := by
  refine ⟨fun pins s σ H R I h => ?_⟩
  refine Call_ (ld_blt I hg hm boot_enumerate (PyProof.Rows.callWith_type1 (thn (ha.run pos pins s σ H _ I h) fun us s1 ⟨vs, H1, I1, r1, q1⟩ => ?_) hs rfl))
  obtain ⟨x, ex, q⟩ := q1
  subst ex
  cases r1 with
  | cons r rr =>
    cases rr
    obtain ⟨t, rfl⟩ := r
    refine call_enumerate_str fun h' he hit hsz hk => wpAny_pyIter_enum he ?_
    have I2 : Inv X pins σ H1 { s1 with heap := h' } := I1.kept (t' := s1.toks) hk
    refine ⟨s1.heap.objs.size + 1, [s1.heap.objs.size + 1, s1.heap.objs.size], _, _, H1, rfl, I2, turn_enumS (s1.heap.objs.size + 1) s1.heap.objs.size x t (strIterType x) ?_, ⟨⟨.none, he⟩, hit, Nat.succ_ne_self _⟩, fun b hb => ?_, q⟩
    · unfold strIterType
      split
      · exact .inl rfl
      · exact .inr rfl
    have e' : b = s1.heap.objs.size + 1 ∨ b = s1.heap.objs.size := by simpa using hb
    have hle : s1.heap.objs.size ≤ b := by
      rcases e' with z | z
      · rw [z]; exact Nat.le_add_right _ _
      · rw [z]; exact Nat.le_refl _
    exact I1.fpOk hle (I1.hok.fresh hle)
theorem walk_enumS {x : Str} : Walk (ItsE x) x.cps.size (fun _ => True) (fun i H v H' => ∃ T c, v = .ref T ∧ H T = none ∧ H' = upd H T (.tup [.int (i : Nat), .str ⟨#[c]⟩]) ∧ x.cps[i]? = some c) :=
  ⟨fun _ _ hi _ => hi, fun _ _ => Nat.le_refl _, fun _ _ _ _ _ _ y => y⟩
end Wn

namespace Wn
open PySem PySem.Spec PyProof.Rows L2
section
open AutoSeq1 (wpAny_loadPart')
theorem drawsTuple {prog : Program} {w : World} {A : Around} (hh : A.handled = none) (it l : Addr) (hne : l ≠ it) (items : Array Value) :
    Draws prog w A it [it, l] items.size (fun i v => items[i]? = some v) (fun i h => h.IsTupleIter it l i ∧ h.IsTuple l items) where
  live := fun _ _ st => let ⟨o, ho, _⟩ := st.1; ⟨o, ho⟩
  frame := fun _ _ _ st hk => ⟨st.1.at fun o e => hk it (by simp) o e, let ⟨o, ho, r⟩ := st.2; ⟨o, hk l (by simp) o ho, r⟩⟩
  item := fun i s Q E hi st hQ => by
    refine RZ.nextOf_tuple_item st.1 st.2 (x := items[i]) (by simp [hi]) fun h' hit' hs' => ?_
    exact hQ _ h' s.toks (by simp [hi]) ⟨hit', let ⟨o, ho, r⟩ := st.2; ⟨o, (hs'.2 l hne).trans ho, r⟩⟩ hs'
  done := fun s Q E st hE => RZ.nextOf_tuple_end hh st.1 st.2 (by simp) hE
theorem meets_enumerate_newT (l : Addr) (items : Array Value) (n : Nat) (dct : Option Addr) (sl : Array (Option Value)) :
    Meets (Builtin.«enumerate.__new__» ⟨[.type "enumerate", .ref l], []⟩) (fun _ R s => s.heap.get? l = some { cls := .type "tuple", dict := dct, data := .seq items n, slots := sl } ∧
      R (.ok (.ret (.ref (s.heap.push { cls := .type "tuple_iterator", data := .fields #[.ref l, .int 0 0] }).objs.size)))
        { s with heap := (s.heap.push { cls := .type "tuple_iterator", data := .fields #[.ref l, .int 0 0] }).push { cls := .type "enumerate", data := .fields #[.none, .bool false, .ref s.heap.objs.size, rawInt 0, .none, .none] } }) :=
  .of_wp fun prog w A R s h => by
    obtain ⟨hp, g, d, tk, os⟩ := s; obtain ⟨hl, h⟩ := h
    have hsub := sub_enumerate
    have hL : Heap.IsTuple (Shared.heap ⟨hp, g, d, tk, os⟩) l items := ⟨_, hl, rfl, n, rfl⟩
    wp_walk using wpAny_loadPart' hl
    refine wpAny_stack_any fun st => wpAny_pure ?_
    split
    · rename_i c _ _ _ _ _
      cases (c == Value.type "enumerate")
      · wp_walk using wpAny_loadPart' hl, wpAny_pyIter_tuple hL
        exact ⟨_, rfl, h⟩
      · wp_walk using wpAny_loadPart' hl, wpAny_pyIter_tuple hL
        exact ⟨_, rfl, h⟩
    · wp_walk using wpAny_loadPart' hl, wpAny_pyIter_tuple hL
      exact ⟨_, rfl, h⟩
theorem call_enumerate_tuple {prog : Program} {w : World} {A : Around} {E : Value → Shared → Prop} {s : Shared} {l : Addr} {items : Array Value} {Q : Value → Shared → Prop} (hL : s.heap.IsTuple l items)
    (h : ∀ h', IsEnum h' (s.heap.objs.size + 1) s.heap.objs.size 0 .none → h'.IsTupleIter s.heap.objs.size l 0 → h'.objs.size = s.heap.objs.size + 2 →
      (∀ b o, s.heap.get? b = some o → h'.get? b = some o) → Q (.ref (s.heap.objs.size + 1)) { s with heap := h' }) :
    wpAny (model prog w) A (call (.type "enumerate") [.ref l]) Q E s := by
  obtain ⟨⟨c, dct, dt, sl⟩, hl, hc, n, hd⟩ := hL
  replace hc : c = .type "tuple" := hc
  replace hd : dt = .seq items n := hd
  subst hc hd
  refine callType_new F.called_enumerate (by decide) (F.typeCall_enumerate_1 _) (F.newCall_enumerate_1 _) (fun obj => F.args_object_init_2 obj _) F.entry_enumerate_new
    (meets_enumerate_newT l items n dct sl) ⟨hl, ?_⟩
  have hz : (s.heap.push { cls := .type "tuple_iterator", data := .fields #[.ref l, .int 0 0] }).objs.size = s.heap.objs.size + 1 := Heap.size_push ..
  show _ ∧ _
  rw [hz]
  have he : IsEnum ((s.heap.push { cls := .type "tuple_iterator", data := .fields #[.ref l, .int 0 0] }).push
      { cls := .type "enumerate", data := .fields #[.none, .bool false, .ref s.heap.objs.size, rawInt 0, .none, .none] }) (s.heap.objs.size + 1) s.heap.objs.size 0 .none := by
    have := Heap.get?_push_size (s.heap.push { cls := .type "tuple_iterator", data := .fields #[.ref l, .int 0 0] })
      (o := { cls := .type "enumerate", data := .fields #[.none, .bool false, .ref s.heap.objs.size, rawInt 0, .none, .none] }) rfl
    rw [hz] at this; exact this
  refine ⟨⟨_, he, rfl⟩, h _ he ⟨_, Heap.get?_push_of_some _ (Heap.get?_push_size _ rfl), rfl, rfl⟩ (by rw [Heap.size_push, hz]) fun b o x => Heap.get?_push_of_some _ (Heap.get?_push_of_some _ x)⟩
end
/-- enumerate of a tuple: each item in a new pair -/
def IttE (K : PySem.W.Frag) (a : Addr) : It :=
  ⟨fun i H => ∃ (xs : List V) (x : V), SqT K H a xs ∧ xs[i]? = some x, fun i H v H' => ∃ T x, v = .ref T ∧ H T = none ∧ H' = upd H T (.tup [.int (i : Nat), x]) ∧ ∀ xs, SqT K H a xs → xs[i]? = some x, fun i H => ∃ xs : List V, SqT K H a xs ∧ xs.length ≤ i⟩
theorem turn_enumT {P : Program} {w : World} {K : PySem.W.Frag} {elts : List Expr} {kk : Nat} {tpos : Pos} (a e it : Addr) :
    Turn P w K (.Tuple elts kk tpos) (IttE K a) [e, it] e (fun i h => (∃ old, IsEnum h e it ((i : Nat) : Int) old) ∧ h.IsTupleIter it a i ∧ e ≠ it) where
  mem := by simp
  obj := fun i h st b hb => by
    obtain ⟨⟨old, he⟩, ⟨o, ho, hc, hd⟩, _⟩ := st
    have e' : b = e ∨ b = it := by simpa using hb
    rcases e' with z | z
    · rw [z]; exact ⟨_, he, fun v q => nomatch q⟩
    · rw [z]; exact ⟨o, ho, fun v q => by rw [hd] at q; cases q⟩
  keep := fun i h h' st k => let ⟨⟨old, he⟩, hi, hne⟩ := st; ⟨⟨old, k e (by simp) _ he⟩, hi.at fun o q => k it (by simp) o q, hne⟩
  item := by
    intro X hP hw hK hc i pins s σ H E I hf st hg
    subst hP hw hK
    obtain ⟨⟨old, he⟩, hit, hne⟩ := st
    obtain ⟨xs, x, hq, hx⟩ := hg
    obtain ⟨its, rv, p, hz⟩ := I.tuple hq
    obtain ⟨u, hu, ru⟩ := rv.get hx
    have hh : X.A.in1.handled = none := I.ok.hd hc
    have hel : e < s.heap.objs.size := Heap.lt_size he
    have hil : it < s.heap.objs.size := by obtain ⟨_, q, _⟩ := hit; exact Heap.lt_size q
    have p' : s.heap.IsTuple a its.toArray := p
    have hai : a ≠ it := fun z => by
      obtain ⟨o, ho, hc1, _⟩ := hit
      obtain ⟨o2, ho2, hc2, _⟩ := p'
      rw [z, ho] at ho2
      cases ho2
      rw [hc1] at hc2
      exact absurd hc2 (by decide)
    have hae : a ≠ e := fun z => by
      have he' : s.heap.get? e = _ := he
      obtain ⟨o2, ho2, hc2, _⟩ := p'
      rw [z, he'] at ho2
      cases ho2
      have hc3 : Value.type "enumerate" = Value.type "tuple" := hc2
      exact absurd hc3 (by decide)
    have D := drawsTuple (prog := X.prog) (w := X.w) (A := X.A.in1) hh it a hai its.toArray
    refine wpAny_pyNext_enum_itemD D he ⟨hit, p'⟩ (by have := (List.getElem?_eq_some_iff.mp hu).1; simpa using this) hne (by simp [hne, Ne.symm hae]) fun v h' tk hv ho hit' hT hsz hk => ?_
    obtain rfl : v = u := by
      have hv : its.toArray[i]? = some v := hv
      rw [List.getElem?_toArray, hu] at hv
      exact (Option.some.inj hv).symm
    refine ⟨_, rfl, wpAny_letOwnedTupleGo_enum (s := { s with heap := h', toks := tk + 1 }) ho fun h'' he' sb => ?_⟩
    have hT2 : h''.get? s.heap.objs.size = some { cls := .type "tuple", data := .seq #[.int i tk, v] } := (sb.2 _ (Nat.ne_of_gt hel)).trans hT
    have new : ObjOk X.prog X.w (upd H s.heap.objs.size (.tup [.int (i : Nat), x])) h'' s.heap.objs.size (.tup [.int (i : Nat), x]) :=
      ⟨by show 2 ≤ sizeLine; decide, [.int i tk, v], .cons ⟨_, rfl⟩ (.cons ru .nil), ⟨_, hT2, rfl, _, rfl⟩⟩
    have I1 : Inv X pins σ (upd H s.heap.objs.size (.tup [.int (i : Nat), x])) { s with heap := h'', toks := tk + 1 } :=
      I.turnedNew (ch := [e, it]) (fun b ob hb q => (sb.2 b (fun z => hb (by simp [z]))).trans (hk b ob (fun z => hb (by simp [z])) (fun z => hb (by simp [z])) q)) hf (Nat.le_refl _) new
    refine ⟨.ref s.heap.objs.size, _, I1, rfl, ⟨_, x, rfl, I.hok.fresh (Nat.le_refl _), rfl, fun ys hy => by rw [I.tuple_inj hy hq]; exact hx⟩, ⟨⟨v, ?_⟩, hit'.1.at fun o q => (sb.2 it (Ne.symm hne)).trans q, hne⟩, fun b hb => ?_⟩
    · have e1 : ((i + 1 : Nat) : Int) = (i : Int) + 1 := by omega
      rw [e1]; exact he'
    · have hb' : b < s.heap.objs.size := by
        have e' : b = e ∨ b = it := by simpa using hb
        rcases e' with z | z
        · rw [z]; exact hel
        · rw [z]; exact hil
      rw [upd_ne (Nat.ne_of_lt hb')]
      exact (hf b hb).1
  done := by
    intro X hP hw hK hc i pins s σ H E I hf st hg
    subst hP hw hK
    obtain ⟨⟨old, he⟩, hit, hne⟩ := st
    obtain ⟨xs, hq, hx⟩ := hg
    obtain ⟨its, rv, p, hz⟩ := I.tuple hq
    have hh : X.A.in1.handled = none := I.ok.hd hc
    obtain ⟨f0, f1, f2, f3, f4, f5⟩ := hf it (by simp)
    have hl := rv.length
    have p' : s.heap.IsTuple a its.toArray := p
    have D : Draws X.prog X.w X.A.in1 it [it, a] i (fun i v => False) (fun j h => j = i ∧ h.IsTupleIter it a i ∧ h.IsTuple a its.toArray) := by
      refine ⟨fun _ _ st => let ⟨o, ho, _⟩ := st.2.1; ⟨o, ho⟩, fun _ _ _ st hk => ⟨st.1, st.2.1.at fun o e => hk it (by simp) o e, let ⟨o, ho, r⟩ := st.2.2; ⟨o, hk a (by simp) o ho, r⟩⟩, fun j s Q E hj st => absurd st.1 (Nat.ne_of_lt hj), fun s Q E st hE => ?_⟩
      exact RZ.nextOf_tuple_end hh st.2.1 st.2.2 (by simp; omega) hE
    exact wpAny_pyNext_enum_endD D he ⟨rfl, hit, p'⟩ fun h' eb => ⟨rfl, I.turned (t' := s.toks) (fun b o hb q => eb b o hb q) f0 f1 f3 f4 f5⟩
  self := fun A i s Q E st h => let ⟨⟨_, he⟩, _⟩ := st; wpAny_pyIter_enum he h
def iEnumT (K : PySem.W.Frag) (ta : TA) : TI := fun σ H R => ta σ H fun vs H1 => ∃ a xs, vs = [.ref a] ∧ SqT K H1 a xs ∧ R (IttE K a) H1
theorem pi_enumT {X : Cx} {e : Expr} {ta : TA} {p pos tpos : Pos} {elts : List Expr} {kk : Nat} (hg : Gl X "enumerate") (hm : X.mg "enumerate" = none) (ha : PA X [e] ta) (hs : starEach [e] X.env = [(false, eval e X.env)] := by rfl) :
    PI X (.Tuple elts kk tpos) (.Call (.Name "enumerate" p) [e] [] pos) (iEnumT X.K ta) := by
  refine ⟨fun pins s σ H R I h => ?_⟩
  refine Call_ (ld_blt I hg hm boot_enumerate (PyProof.Rows.callWith_type1 (thn (ha.run pos pins s σ H _ I h) fun us s1 ⟨vs, H1, I1, r1, q1⟩ => ?_) hs rfl))
  obtain ⟨a, xs, ex, hq, q⟩ := q1
  subst ex
  cases r1 with
  | cons r rr =>
    cases rr
    cases r
    obtain ⟨its, rv, p', hz⟩ := I1.tuple hq
    refine call_enumerate_tuple p' fun h' he hit hsz hk => wpAny_pyIter_enum he ?_
    have I2 : Inv X pins σ H1 { s1 with heap := h' } := I1.kept (t' := s1.toks) hk
    refine ⟨s1.heap.objs.size + 1, [s1.heap.objs.size + 1, s1.heap.objs.size], _, _, H1, rfl, I2, turn_enumT a (s1.heap.objs.size + 1) s1.heap.objs.size, ⟨⟨.none, he⟩, hit, Nat.succ_ne_self _⟩, fun b hb => ?_, q⟩
    have e' : b = s1.heap.objs.size + 1 ∨ b = s1.heap.objs.size := by simpa using hb
    have hle : s1.heap.objs.size ≤ b := by
      rcases e' with z | z
      · rw [z]; exact Nat.le_add_right _ _
      · rw [z]; exact Nat.le_refl _
    exact I1.fpOk hle (I1.hok.fresh hle)
theorem walk_enumT {K : PySem.W.Frag} {a : Addr} {xs : List V} : Walk (IttE K a) xs.length (fun H => SqT K H a xs) (fun i H v H' => ∃ T x, v = .ref T ∧ H T = none ∧ H' = upd H T (.tup [.int (i : Nat), x]) ∧ xs[i]? = some x) :=
  ⟨fun i H hi g => ⟨xs, xs[i], g, List.getElem?_eq_getElem hi⟩, fun H g => ⟨xs, g, Nat.le_refl _⟩, fun i H v H' hi g y => by
    obtain ⟨T, x, e1, e2, e3, e4⟩ := y
    exact ⟨T, x, e1, e2, e3, e4 xs g⟩⟩
/-- str of a number or a text -/
theorem call_strU {X : Cx} : CallR X (.type "str") (fun xs H Q => (∃ i : Int, xs = [.int i] ∧ i.natAbs.log2 < 1920 ∧ Q (.str (toString i)) H) ∨ ∃ a, xs = [.str a] ∧ Q (.str a) H) := by
  intro pins s σ H xs us Q I r h
  rcases h with h | h
  · exact call_str_int pins s σ H xs us Q I r h
  · exact SkE.call_str_str pins s σ H xs us Q I r h
/-- a text no times or once -/
theorem op_rep_str {X : Cx} : OpR X (binaryOp .Mult) (fun x y H Q => ∃ (a : Str) (k : Int), x = .str a ∧ y = .int k ∧ ((k = 0 ∧ Q (.str Str.empty) H) ∨ (k = 1 ∧ Q (.str a) H))) := by
  intro pins s σ H x y v u Q I rx ry h
  obtain ⟨a, k, rfl, rfl, h⟩ := h
  obtain ⟨t, rfl⟩ := rx
  obtain ⟨t', rfl⟩ := ry
  rcases h with ⟨rfl, q⟩ | ⟨rfl, q⟩
  · exact PySem.P.mul_str_none (by decide) (by decide) ⟨.str Str.empty, H, I.tok _, ⟨_, rfl⟩, q⟩
  · refine PySem.P.mul_str (by decide) (fun _ h => absurd h (by simp)) (fun _ h => absurd h (by simp)) ?_
    rw [if_neg (by decide), if_pos (by simp)]
    exact ⟨.str a, H, I, ⟨_, rfl⟩, q⟩
end Wn

namespace Wn
open PySem L2
open SX (S S_len S_cat S_beq_eq join_S)
theorem joinK {X : Cx} {K : PySem.W.Frag} {o e : Expr} {to te : TE} {apos pos : Pos} (hK : X.K = K) (ho : PE X o to) (he : PE X e te) (hs : starEach [e] X.env = [(false, eval e X.env)] := by rfl) (hbase : attributeBase o "join" X.env (eval o X.env) = eval o X.env := by rfl) (hline : (apos.endLine == pos.line) = true := by rfl) :
    PE X (.Call (.Attribute o "join" apos) [e] [] pos) (tM1 (fun x xs H Q => ∃ a p, ∃ ys : List Str, x = .str a ∧ xs = [.ref p] ∧ (SqL K H p (ys.map V.str) ∨ SqT K H p (ys.map V.str)) ∧
      (ys.map (·.length)).sum + ys.length * a.length ≤ 16777216 ∧ Q (.str (Txt.join a ys)) H) to te) := hK ▸ pe_join ho he hs hbase hline
theorem drop_min {cs : List Nat} {a b : Nat} : (cs.drop (min a cs.length)).take (min b cs.length - min a cs.length) = (cs.drop a).take (b - a) := by
  by_cases h : a ≤ cs.length
  · rw [Nat.min_eq_left h]
    by_cases h2 : b ≤ cs.length
    · rw [Nat.min_eq_left h2]
    · rw [Nat.min_eq_right (by omega), List.take_of_length_le (by rw [List.length_drop]; exact Nat.le_refl _), List.take_of_length_le (by rw [List.length_drop]; omega)]
  · rw [show min a cs.length = cs.length by omega, List.drop_of_length_le (Nat.le_refl _), List.drop_of_length_le (show cs.length ≤ a by omega), List.take_nil, List.take_nil]
theorem cutS_S (cs : List Nat) (a b : Nat) : cutS (S cs) (some (a : Int)) (some (b : Int)) = S ((cs.drop a).take (b - a)) := by
  unfold cutS
  rw [HT.sIx_nat, HT.sIx_nat, S_len, drop_min]
theorem joinL_nil : ∀ ls : List (List Nat), TL.joinL [] ls = ls.flatten
  | [] => rfl
  | [p] => by
    show p = List.flatten [p]
    simp
  | p :: q :: r => by
    show p ++ ([] ++ TL.joinL [] (q :: r)) = _
    rw [List.nil_append, joinL_nil (q :: r)]
    rfl
/-- a list of signs, joined -/
theorem join_signs (cs : List Nat) : Txt.join (S []) (cs.map fun c => S [c]) = S cs := by
  rw [show (cs.map fun c => S [c]) = (cs.map fun c => [c]).map S by rw [List.map_map]; rfl, join_S, joinL_nil]
  congr 1
  induction cs with
  | nil => rfl
  | cons c cs ih =>
    show [c] ++ (cs.map fun c => [c]).flatten = c :: cs
    rw [ih]
    rfl
theorem sum_signs (cs : List Nat) : (((cs.map fun c => S [c]).map (·.length)).sum : Nat) = cs.length := by
  induction cs with
  | nil => rfl
  | cons c cs ih =>
    rw [List.map_cons, List.map_cons, List.sum_cons, ih, List.length_cons, S_len, List.length_singleton]
    omega
def OkSign (c : Nat) : Prop := 32 ≤ c ∧ c ≤ 126 ∧ c ≠ 37
def spSign : Sp := fun vs H Q _ => ∃ (d f : Addr) (n : Int), vs = [.ref d] ∧ Deck H d f n ∧ n < 2 ^ 60 ∧
  ∀ (c : Nat) (H' : Hp), OkSign c → Kp [d] H H' → Deck H' d f (n + 1) → Q (.str (S [c])) H'
def spText : Sp := fun vs H Q _ => ∃ (d f : Addr) (n most : Int), vs = [.ref d, .int most] ∧ Deck H d f n ∧ n < 2 ^ 59 ∧ 0 ≤ most ∧ most ≤ 100000 ∧
  ∀ (cs : List Nat) (H' : Hp), (cs.length : Int) ≤ most → (∀ c ∈ cs, OkSign c) → Kp [d] H H' → Deck H' d f (n + 1 + most) → Q (.str (S cs)) H'
end Wn

namespace Wn
open PySem L2
def top (i : Nat) : Stmt := PySem.Challenge.pw_wrapnets_k15_whole_heads_there_and_back.main.body.getD i (.Pass ⟨0, 0, 0, 0⟩)
abbrev sMixed : Stmt := top 17
abbrev sDeck : Stmt := top 18
abbrev sNext : Stmt := top 19
abbrev sSame : Stmt := top 21
section
variable {P : Program} {w : World} {K : PySem.W.Frag} {mg : Str → Option Value} {base : Heap}
theorem scMixed : FnScope ["_law_cell", "_law_at", "_law_one"] ["_law_cell", "_law_at"] (defScope sMixed) := ⟨rfl, rfl, rfl, by decide +kernel, rfl, by decide +kernel, by decide +kernel⟩
theorem ok_mixed {f : Addr} {fd : FuncData} (F : Fun K "_law_mixed" "_law_mixed" sMixed f fd) : FnOk P w K mg base CX0 1 f fd ["_law_cell", "_law_at"] spMixed := by
  refine F.ok scMixed (fun vs H Q E h => ?_) (fun cdv A outer s H vs Q E hr h => ?_)
  · obtain ⟨c, a, rfl, _⟩ := h
    rfl
  · obtain ⟨c, a, rfl, ha, hb, k⟩ := h
    refine ⟨_, pss_cons (ps_set (i := 2) scMixed.nd rfl (Or.inl rfl) (pe_op op_mod (pe_op op_add (pe_op op_add (pe_op op_mul (pe_op op_mod (pv 0) pe_int) pe_int)
      (pe_op op_mul (pe_op op_mul (pe_op op_add (pv 1) pe_int) (pe_op op_add (pv 1) pe_int)) pe_int)) pe_int) pe_int))
      (pss_one (ps_ret (pe_op op_fdiv (pe_op op_mod (pe_op op_mul (pv 2) (pv 2)) pe_int) pe_int))), ?_⟩
    refine ⟨_, rfl, _, _, rfl, rfl, (by show (0 : Int) < 2147483629; decide), _, _, rfl, rfl, .inr ⟨by decide, by decide⟩, _, rfl, _, _, rfl, rfl, _, rfl, _, _, rfl, rfl, _, _, rfl, rfl, .inl ⟨by omega, by omega⟩, _, _, rfl, rfl, .inr ⟨by decide, by decide⟩,
      _, _, rfl, rfl, _, _, rfl, rfl, _, _, rfl, rfl, (by show (0 : Int) < 2147483647; decide), ?_⟩
    refine ⟨_, rfl, _, rfl, _, _, rfl, rfl, .inl ⟨?_, ?_⟩, _, _, rfl, rfl, (by show (0 : Int) < 2147483629; decide), _, _, rfl, rfl, ⟨by decide, by decide⟩, k _⟩
    · have := Int.emod_nonneg (c % 2147483629 * 48271 + (a + 1) * (a + 1) * 7919 + 11) (show (2147483647 : Int) ≠ 0 by decide)
      omega
    · have := Int.emod_lt_of_pos (c % 2147483629 * 48271 + (a + 1) * (a + 1) * 7919 + 11) (show (0 : Int) < 2147483647 by decide)
      omega
theorem scNext : FnScope ["_law_deck_here", "_law_many", "_law_at"] ["_law_deck_here", "_law_many"] (defScope sNext) := ⟨rfl, rfl, rfl, by decide +kernel, rfl, by decide +kernel, by decide +kernel⟩
theorem ok_next {f : Addr} {fd : FuncData} (F : Fun K "_law_next" "_law_next" sNext f fd) (zL : mg "len" = none) (M : Cd P w K mg base 1 "_law_mixed" ["_law_cell", "_law_at"] spMixed) : FnOk P w K mg base CX0 2 f fd ["_law_deck_here", "_law_many"] spNext := by
  obtain ⟨fM, fdM, GM, mM, kM, bM⟩ := M
  refine F.ok scNext (fun vs H Q E h => ?_) (fun cdv A outer s H vs Q E hr h => ?_)
  · obtain ⟨d, f, m, n, rfl, _⟩ := h
    rfl
  · obtain ⟨d, f, m, n, rfl, hm, hn, ⟨a, wh, xs, hd, hf, a0, an, hx⟩, k⟩ := h
    have ndf : f ≠ d := fun z => by
      rw [z, hd] at hf
      have := congrArg (fun o => match o with | some (HO.lst (_ :: _ :: .ref _ :: _)) => true | _ => false) hf
      simp only at this
      cases xs with
      | nil => cases hf
      | cons x xs => cases xs with
        | nil => cases hf
        | cons y xs => cases xs with
          | nil => cases hf
          | cons z xs => cases hf
    refine ⟨_, pss_cons (ps_set (i := 2) scNext.nd rfl (Or.inl rfl) (pe_ix ix_list (pv 0) pe_int (fun _ _ => rfl)))
      (pss_cons (ps_asg (pe_op op_add (pv 2) pe_int) (pg_sub (pv 0) pe_int set_list))
      (pss_cons (ps_if (pt_cmpR op_lt (pv 2) (pe_callB call_len (by rfl) zL PySem.boot_len (pa_cons (pe_ix ix_list (pv 0) pe_int (fun _ _ => rfl)) pa_nil)) (nomark _))
        (pss_one (ps_ret (pe_op op_mod (pe_ix ix_list (pe_ix ix_list (pv 0) pe_int (fun _ _ => rfl)) (pv 2) (fun _ _ => rfl)) (pv 1)))) pss_nil)
      (pss_one (ps_ret (pe_op op_mod (pe_call GM hr rfl mM kM bM .nil pass0 (pa_cons (pe_ix ix_list (pv 0) pe_int (fun _ _ => rfl)) (pa_cons (pv 2) pa_nil))) (pv 1)))))), ?_⟩
    have hd2 : upd H d (.lst [.int (a + 1), .int wh, .ref f]) d = some (.lst [.int (a + 1), .int wh, .ref f]) := upd_same
    have hf2 : upd H d (.lst [.int (a + 1), .int wh, .ref f]) f = some (.lst (xs.map V.int)) := (upd_ne ndf).trans hf
    have hk : Kp [d] H (upd H d (.lst [.int (a + 1), .int wh, .ref f])) := (Kp.refl _ _).wr (List.mem_singleton.mpr rfl)
    have hD : Deck (upd H d (.lst [.int (a + 1), .int wh, .ref f])) d f (n + 1) := ⟨a + 1, wh, xs, hd2, hf2, by omega, by omega, hx⟩
    refine ⟨_, rfl, d, _, _, .int a, rfl, rfl, SqL.of hd, rfl, ?_⟩
    refine ⟨_, rfl, _, _, rfl, rfl, _, rfl, d, _, _, 0, rfl, rfl, hd, rfl, ?_⟩
    refine ⟨_, rfl, _, rfl, d, _, _, .ref f, rfl, rfl, SqL.of hd2, rfl, _, _, rfl, .inl ⟨_, SqL.of hf2, rfl⟩, _, _, rfl, rfl, _, rfl, ?_⟩
    refine ite2 (fun hl => ?_) (fun _ => ?_)
    · have hl := of_decide_eq_true hl
      rw [List.length_map] at hl
      have hj : a.toNat < xs.length := by omega
      have ha : ((a.toNat : Nat) : Int) = a := by omega
      refine ⟨_, rfl, d, _, _, .ref f, rfl, rfl, SqL.of hd2, rfl, _, rfl, f, _, _, .int (xs[a.toNat]), rfl, rfl, SqL.of hf2, ?_, _, rfl, _, _, rfl, rfl, hm, ?_⟩
      · have := atI_nat (xs := xs.map V.int) (j := a.toNat) (v := .int (xs[a.toNat])) (by simp [hj])
        rw [ha] at this
        exact this
      · exact k _ _ (Int.emod_nonneg _ (by omega)) (Int.emod_lt_of_pos _ hm) hk hD
    · refine ⟨_, rfl, d, _, _, .int wh, rfl, rfl, SqL.of hd2, rfl, _, rfl, wh, a, rfl, by omega, by omega, fun r => ?_⟩
      exact ⟨_, rfl, _, _, rfl, rfl, hm, k _ _ (Int.emod_nonneg _ (by omega)) (Int.emod_lt_of_pos _ hm) hk hD⟩
end
end Wn
namespace Wn
open PySem L2
section
variable {P : Program} {w : World} {K : PySem.W.Frag} {mg : Str → Option Value} {base : Heap}
theorem scDeck : FnScope ["_law_script", "_law_found", "_law_whole", "_law_k", "_law_rest", "_law_at"] ["_law_script"] (defScope sDeck) := ⟨rfl, rfl, rfl, by decide +kernel, rfl, by decide +kernel, by decide +kernel⟩
def restOf (σ : L2.St) (_ : Hp) : Nat := match σ[4]? with | some (some (V.int r)) => r.toNat | _ => 0
theorem ok_deck {f : Addr} {fd : FuncData} (F : Fun K "_law_deck" "_law_deck" sDeck f fd) (zL : mg "len" = none) (zR : mg "range" = none) (zM : mg "min" = none) (M : Cd P w K mg base 1 "_law_mixed" ["_law_cell", "_law_at"] spMixed) : FnOk P w K mg base CX0 2 f fd ["_law_script"] (spDeck K) := by
  obtain ⟨fM, fdM, GM, mM, kM, bM⟩ := M
  refine F.ok scDeck (fun vs H Q E h => ?_) (fun cdv A outer s H vs Q E hr h => ?_)
  · obtain ⟨a, ns, rfl, _⟩ := h
    rfl
  · obtain ⟨a, ns, rfl, hS, hlen, k⟩ := h
    refine ⟨_, pss_cons (ps_set (i := 1) scDeck.nd rfl (Or.inl rfl) (pe_lst pa_nil)) (pss_cons (ps_set (i := 2) scDeck.nd rfl (Or.inl rfl) (pe_callB call_len (by rfl) zL PySem.boot_len (pa_cons (pv 0) pa_nil)))
      (pss_cons (ps_for PassesOwn.never rfl (pi_range1 rfl zR (pa_cons (pe_callB (call_min2 rfl) (by rfl) zM (by decide +kernel) (pa_cons (pe_callB call_len (by rfl) zL PySem.boot_len (pa_cons (pv 0) pa_nil)) (pa_cons pe_int pa_nil))) pa_nil)) (pg_name (i := 3) scDeck.nd rfl (Or.inr rfl))
        (pss_cons (ps_set (i := 4) scDeck.nd rfl (Or.inr rfl) (pe_ix ix_list (pv 0) (pv 3) (fun _ _ => rfl)))
        (pss_cons (ps_if (pt_cmpR op_ge (pv 4) (pe_op op_pow pe_int pe_int) (nomark _))
          (pss_one (ps_while PassesOwn.never (PW.pt (pw_and (pt_cmpR op_gt (pv 4) pe_int (nomark _)) (pw_and1 (pt_cmpR op_lt (pe_callB call_len (by rfl) zL PySem.boot_len (pa_cons (pv 1) pa_nil)) pe_int (nomark _)))))
            (pss_cons (ps_expr (pe_bm PySem.F.plainAttrs_list PySem.F.slot_list_append PySem.F.type_list_append mt_append (pv 1) (pa_cons (pe_op op_mod (pv 4) pe_int) pa_nil)))
            (pss_one (ps_set (i := 4) scDeck.nd rfl (Or.inr rfl) (pe_op op_fdiv (pv 4) pe_int))))))
          (pss_one (ps_expr (pe_bm PySem.F.plainAttrs_list PySem.F.slot_list_extend PySem.F.type_list_extend mt_extend (pv 1) (pa_cons
            (pe_lc (own := [("_law_at", 5)]) (g := gName 5) (tt := tYes) rfl scDeck.nd (pi_range1 rfl zR (pa_cons pe_int pa_nil)) (blkOk_by (N := ["_law_script", "_law_found", "_law_whole", "_law_k", "_law_rest", "_law_at"]) (sc := defScope sDeck) (by decide +kernel))
              (fun _ _ _ _ _ => pg_name (i := 5) scDeck.nd rfl (Or.inl rfl)) (fun _ _ _ _ _ => pts_nil)
              (fun _ _ _ _ _ => pe_call GM hr rfl mM kM bM .nil pass0 (pa_cons (pv 4) (pa_cons (pe_op op_add (pe_op op_mul pe_int (pv 3)) (pv 5)) pa_nil)))) pa_nil)))))
        (pss_one (ps_set (i := 2) scDeck.nd rfl (Or.inl rfl) (pe_op op_mod (pe_op op_add (pe_op op_mul (pv 2) pe_int) (pe_ix ix_list (pv 0) (pv 3) (fun _ _ => rfl))) pe_int))))))
      (pss_one (ps_ret (pe_lst (pa_cons pe_int (pa_cons (pv 2) (pa_cons (pv 1) pa_nil)))))))), ?_⟩
    refine ⟨Nat.zero_le _, fun l hl => ?_⟩
    have s0 : Same H (upd H l (.lst [])) := (L2.Same.refl H).new hl
    have hS0 := s0.seq hS
    refine ⟨_, rfl, _, _, rfl, .inl ⟨_, hS0, rfl⟩, ?_⟩
    refine ⟨_, rfl, _, _, rfl, .inl ⟨_, hS0, rfl⟩, _, _, rfl, _, rfl, ?_⟩
    have hn63 : (ns.map V.int).length ≤ 63 := by rw [List.length_map]; exact hlen
    refine ⟨by split <;> omega, by split <;> omega, ?_⟩
    refine for_range (fun i σ H' => ∃ (wh : Int) (v3 v4 v5 : Option V) (xs : List Int), σ = [some (.ref a), some (.ref l), some (.int wh), v3, v4, v5] ∧ Same H H' ∧ H' l = some (.lst (xs.map V.int)) ∧ xs.length ≤ 3000 + 6 * i)
      ⟨_, _, _, _, [], rfl, s0, upd_same, Nat.zero_le _⟩ ?_ ?_
    · rintro i σ H1 hi ⟨wh, v3, v4, v5, xs, rfl, s1, hl1, hxs⟩
      have hi2 : i < ns.length ∧ i < 63 := by
        rw [List.length_map] at hi
        split at hi <;> omega
      have hat : atI (ns.map V.int) (0 + (i : Int)) = some (V.int ns[i]) := by
        rw [Int.zero_add]
        exact atI_nat (by simp [hi2.1])
      have hS1 := s1.seq hS
      -- what is left of a turn
      have fin : ∀ (H2 : Hp) (v4 v5 : Option V) (ys : List Int), Same H H2 → H2 l = some (.lst (ys.map V.int)) → ys.length ≤ 3000 + 6 * (i + 1) → ∃ (wh' : Int) (v3 v4' v5' : Option V) (xs : List Int),
          [some (V.ref a), some (.ref l), some (.int ((wh * 31 + ns[i]) % 2147483647)), some (.int (0 + (i : Int))), v4, v5] = [some (.ref a), some (.ref l), some (.int wh'), v3, v4', v5'] ∧ Same H H2 ∧ H2 l = some (.lst (xs.map V.int)) ∧ xs.length ≤ 3000 + 6 * (i + 1) :=
        fun H2 v4 v5 ys a b c => ⟨_, _, _, _, ys, rfl, a, b, c⟩
      refine ⟨_, rfl, _, rfl, a, _, _, _, rfl, rfl, hS1, hat, ?_⟩
      refine ⟨_, rfl, _, _, rfl, rfl, ⟨by decide, by decide, by decide⟩, _, _, rfl, rfl, _, rfl, ?_⟩
      refine ite2 (fun _ => ?_) (fun _ => ?_)
      · refine while_m (fun σ H' => ∃ (r : Int) (xs : List Int), σ = [some (.ref a), some (.ref l), some (.int wh), some (.int (0 + (i : Int))), some (.int r), v5] ∧ Same H H' ∧ H' l = some (.lst (xs.map V.int)) ∧ xs.length ≤ 3000 + 6 * (i + 1)) restOf
          ⟨_, xs, rfl, s1, hl1, by omega⟩ ?_
        rintro m σ H2 hm ⟨r, ys, rfl, s2, hl2, hys⟩
        have hm' : m = r.toNat := hm
        refine ⟨_, rfl, _, _, rfl, rfl, _, rfl, ?_⟩
        refine ite2 (fun hr0 => ?_) (fun _ => ?_)
        · have hr0 := of_decide_eq_true hr0
          refine ⟨_, rfl, _, _, rfl, .inl ⟨_, SqL.of hl2, rfl⟩, _, _, rfl, rfl, _, rfl, ?_⟩
          refine ite2 (fun hb => ?_) (fun _ => ?_)
          · have hb := of_decide_eq_true hb
            rw [List.length_map] at hb
            refine ⟨fun σ' H' => (∃ (r : Int) (xs : List Int), σ' = [some (.ref a), some (.ref l), some (.int wh), some (.int (0 + (i : Int))), some (.int r), v5] ∧ Same H H' ∧ H' l = some (.lst (xs.map V.int)) ∧ xs.length ≤ 3000 + 6 * (i + 1)) ∧ restOf σ' H' < m, fun σ' H' q => ⟨_, q.2, rfl, q.1⟩, ?_⟩
            refine ⟨_, rfl, .inl ⟨rfl, _, SqL.of hl2⟩, _, rfl, _, _, rfl, rfl, (by show (0 : Int) < 1000000; decide), l, _, _, rfl, rfl, hl2, (by rw [List.length_map]; exact Nat.lt_of_le_of_lt (show ys.length ≤ 3000 by omega) (by decide)), ?_⟩
            refine ⟨_, rfl, _, _, rfl, rfl, ⟨by decide, by decide⟩, ?_⟩
            refine ⟨⟨_, ys ++ [r % 1000000], rfl, s2.wrn hl, ?_, ?_⟩, ?_⟩
            · rw [upd_same, List.map_append]
              rfl
            · rw [List.length_append, List.length_singleton]
              omega
            · show (r / 1000000).toNat < m
              omega
          · exact ⟨_, rfl, _, _, rfl, rfl, .inr ⟨by decide, by decide⟩, _, rfl, _, rfl, a, _, _, _, rfl, rfl, s2.seq hS, hat, _, _, rfl, rfl, _, _, rfl, rfl, (by show (0 : Int) < 2147483647; decide), fin H2 _ _ ys s2 hl2 hys⟩
        · exact ⟨_, rfl, _, _, rfl, rfl, .inr ⟨by decide, by decide⟩, _, rfl, _, rfl, a, _, _, _, rfl, rfl, s2.seq hS, hat, _, _, rfl, rfl, _, _, rfl, rfl, (by show (0 : Int) < 2147483647; decide), fin H2 _ _ ys s2 hl2 hys⟩
      · refine ⟨_, rfl, .inl ⟨rfl, _, SqL.of hl1⟩, 6, rfl, by decide, by decide, fun D hD => ?_⟩
        have nDl : l ≠ D := ne_of_none hl1 hD
        refine lc_range (lo := 0) (n := 6) (fun j H' => ∃ ys : List Int, H' D = some (.lst (ys.map V.int)) ∧ ys.length = j ∧ Same H1 H' ) ⟨[], upd_same, rfl, (L2.Same.refl H1).new hD⟩ ?_ ?_
        · rintro j H2 hj ⟨ys, hD2, hys, s2⟩
          refine ⟨rfl, _, rfl, _, rfl, _, _, rfl, rfl, .inl ⟨by decide, by decide⟩, _, rfl, _, _, rfl, rfl, _, _, rfl, by omega, by omega, fun r => ?_⟩
          refine ⟨_, hD2, by rw [List.length_map, hys]; exact Nat.lt_trans hj (by decide), ys ++ [r], ?_, by rw [List.length_append, hys]; rfl, s2.wrn hD⟩
          rw [upd_same, List.map_append]
          rfl
        · rintro H2 ⟨ys, hD2, hys, s2⟩
          refine ⟨l, D, _, _, rfl, rfl, s2 _ _ hl1, hD2, ?_, ?_⟩
          · rw [List.length_map, List.length_map, hys]
            exact Nat.le_trans (show xs.length + 6 ≤ 6000 by omega) (by decide)
          · refine ⟨_, rfl, _, _, rfl, rfl, .inr ⟨by decide, by decide⟩, _, rfl, _, rfl, a, _, _, _, rfl, rfl, ((s1.trans s2).wrn hl).seq hS, hat, _, _, rfl, rfl, _, _, rfl, rfl, (by show (0 : Int) < 2147483647; decide), fin _ _ _ (xs ++ ys) ((s1.trans s2).wrn hl) ?_ ?_⟩
            · rw [upd_same, List.map_append]
            · rw [List.length_append, hys]
              omega
    · rintro σ H1 ⟨wh, v3, v4, v5, xs, rfl, s1, hl1, hxs⟩
      refine ⟨_, rfl, _, rfl, (by show 3 ≤ sizeLine; decide), fun d hd => ?_⟩
      have hn : ns.length ≤ 63 := hlen
      have hxs' : xs.length ≤ 100000 := by
        rw [List.length_map] at hxs
        split at hxs <;> omega
      refine k _ d l (s1.free hd) hl (s1.new hd) ⟨0, wh, xs, upd_same, ?_, Int.le_refl _, Int.le_refl _, hxs'⟩
      rw [upd_ne (ne_of_none hl1 hd)]
      exact hl1
end
end Wn
namespace Wn
open PySem L2
section
variable {P : Program} {w : World} {K : PySem.W.Frag} {mg : Str → Option Value} {base : Heap}
theorem scSame : FnScope ["_law_thing", "_law_due", "_law_k"] ["_law_thing", "_law_due"] (defScope sSame) := ⟨rfl, rfl, rfl, by decide +kernel, rfl, by decide +kernel, by decide +kernel⟩
/-- builtins that same asks -/
structure SameB (mg : Str → Option Value) : Prop where
  isi : mg "isinstance" = none
  tup : mg "tuple" = none
  bl : mg "bool" = none
  str : mg "str" = none
  int : mg "int" = none
  all : mg "all" = none
  len : mg "len" = none
  rng : mg "range" = none
theorem ok_same_step {n : Nat} {f : Addr} {fd : FuncData} (F : Fun K "_law_same" "_law_same" sSame f fd) (B : SameB mg) (mS : mg "_law_same" = some (.ref f)) (kS : PySem.W.keepIn K (.ref f) = true) (bS : Binds K fd ["_law_thing", "_law_due"] [])
    (G : FnOk P w K mg base CX0 n f fd ["_law_thing", "_law_due"] (spSame K n)) : FnOk P w K mg base CX0 (n + 1) f fd ["_law_thing", "_law_due"] (spSame K (n + 1)) := by
  refine F.ok scSame (fun vs H Q E h => ?_) (fun cdv A outer s H vs Q E hr h => ?_)
  · obtain ⟨x, y, d, rfl, _⟩ := h
    rfl
  · obtain ⟨x, y, d, rfl, hx, hy, hd, hz, k⟩ := h
    refine ⟨_, pss_cons (ps_if (pt_val (pe_callB call_isi (by rfl) B.isi (by decide +kernel) (pa_cons (pv 1) (pa_cons (pe_bltn (v := .ty "tuple") (by rfl) B.tup PyProof.Rows.boot_tuple rfl) pa_nil))))
        (pss_cons (ps_if (PW.pt (pw_or (pt_not (pt_val (pe_callB call_isi (by rfl) B.isi (by decide +kernel) (pa_cons (pv 0) (pa_cons (pe_bltn (v := .ty "tuple") (by rfl) B.tup PyProof.Rows.boot_tuple rfl) pa_nil)))))
            (pw_or1 (pt_cmpR op_ne (pe_callB call_len (by rfl) B.len PySem.boot_len (pa_cons (pv 0) pa_nil)) (pe_callB call_len (by rfl) B.len PySem.boot_len (pa_cons (pv 1) pa_nil)) (nomark _)))))
          (pss_one (ps_ret pe_bl)) pss_nil)
        (pss_one (ps_ret (pe_callB (cr_all rfl) (by rfl) B.all (by decide +kernel) (pa_cons
          (pe_lc (own := [("_law_k", 2)]) (g := gName 2) (tt := tYes) rfl scSame.nd (pi_range1 rfl B.rng (pa_cons (pe_callB call_len (by rfl) B.len PySem.boot_len (pa_cons (pv 1) pa_nil)) pa_nil)) (blkOk_by (N := ["_law_thing", "_law_due", "_law_k"]) (sc := defScope sSame) (by decide +kernel))
              (fun _ _ _ _ _ => pg_name (i := 2) scSame.nd rfl (Or.inl rfl)) (fun _ _ _ _ _ => pts_nil)
              (fun _ _ _ _ _ => pe_call G hr rfl mS kS bS .nil pass0 (pa_cons (pe_ix (show IxR _ (rIxT K) from ix_tup) (pv 0) (pv 2) (fun _ _ => rfl)) (pa_cons (pe_ix (show IxR _ (rIxT K) from ix_tup) (pv 1) (pv 2) (fun _ _ => rfl)) pa_nil)))) pa_nil))))) pss_nil)
      (pss_cons (ps_if (PW.pt (pw_or (pt_val (pe_callB call_isi (by rfl) B.isi (by decide +kernel) (pa_cons (pv 1) (pa_cons (pe_bltn (v := .ty "bool") (by rfl) B.bl PyProof.Rows.boot_bool rfl) pa_nil)))) (pw_or1 (pt_cmp (pc_isN (pv 1))))))
        (pss_one (ps_ret (pe_and (pe_cmpR op_eq (pe_callB call_isi (by rfl) B.isi (by decide +kernel) (pa_cons (pv 0) (pa_cons (pe_bltn (v := .ty "bool") (by rfl) B.bl PyProof.Rows.boot_bool rfl) pa_nil))) (pe_callB call_isi (by rfl) B.isi (by decide +kernel) (pa_cons (pv 1) (pa_cons (pe_bltn (v := .ty "bool") (by rfl) B.bl PyProof.Rows.boot_bool rfl) pa_nil))) (nomark _))
          (pe_and (pe_cmpR op_eq (pe_cmp (pc_isN (pv 0)) rfl) (pe_cmp (pc_isN (pv 1)) rfl) (nomark _)) (pe_one (pe_cmpR op_eq (pv 0) (pv 1) (nomark _))))))) pss_nil)
      (pss_cons (ps_if (pt_val (pe_callB call_isi (by rfl) B.isi (by decide +kernel) (pa_cons (pv 1) (pa_cons (pe_bltn (v := .ty "str") (by rfl) B.str PyProof.Rows.boot_str rfl) pa_nil))))
        (pss_one (ps_ret (pe_and (pe_callB call_isi (by rfl) B.isi (by decide +kernel) (pa_cons (pv 0) (pa_cons (pe_bltn (v := .ty "str") (by rfl) B.str PyProof.Rows.boot_str rfl) pa_nil))) (pe_one (pe_cmpR op_eq (pv 0) (pv 1) (nomark _)))))) pss_nil)
      (pss_one (ps_ret (pe_and (pe_callB call_isi (by rfl) B.isi (by decide +kernel) (pa_cons (pv 0) (pa_cons (pe_bltn (v := .ty "int") (by rfl) B.int PyProof.Rows.boot_int rfl) pa_nil)))
        (pe_and (pe_not (pe_callB call_isi (by rfl) B.isi (by decide +kernel) (pa_cons (pv 0) (pa_cons (pe_bltn (v := .ty "bool") (by rfl) B.bl PyProof.Rows.boot_bool rfl) pa_nil)))) (pe_one (pe_cmpR op_eq (pv 0) (pv 1) (nomark _))))))))), ?_⟩
    cases d with
    | none =>
      cases hx
      cases hy
      refine ⟨_, rfl, _, _, _, _, false, rfl, .ty _, .base .non, kit_ty (by decide +kernel), _, rfl, iteF ?_⟩
      refine ⟨_, rfl, _, _, _, _, false, rfl, .ty _, .base .non, kit_ty (by decide +kernel), _, rfl, iteF ?_⟩
      refine ⟨_, rfl, _, rfl, iteT ?_⟩
      refine ⟨_, rfl, _, _, _, _, false, rfl, .ty _, .base .non, kit_ty (by decide +kernel), _, rfl, _, _, _, _, false, rfl, .ty _, .base .non, kit_ty (by decide +kernel), rfl, _, rfl, iteT ?_⟩
      refine ⟨_, rfl, _, rfl, rfl, _, rfl, iteT ?_⟩
      exact ⟨_, rfl, _, rfl, rfl, k _ (L2.Same.refl _)⟩
    | bool b =>
      cases hx
      cases hy
      refine ⟨_, rfl, _, _, _, _, false, rfl, .ty _, .base (.bl _), kit_ty (by decide +kernel), _, rfl, iteF ?_⟩
      refine ⟨_, rfl, _, _, _, _, true, rfl, .ty _, .base (.bl _), kit_ty (by decide +kernel), _, rfl, iteT ?_⟩
      refine ⟨_, rfl, _, _, _, _, true, rfl, .ty _, .base (.bl _), kit_ty (by decide +kernel), _, rfl, _, _, _, _, true, rfl, .ty _, .base (.bl _), kit_ty (by decide +kernel), rfl, _, rfl, iteT ?_⟩
      refine ⟨_, rfl, _, rfl, rfl, _, rfl, iteT ?_⟩
      refine ⟨_, rfl, _, rfl, rfl, ?_⟩
      show Q (.bl (decide (V.bl b = V.bl b))) H
      rw [decide_eq_true rfl]
      exact k _ (L2.Same.refl _)
    | int i =>
      cases hx
      cases hy
      refine ⟨_, rfl, _, _, _, _, false, rfl, .ty _, .base (.int _), kit_ty (by decide +kernel), _, rfl, iteF ?_⟩
      refine ⟨_, rfl, _, _, _, _, false, rfl, .ty _, .base (.int _), kit_ty (by decide +kernel), _, rfl, iteF ?_⟩
      refine ⟨_, rfl, _, rfl, iteF ?_⟩
      refine ⟨_, rfl, _, _, _, _, false, rfl, .ty _, .base (.int _), kit_ty (by decide +kernel), _, rfl, iteF ?_⟩
      refine ⟨_, rfl, _, _, _, _, true, rfl, .ty _, .base (.int _), kit_ty (by decide +kernel), _, rfl, iteT ?_⟩
      refine ⟨_, rfl, _, _, _, _, false, rfl, .ty _, .base (.int _), kit_ty (by decide +kernel), _, rfl, _, rfl, iteT ?_⟩
      refine ⟨_, rfl, _, rfl, rfl, ?_⟩
      show Q (.bl (decide (V.int i = V.int i))) H
      rw [decide_eq_true rfl]
      exact k _ (L2.Same.refl _)
    | str z =>
      cases hx
      cases hy
      refine ⟨_, rfl, _, _, _, _, false, rfl, .ty _, .base (.str _), kit_ty (by decide +kernel), _, rfl, iteF ?_⟩
      refine ⟨_, rfl, _, _, _, _, false, rfl, .ty _, .base (.str _), kit_ty (by decide +kernel), _, rfl, iteF ?_⟩
      refine ⟨_, rfl, _, rfl, iteF ?_⟩
      refine ⟨_, rfl, _, _, _, _, true, rfl, .ty _, .base (.str _), kit_ty (by decide +kernel), _, rfl, iteT ?_⟩
      refine ⟨_, rfl, _, _, _, _, true, rfl, .ty _, .base (.str _), kit_ty (by decide +kernel), _, rfl, iteT ?_⟩
      refine ⟨_, rfl, _, rfl, rfl, ?_⟩
      show Q (.bl (decide (V.str z = V.str z))) H
      rw [decide_eq_true rfl]
      exact k _ (L2.Same.refl _)
    | tuple ds =>
      unfold Rp at hx hy
      obtain ⟨a, xs, rfl, sa, la⟩ := hx
      obtain ⟨b, ys, rfl, sb, lb⟩ := hy
      have lx := RpL.len _ _ la
      have ly := RpL.len _ _ lb
      have hl : ds.length ≤ 1000000 := by
        have := szs_len ds
        unfold sz at hz
        omega
      have hlc : ((ds.length : Nat) : Int) ≤ 1000000 := by omega
      refine ⟨_, rfl, _, _, _, _, true, rfl, .ty _, ty_tup sb, kit_ty (by decide +kernel), _, rfl, iteT ?_⟩
      refine ⟨_, rfl, _, _, _, _, true, rfl, .ty _, ty_tup sa, kit_ty (by decide +kernel), _, rfl, iteF ?_⟩
      refine ⟨_, rfl, _, ds.length, rfl, .inr ⟨_, sa, lx.symm⟩, _, rfl, _, ds.length, rfl, .inr ⟨_, sb, ly.symm⟩, rfl, _, rfl, ?_⟩
      refine iteNS rfl ?_
      refine ⟨_, rfl, _, ds.length, rfl, .inr ⟨_, sb, ly.symm⟩, ds.length, rfl, by omega, by omega, fun D hD => ?_⟩
      refine lc_range (lo := 0) (n := _) (fun i H' => H' D = some (.lst ((List.replicate i true).map V.bl)) ∧ Same H H') ⟨upd_same, (L2.Same.refl H).new hD⟩ ?_ ?_
      · rintro i H2 hi ⟨hD2, s2⟩
        have hi : i < ds.length := by simpa using hi
        have e1 : ds[i]? = some ds[i] := by simp [hi]
        obtain ⟨u, eu, ru⟩ := RpL.get _ _ la i _ e1
        obtain ⟨v, ev, rv⟩ := RpL.get _ _ lb i _ e1
        have t2 := TK.of s2
        refine ⟨rfl, _, rfl, _, rfl, a, xs, _, u, rfl, rfl, SqT.tk sa t2, ?_, _, rfl, _, rfl, b, ys, _, v, rfl, rfl, SqT.tk sb t2, ?_, ?_⟩
        · rw [Int.zero_add]
          exact atI_nat eu
        · rw [Int.zero_add]
          exact atI_nat ev
        · refine ⟨u, v, ds[i], rfl, Rp.tk t2 _ _ ru, Rp.tk t2 _ _ rv, ?_, ?_, fun H3 s3 => ?_⟩
          · have := dep_get ds i _ e1
            unfold dep at hd
            omega
          · have := sz_get ds i _ e1
            unfold sz at hz
            omega
          · refine ⟨_, s3 _ _ hD2, ?_, ?_, ?_⟩
            · rw [List.length_map, List.length_replicate]
              exact Nat.lt_of_lt_of_le (Nat.lt_of_lt_of_le hi hl) (by decide)
            · rw [upd_same, List.replicate_succ', List.map_append]
              rfl
            · exact (s2.trans s3).wrn hD
      · rintro H2 ⟨hD2, s2⟩
        refine ⟨D, _, rfl, SqL.of hD2, ?_⟩
        have e : (List.replicate ((ds.length : Nat) : Int).toNat true).all id = true := by simp
        rw [e]
        exact k _ s2
    | list _ => cases hx
    | dict _ => cases hx
theorem ok_same {f : Addr} {fd : FuncData} (F : Fun K "_law_same" "_law_same" sSame f fd) (B : SameB mg) (mS : mg "_law_same" = some (.ref f)) (kS : PySem.W.keepIn K (.ref f) = true) (bS : Binds K fd ["_law_thing", "_law_due"] []) :
    ∀ n, FnOk P w K mg base CX0 n f fd ["_law_thing", "_law_due"] (spSame K n)
  | 0 => ⟨fun vs H Q E ⟨x, y, d, _, _, _, h, _⟩ => absurd h (Nat.not_lt_zero _), fun A outer s H args us vs Q E hr he hb hv ⟨x, y, d, _, _, _, h, _⟩ => absurd h (Nat.not_lt_zero _)⟩
  | n + 1 => ok_same_step F B mS kS bS (ok_same F B mS kS bS n)
end
end Wn

namespace Wn
open PySem L2
/-- a new tuple is appended to a list of data -/
theorem push_tup {K : PySem.W.Frag} {G : Hp} {t fa : Addr} {zs vs : List V} {U ds : List PyData} (hG : G fa = some (.lst zs)) (rG : RpL K G U zs) (nt : G t = none) (rv : RpL K G ds vs) :
    upd G t (.tup vs) fa = some (.lst zs) ∧ LstAt K (upd (upd G t (.tup vs)) fa (.lst (zs ++ [.ref t]))) fa (U ++ [.tuple ds]) ∧ TK G (upd (upd G t (.tup vs)) fa (.lst (zs ++ [.ref t]))) ∧ Kp [fa] G (upd (upd G t (.tup vs)) fa (.lst (zs ++ [.ref t]))) := by
  have s6 : Same G (upd G t (.tup vs)) := (L2.Same.refl _).new nt
  have rt : Rp K (upd G t (.tup vs)) (.tuple ds) (.ref t) := Rp.tup upd_same (RpL.tk (TK.of s6) _ _ rv)
  have tE : TK (upd G t (.tup vs)) (upd (upd G t (.tup vs)) fa (.lst (zs ++ [.ref t]))) := (TK.refl _).wr (s6 _ _ hG) rfl
  exact ⟨s6 _ _ hG, ⟨_, upd_same, RpL.tk tE _ _ (RpL.app (RpL.tk (TK.of s6) _ _ rG) (RpL.cons rt RpL.nil))⟩, (TK.of s6).trans tE, (Kp.of s6).wr (List.mem_singleton.mpr rfl)⟩
/-- a thing that stands is appended -/
theorem push_old {K : PySem.W.Frag} {G : Hp} {fa : Addr} {zs : List V} {v : V} {U : List PyData} {d : PyData} (hG : G fa = some (.lst zs)) (rG : RpL K G U zs) (rv : Rp K G d v) :
    LstAt K (upd G fa (.lst (zs ++ [v]))) fa (U ++ [d]) ∧ TK G (upd G fa (.lst (zs ++ [v]))) ∧ Kp [fa] G (upd G fa (.lst (zs ++ [v]))) := by
  have tE : TK G (upd G fa (.lst (zs ++ [v]))) := (TK.refl _).wr hG rfl
  exact ⟨⟨_, upd_same, RpL.tk tE _ _ (RpL.app rG (RpL.cons rv RpL.nil))⟩, tE, (Kp.refl _ _).wr (List.mem_singleton.mpr rfl)⟩
/-- flat data: the very values -/
theorem RpL.flat {β : Type} {K : PySem.W.Frag} {H : Hp} {f : β → PyData} {g : β → V} (h : ∀ b v, Rp K H (f b) v → v = g b) : ∀ {L : List β} {ys : List V}, RpL K H (L.map f) ys → ys = L.map g
  | [], ys, r => by
    rw [List.map_nil] at r
    unfold RpL at r
    exact r
  | b :: L, ys, r => by
    rw [List.map_cons] at r
    unfold RpL at r
    obtain ⟨v, t, rfl, h1, h2⟩ := r
    rw [h b v h1, RpL.flat h h2]
    rfl
theorem Rp.bool_eq {K : PySem.W.Frag} {H : Hp} {b : Bool} {v : V} (r : Rp K H (.bool b) v) : v = .bl b := by
  unfold Rp at r
  exact r
theorem Rp.str_eq {K : PySem.W.Frag} {H : Hp} {z : Str} {v : V} (r : Rp K H (.str z) v) : v = .str z := by
  unfold Rp at r
  exact r
theorem Rp.int_eq {K : PySem.W.Frag} {H : Hp} {i : Int} {v : V} (r : Rp K H (.int i) v) : v = .int i := by
  unfold Rp at r
  exact r
theorem Rp.bool {K : PySem.W.Frag} {H : Hp} {b : Bool} : Rp K H (.bool b) (.bl b) := by
  unfold Rp
  rfl
mutual
theorem Rp.dp {K : PySem.W.Frag} {H : Hp} : ∀ (d : PyData) (v : V), Rp K H d v → Dp K H v d
  | .none, _, h => by
    unfold Rp at h
    subst h
    exact .non
  | .bool b, _, h => by
    unfold Rp at h
    subst h
    exact .bl b
  | .int i, _, h => by
    unfold Rp at h
    subst h
    exact .int i
  | .str s, _, h => by
    unfold Rp at h
    subst h
    exact .str s
  | .tuple ds, v, h => by
    unfold Rp at h
    obtain ⟨a, xs, rfl, hs, hl⟩ := h
    exact .tup hs (RpL.dp ds xs hl)
  | .list _, _, h => by
    unfold Rp at h
    exact h.elim
  | .dict _, _, h => by
    unfold Rp at h
    exact h.elim
theorem RpL.dp {K : PySem.W.Frag} {H : Hp} : ∀ (ds : List PyData) (xs : List V), RpL K H ds xs → DpAll K H xs ds
  | [], xs, h => by
    unfold RpL at h
    subst h
    exact .nil
  | d :: ds, xs, h => by
    unfold RpL at h
    obtain ⟨v, r, rfl, h1, h2⟩ := h
    exact .cons (Rp.dp d v h1) (RpL.dp ds r h2)
end
end Wn

namespace Wn
open PySem L2
open SX (S S_len S_cat S_beq_eq join_S)
/-- the first place of a sign -/
theorem occ_one {p q : List Nat} {c : Nat} (h : c ∉ p) : ∃ rest, Builtin.Str.occurrences (S (p ++ c :: q)) (S [c]) 0 (S (p ++ c :: q)).length 1 = p.length :: rest := by
  have at_ : ∀ i, StrLaws.At (S (p ++ c :: q)) (S [c]) (S (p ++ c :: q)).length i ↔ (p ++ c :: q)[i]? = some c := fun i => StrLaws.subAt_one (S (p ++ c :: q)) c i
  rcases StrLaws.occ_head (S (p ++ c :: q)) (S [c]) 1 (Nat.le_refl _) with ⟨_, h0⟩ | ⟨i, r, e, hi, hk⟩
  · exact (h0 p.length ((at_ _).mpr (by simp))).elim
  · refine ⟨r, ?_⟩
    rw [e]
    congr 1
    have h1 := (at_ i).mp hi
    by_cases hlt : i < p.length
    · rw [List.getElem?_append_left hlt] at h1
      exact (h (List.mem_of_getElem? h1)).elim
    · by_cases hgt : p.length < i
      · exact (hk _ hgt ((at_ _).mpr (by simp))).elim
      · omega
inductive HP where
  | num (n : Nat)
  | word (c : Nat)
def HP.enc : HP → PyData
  | .num n => .int (n : Int)
  | .word c => .str (S [c])
def HP.txt : HP → List Nat
  | .num n => TL.numL n
  | .word c => [c]
def HP.v : HP → V
  | .num n => .int (n : Int)
  | .word c => .str (S [c])
/-- a head: room, kind and five numbers -/
structure Hd where
  r : Nat
  k : Nat
  a : Nat
  b : Nat
  c : Nat
  d : Nat
  e : Nat
deriving DecidableEq
def Hd.L (h : Hd) : List HP := [.num h.r, .word h.k, .num h.a, .num h.b, .num h.c, .num h.d, .num h.e]
def Hd.D (h : Hd) : PyData := .tuple (h.L.map HP.enc)
def Hd.vs (h : Hd) : List V := h.L.map HP.v
def kindsL : List Nat := [108, 117, 97, 102, 104, 116]
structure Hd.Ok (h : Hd) : Prop where
  k : h.k ∈ kindsL
  r : h.r ≤ 1000000
  a : h.a ≤ 1000000
  b : h.b ≤ 1000000
  c : h.c ≤ 1000000
  d : h.d ≤ 1000000
  e : h.e ≤ 1000000
def Hd.txt (h : Hd) : List Nat := TL.joinL [46] (h.L.map HP.txt)
def Hd.wr (h : Hd) (cs : List Nat) : List Nat := h.txt ++ 58 :: cs
theorem rp_hp {K : PySem.W.Frag} {H : Hp} {x : HP} {v : V} (r : Rp K H x.enc v) : v = x.v := by
  cases x with
  | num n =>
    unfold HP.enc Rp at r
    exact r
  | word c =>
    unfold HP.enc Rp at r
    exact r
theorem rp_hp' {K : PySem.W.Frag} {H : Hp} (x : HP) : Rp K H x.enc x.v := by
  cases x with
  | num n => exact Rp.int
  | word c => exact Rp.str
theorem rpl_hp {K : PySem.W.Frag} {H : Hp} : ∀ (l : List HP) (vs : List V), RpL K H (l.map HP.enc) vs ↔ vs = l.map HP.v
  | [], vs => by
    show RpL K H [] vs ↔ vs = []
    unfold RpL
    exact Iff.rfl
  | x :: l, vs => by
    show RpL K H (x.enc :: l.map HP.enc) vs ↔ _
    unfold RpL
    constructor
    · rintro ⟨v, r, rfl, h1, h2⟩
      rw [rp_hp h1, (rpl_hp l r).mp h2]
      rfl
    · rintro rfl
      exact ⟨_, _, rfl, rp_hp' x, (rpl_hp l _).mpr rfl⟩
theorem rp_head {K : PySem.W.Frag} {H : Hp} {h : Hd} {v : V} : Rp K H h.D v ↔ ∃ a, v = .ref a ∧ SqT K H a h.vs := by
  unfold Hd.D
  unfold Rp
  constructor
  · rintro ⟨a, xs, rfl, ha, rl⟩
    rw [(rpl_hp _ _).mp rl] at ha
    exact ⟨a, rfl, ha⟩
  · rintro ⟨a, rfl, ha⟩
    exact ⟨a, _, rfl, ha, (rpl_hp _ _).mpr rfl⟩
/-! ### texts of heads -/
theorem kind_free {k s : Nat} (h : k ∈ kindsL) (hs : s < 97) : s ≠ k := by
  unfold kindsL at h
  intro e
  subst e
  simp at h
  omega
theorem hp_free {h : Hd} (ok : h.Ok) {s : Nat} (hs : s = 46 ∨ s = 58) : ∀ p ∈ h.L.map HP.txt, s ∉ p := by
  have hn : ∀ n, s ∉ TL.numL n := fun n => TL.numL_free (by omega)
  have hk : s ∉ [h.k] := fun z => kind_free ok.k (by omega) (List.mem_singleton.mp z)
  intro p hp
  simp only [Hd.L, List.map_cons, List.map_nil, HP.txt, List.mem_cons, List.not_mem_nil, or_false] at hp
  rcases hp with rfl | rfl | rfl | rfl | rfl | rfl | rfl
  · exact hn _
  · exact hk
  all_goals exact hn _
theorem spl_head {h : Hd} (ok : h.Ok) : TL.spl [46] 0 [] h.txt = h.L.map HP.txt := SX.spl_join (by simp [Hd.L]) (hp_free ok (.inl rfl))
theorem join_free {s : Nat} : ∀ (ls : List (List Nat)), s ≠ 46 → (∀ p ∈ ls, s ∉ p) → s ∉ TL.joinL [46] ls
  | [], _, _ => by simp [TL.joinL]
  | [p], _, h => h p (by simp)
  | p :: q :: r, hs, h => by
    show s ∉ p ++ ([46] ++ TL.joinL [46] (q :: r))
    rw [List.mem_append, List.mem_append, List.mem_singleton]
    rintro (z | z | z)
    · exact h p (by simp) z
    · exact hs z
    · exact join_free (q :: r) hs (fun x hx => h x (List.mem_cons_of_mem _ hx)) z
theorem head_free {h : Hd} (ok : h.Ok) : 58 ∉ h.txt := join_free _ (by decide) (hp_free ok (.inr rfl))
theorem num_len7 {n : Nat} (h : n ≤ 1000000) : (TL.numL n).length ≤ 7 := TL.numL_len (by decide) (by have : (10 : Nat) ^ 7 = 10000000 := by decide
                                                                                                     omega)
theorem head_len {h : Hd} (ok : h.Ok) : h.txt.length ≤ 49 := by
  have h1 := num_len7 ok.r
  have h2 := num_len7 ok.a
  have h3 := num_len7 ok.b
  have h4 := num_len7 ok.c
  have h5 := num_len7 ok.d
  have h6 := num_len7 ok.e
  show (TL.joinL [46] [TL.numL h.r, [h.k], TL.numL h.a, TL.numL h.b, TL.numL h.c, TL.numL h.d, TL.numL h.e]).length ≤ 49
  simp only [TL.joinL, List.length_append, List.length_cons, List.length_nil]
  omega
theorem wr_inj {h h' : Hd} {cs cs' : List Nat} (ok : h.Ok) (ok' : h'.Ok) (e : h.wr cs = h'.wr cs') : h = h' ∧ cs = cs' := by
  have p1 := SX.par_head (sep := []) cs (head_free ok)
  have p2 := SX.par_head (sep := []) cs' (head_free ok')
  have e1 : h.txt ++ ([58] ++ cs) = h'.txt ++ ([58] ++ cs') := e
  rw [e1] at p1
  have p3 := p1.symm.trans p2
  rw [Option.some.injEq, Prod.mk.injEq] at p3
  refine ⟨?_, p3.2⟩
  have s1 := spl_head ok
  have s2 := spl_head ok'
  rw [p3.1] at s1
  have s3 := s1.symm.trans s2
  simp only [Hd.L, List.map_cons, List.map_nil, HP.txt, List.cons.injEq, and_true] at s3
  obtain ⟨r1, r2, r3, r4, r5, r6, r7⟩ := s3
  obtain ⟨a, b, c, d, e, f, g⟩ := h
  obtain ⟨a', b', c', d', e', f', g'⟩ := h'
  dsimp only at r1 r2 r3 r4 r5 r6 r7
  rw [TL.numL_inj r1, r2, TL.numL_inj r3, TL.numL_inj r4, TL.numL_inj r5, TL.numL_inj r6, TL.numL_inj r7]
theorem D_inj {h h' : Hd} (e : h.D = h'.D) : h = h' := by
  obtain ⟨a, b, c, d, e, f, g⟩ := h
  obtain ⟨a', b', c', d', e', f', g'⟩ := h'
  simp [Hd.D, Hd.L, HP.enc] at e
  obtain ⟨r1, r2, r3, r4, r5, r6, r7⟩ := e
  obtain rfl : a = a' := by omega
  obtain rfl : c = c' := by omega
  obtain rfl : d = d' := by omega
  obtain rfl : e = e' := by omega
  obtain rfl : f = f' := by omega
  obtain rfl : g = g' := by omega
  subst r2
  rfl
/-- the first figure of a number of more than one -/
theorem num_head : ∀ (n : Nat), 10 ≤ n → ∀ c r, TL.numL n = c :: r → c ≠ 48 := by
  intro n
  induction n using Nat.strongRecOn with
  | _ n ih =>
    intro hn c r e
    rw [TL.numL_step hn] at e
    by_cases h : n / 10 < 10
    · rw [TL.numL_lt h] at e
      have e1 : 48 + n / 10 = c := (List.cons.inj e).1
      omega
    · cases hq : TL.numL (n / 10) with
      | nil => exact (TL.numL_ne _ hq).elim
      | cons c' r' =>
        rw [hq] at e
        have e1 : c' = c := (List.cons.inj e).1
        rw [← e1]
        exact ih (n / 10) (by omega) (by omega) c' r' hq
theorem log_small {n : Nat} (h : n ≤ 1000000) : ((n : Nat) : Int).natAbs.log2 < 1920 := by
  rw [Int.natAbs_natCast]
  by_cases h0 : n = 0
  · subst h0
    decide
  · exact Nat.lt_of_lt_of_le ((Nat.log2_lt h0).mpr (show n < 2 ^ 20 by have : (2 : Nat) ^ 20 = 1048576 := by decide
                                                                       omega)) (by decide)
theorem head_sum {h : Hd} (ok : h.Ok) : (((h.L.map fun p => S p.txt).map (·.length)).sum : Nat) + (h.L.map fun p => S p.txt).length * (Str.ofString ".").length ≤ 16777216 := by
  have h1 := num_len7 ok.r
  have h2 := num_len7 ok.a
  have h3 := num_len7 ok.b
  have h4 := num_len7 ok.c
  have h5 := num_len7 ok.d
  have h6 := num_len7 ok.e
  show (S (TL.numL h.r)).length + ((S [h.k]).length + ((S (TL.numL h.a)).length + ((S (TL.numL h.b)).length + ((S (TL.numL h.c)).length + ((S (TL.numL h.d)).length + ((S (TL.numL h.e)).length + 0)))))) + 7 * 1 ≤ _
  simp only [S_len, List.length_singleton]
  omega
theorem head_join (h : Hd) : Txt.join (Str.ofString ".") (h.L.map fun p => S p.txt) = S h.txt := by
  have e : (h.L.map fun p => S p.txt) = (h.L.map HP.txt).map S := by rw [List.map_map]; rfl
  rw [e]
  exact join_S [46] _
theorem num_le {h : Hd} (ok : h.Ok) {n : Nat} (hp : HP.num n ∈ h.L) : n ≤ 1000000 := by
  simp only [Hd.L, List.mem_cons, HP.num.injEq, List.not_mem_nil, or_false, reduceCtorEq, false_or] at hp
  have := ok.r
  have := ok.a
  have := ok.b
  have := ok.c
  have := ok.d
  have := ok.e
  omega
theorem num_len1 {n : Nat} (h : n < 10) : (TL.numL n).length = 1 := by
  rw [TL.numL_lt h]
  rfl
end Wn

namespace Wn
open PySem PySem.Spec PyProof.Rows L2
section
variable {X : Cx} {e : Expr} {es : List Expr} {ta : TA} {p1 p2 pos : Pos}
/-- NetError.__init__(self, ..), NetError an own class over ValueError without an __init__ of its own -/
theorem pe_ownInit {pl : Sem Bool} {x : Str} {N : Addr} (hg : Gl X x) (hm : X.mg x = some (.ref N)) (hsp : PySem.W.specialIn X.K (.ref N) "__getattribute__" = some (some (.builtin "type.__getattribute__"))) (hrd : PySem.W.readsIn X.K N (.type "type") = true)
    (vV : PySem.W.findCls X.K (.ref N) (.type "type") "__init__" = some (.val (.builtin "ValueError.__init__"))) (ha : PA X (e :: es) ta)
    (hc : eval (.Call (.Attribute (.Name x p1) "__init__" p2) (e :: es) [] pos) X.env = (do
      let ov ← eval (.Name x p1) X.env
      standAt p2.atName
      let (f, first) ← holding [ov] (getMethod ov "__init__" pl)
      callWith pos f first (backTo pos (starEach (e :: es) X.env)) (backToKw pos (keywordEach [] X.env))) := by rfl)
    (hdb : (x == ("__debug__" : Str)) = false := by decide)
    (he : starEach (e :: es) X.env = (false, eval e X.env) :: starEach es X.env := by rfl) (hpl : (backTo pos (starEach es X.env)).any (·.1) = false := by rfl) :
    PE X (.Call (.Attribute (.Name x p1) "__init__" p2) (e :: es) [] pos) (tVeI X.K ta) := by
  refine ⟨fun pins s σ H Q I h => ?_⟩
  refine PySem.W.methodCall_KW (ld_glob I hg hm ?_ hdb) hc
  refine PySem.W.method_cls I.kIn hsp (PySem.W.cls_value I.kIn hrd vV (by decide +kernel) ?_)
  show wpAny _ _ (callWith pos (Value.builtin "ValueError.__init__") [] (backTo pos (starEach (e :: es) X.env)) []) _ _ _
  refine PyProof.Rows.callWith_method1 (thn (ha.run pos pins _ σ H _ (I.tok _) h) fun us s1 ⟨vs, H1, I1, r1, a, C, ws, ev, hl, T, ea, q⟩ => ?_) he hpl
  subst ev
  cases r1 with
  | @cons _ u0 _ ur ra rw' =>
    obtain rfl : u0 = Value.ref a := ra
    have hlen : ur.length ≤ sizeLine := by
      rw [← Paired.length rw', sizeLine_eq]
      omega
    exact oinit_ok T I1 ea hlen fun s' J => ⟨.non, H1, J, rfl, q⟩
end
end Wn

namespace Wn
open PySem PySem.Spec PyProof.Rows L2
/-! isinstance of a caught error, with or without a dict of its own -/
section
open PySem.W
variable {prog : Program} {w : World} {A : Around} {E : Value → Shared → Prop} {s : Shared} {K : Frag} {x D : Addr} {ox : Obj} {od : Option Obj}
theorem findObj_dataO {C : Addr} {name : Str} {a g : Value} (hc : (clsIn K C).isSome = true) (ha : findIn K (.ref C) name = some (some a)) (hg : specialIn K a "__get__" = some (some g)) (ht : takesIn K a = some true) : findObj K C od name = some (.bind g a) := by
  obtain ⟨cd, hc⟩ := Option.isSome_iff_exists.mp hc
  unfold findObj
  rw [hc, Option.bind_some, ha, Option.bind_some]
  simp [hg, ht]
theorem kin_classO {Q : Option Value → Shared → Prop} (T : ExcC K D) (X : K.In s.heap) (I : InstAt s.heap x ox D od) (h : Q (some (.ref D)) { s with toks := s.toks + 1 }) : wpAny (model prog w) A (getAttr? (.ref x) "__class__") Q E s := by
  have hf : findObj K D od "__class__" = some (.bind (.builtin "getset_descriptor.__get__") (.builtin "object.__class__")) := findObj_dataO (by obtain ⟨cd, hc, _⟩ := any_some T.hd; rw [hc]; rfl) T.ha T.hn T.ht
  obtain ⟨hp, g, d, t, os⟩ := s
  have L0 := I.type (M := model prog w)
  have L1 := looks_findIn (M := model prog w) X T.hg
  have L2 := looks_findIn (M := model prog w) X T.hk
  have L3 := looks_find (M := model prog w) X I hf
  have sub : Looks (model prog w) hp (isInstance (.ref x) (.type "BaseException")) true := L0.andThen (looks_subIn X T.hs)
  have hx0 : (false && onTheHeap (Value.builtin "BaseException.__getattribute__")) = false := rfl
  have hx2 : (Value.builtin "BaseException.__getattribute__" == Value.builtin "object.__getattribute__") = false := by decide +kernel
  have hx1 : (onTheHeap (Value.ref D) && Value.builtin "BaseException.__getattribute__" == Value.builtin "object.__getattribute__") = false := by rw [hx2]; rfl
  unfold getAttr? getAttrBy? getAttrBy
  refine wpAny_bind (wpAny_mkText (wpAny_bind (wpAny_attempt (wpAny_holding (wpAny_bind (L0.at (wpAny_bind (L1.at ?_))))))))
  show wpAny _ _ (if (onTheHeap (Value.ref D) && Value.builtin "BaseException.__getattribute__" == Value.builtin "object.__getattribute__") = true then _ else _) _ _ _
  rw [hx1, if_neg Bool.false_ne_true]
  unfold getAttrByItsOwn hookBefore
  refine wpAny_bind ?_
  rw [if_pos (show onTheHeap (Value.ref D) = true from rfl)]
  refine L2.at ?_
  refine wpAny_bind (wpAny_attempt (wpAny_holding ?_))
  unfold callGetattribute
  rw [hx0, if_neg Bool.false_ne_true]
  unfold boundAndCalled
  rw [PySem.F.excAttr_ValueError.ga.bind (.ref x)]
  refine wpAny_bind (wpAny_pure ?_)
  show wpAny _ _ (call (.builtin "BaseException.__getattribute__") [.ref x, .str "__class__" t]) _ _ _
  refine wpAny_call (codeAny_call_builtin PySem.F.excAttr_ValueError.ga.plain PySem.F.entry_bexc_ga ?_)
  refine @check_slot (model prog w) _ _ ⟨hp, g, d, t + 1, os⟩ "BaseException.__getattribute__" "BaseException" "__getattribute__" (.ref x) [.str "__class__" t] [] _ (by decide +kernel) (by decide +kernel) sub (PySem.F.args_bexc_ga (.ref x) (.str "__class__" t)) ?_
  unfold Builtin.«object.__getattribute__»
  refine wpAny_bind (wpAny_of_eq (a := ((Value.ref x : Value), [Value.str "__class__" t])) (by first | rfl | (simp only [slotArgs]; rfl)) ?_)
  refine wpAny_bind (wpAny_pure (wpAny_bind (L0.at (wpAny_bind (L3.at ?_)))))
  show wpAny _ _ (holding [Value.builtin "object.__class__"] (call (.builtin "getset_descriptor.__get__") [.builtin "object.__class__", .ref x, .ref D]) >>= ret) _ _ _
  refine wpAny_bind (wpAny_holding (wpAny_call (class_get (s := ⟨hp, g, d, t + 1, os⟩) (ox := ox) (od := od) X I T.hm ?_)))
  refine wpAny_pure ?_
  show wpAny _ _ (handedOut (.ref D)) _ _ _
  rw [handedOut_of (v := .ref D) rfl]
  first
    | exact wpAny_pure (wpAny_pure h)
    | exact wpAny_pure h
    | exact wpAny_pure (wpAny_bind (wpAny_pure (wpAny_pure h)))
theorem kitx_excO (T : ExcC K D) : KitX K (.ref x) (.ref D) (fun h => InstAt h x ox D od) where
  ty := fun _ _ _ I => I.type
  it := fun _ _ X _ => by
    obtain ⟨cdD, hcD, _⟩ := any_some T.hd
    unfold clsIn at hcD
    split at hcD
    · rename_i c' d' cd' sl' ho
      intro A' Q' E' s' k q
      unfold isType loadHead
      exact wpAny_bind (wpAny_loadPart (k _ _ (X _ _ ho)) (wpAny_pure q))
    · cases hcD
  ne := fun h tp dd its n sl X htp => by
    obtain ⟨cdD, hcD, _⟩ := any_some T.hd
    refine Bool.eq_false_iff.mpr fun q => ?_
    have e : D = tp := Value.ref.inj (beq_iff_eq.mp q)
    subst e
    unfold clsIn at hcD
    split at hcD
    · rename_i c' d' cd' sl' ho
      have z := (X _ _ ho).symm.trans htp
      cases z
    · cases hcD
  ca := fun X I k => kin_classO T X I k
end
/-- the dict of a caught error: none, or one that stands -/
def XdAt (H : Hp) (d : Option Addr) : Prop := d = none ∨ ∃ (dd : Addr) (fs : List (Str × V)), d = some dd ∧ H dd = some (.xd fs)
/-- isinstance(e, c) or isinstance(e, (c, ..)), e the exception that the suite holds at a -/
def rIsX (K : PySem.W.Frag) (a : Addr) (cls : Value) (d : Option Addr) : List V → Hp → VK → Prop := fun xs H Q => ∃ D : Addr, cls = .ref D ∧ ExcC K D ∧ XdAt H d ∧
  ((∃ (c : V) (cv : Value) (b : Bool), xs = [.ref a, c] ∧ ClsV c cv ∧ PySem.W.kitOne K (.ref D) cv = some b ∧ Q (.bl b) H) ∨
   (∃ (tp : Addr) (cs : List V) (us : List Value) (b : Bool), xs = [.ref a, .ref tp] ∧ H tp = some (.tup cs) ∧ Paired ClsV cs us ∧ PySem.W.kitAny K (.ref D) us = some b ∧ Q (.bl b) H))
theorem call_isX {X : Cx} {a : Addr} {cls : Value} {d : Option Addr} {oe : Obj} {pn : List (Addr × Obj)} (hz : Zc cls d oe) (hf : ∃ vs, oe.data = .fields vs) : CallR (X.suite a ((a, oe) :: pn)) (.builtin "isinstance") (rIsX X.K a cls d) := by
  intro pins s σ H xs us Q I r h
  obtain ⟨D, rfl, C, hd, h⟩ := h
  obtain ⟨hget, _⟩ := I.pin (a, oe) (List.mem_append.mpr (.inl List.mem_cons_self))
  obtain ⟨vs, hv⟩ := hf
  have J : ∃ od, PySem.W.InstAt s.heap a oe D od := by
    obtain ⟨oc, oD, oda, osl⟩ := oe
    obtain ⟨h1, h2⟩ := hz
    dsimp only at h1 h2 hv
    subst h1 h2 hv
    rcases hd with rfl | ⟨dd, fs, rfl, ed⟩
    · exact ⟨none, hget, rfl, rfl, trivial⟩
    · have hx : ObjOk X.prog X.w H s.heap dd (.xd fs) := I.hok dd _ ed
      obtain ⟨mA, hns, hr⟩ := hx
      obtain ⟨od, ho, hl⟩ := lookIn_ns hns
      exact ⟨some od, hget, rfl, rfl, ho⟩
  obtain ⟨od, J⟩ := J
  rcases h with ⟨c, cv, b, rfl, hcv, e, q⟩ | ⟨tp, cs, ws, b, rfl, hT, k, e, q⟩
  · obtain ⟨u1, u2, rfl, r1, r2⟩ := vals2 r
    cases (show u1 = Value.ref a from r1)
    have ec := hcv.eq r2
    subst ec
    exact PySem.W.kia_one (kitx_excO C) I.kIn J e (fun z => nomatch z) fun tk => ⟨.bl b, H, I.tok tk, rfl, q⟩
  · obtain ⟨u1, u2, rfl, r1, r2⟩ := vals2 r
    cases (show u1 = Value.ref a from r1)
    cases (show u2 = Value.ref tp from r2)
    obtain ⟨_, its, rv, o, h1, h2, n, h3⟩ := (show ObjOk X.prog X.w H s.heap tp (.tup cs) from I.hok tp _ hT)
    have e3 := ClsV.all k rv
    subst e3
    obtain ⟨oc, od', dt, sl⟩ := o
    simp only at h2 h3
    subst h2 h3
    exact PySem.W.kia_tup (kitx_excO C) I.kIn J h1 e (fun z => nomatch z) fun tk => ⟨.bl b, H, I.tok tk, rfl, q⟩
/-! the promises of the errors' makers -/
/-- C.__init__(self, v): one field -/
def spX1 (C : Addr) (f : Str) : Sp := fun vs H Q _ => ∃ (a : Addr) (v : V), vs = [.ref a, v] ∧ H a = some (exo a C none) ∧ ∀ dx, H dx = none → dx ≠ a → Q .non (upd (upd H dx (exd dx [(f, v)])) a (exo a C (some dx)))
/-- two fields -/
def spX2 (C : Addr) (f g : Str) : Sp := fun vs H Q _ => ∃ (a : Addr) (v u : V), vs = [.ref a, v, u] ∧ H a = some (exo a C none) ∧ ∀ dx, H dx = none → dx ≠ a → Q .non (upd (upd H dx (exd dx [(g, u), (f, v)])) a (exo a C (some dx)))
/-- none -/
def spX0 (C : Addr) : Sp := fun vs H Q _ => ∃ (a : Addr), vs = [.ref a] ∧ H a = some (exo a C none) ∧ Q .non H
theorem upd_del {H : Hp} {a dx : Addr} {o1 o2 o3 o4 : HO} (ha : H a = none) (hd : dx ≠ a) : upd (del (upd (upd (upd H a o1) dx o2) a o3) a) dx o4 = upd H dx o4 := by
  funext b
  by_cases h : b = dx
  · rw [h, upd_same, upd_same]
  · rw [upd_ne h, upd_ne h]
    by_cases g : b = a
    · rw [g, del_same, ha]
    · rw [del_ne g, upd_ne g, upd_ne h, upd_ne g]
theorem del_upd {H : Hp} {a : Addr} {o : HO} (ha : H a = none) : del (upd H a o) a = H := by
  funext b
  by_cases g : b = a
  · rw [g, del_same, ha]
  · rw [del_ne g, upd_ne g]
/-- the end of C(): the exception is let go; it has no dict -/
theorem mk_endN {X : Cx} {pins : List (Addr × Obj)} {σ : L2.St} {H1 H2 : Hp} {Q : XK} {hp hp2 h2 : Heap} {g1 g2 : Array GenState} {d1 d2 : Drawn} {t1 t2 : Nat} {os1 os2 : OsState} {a C : Addr} (T : Raises X (.ref C)) (I1 : Inv X pins σ H1 ⟨hp, g1, d1, t1, os1⟩)
    (ha : hp.objs.size ≤ a) (k : ∀ b o, hp.get? b = some o → hp2.get? b = some o) (un : Un (frs X.stack) [] (upd H1 a (exo a C none)) H2 hp2 h2) (hok : HOk X.prog X.w H2 h2) (ho : os2 = os1) (hb : AllBare g2)
    (ea : H2 a = some (exo a C none)) (q : Q (.ref C) none (del H2 a)) : MkP X pins σ Q (.ref a) ⟨h2, g2, d2, t2, os2⟩ := by
  obtain ⟨t0, hoe⟩ := exo_at hok ea
  have hn : H1 a = none := I1.hok.fresh ha
  obtain ⟨G, g1', g2'⟩ := restrict h2 fun b => decide (b ≠ a)
  have gk : ∀ b, b ≠ a → G.get? b = h2.get? b := fun b hb => g1' b (decide_eq_true hb)
  have ge : G.get? a = none := g2' a (by simp)
  have nha : ∀ {b : Addr} {o : Obj}, hp.get? b = some o → b ≠ a := fun {b o} z => Nat.ne_of_lt (Nat.lt_of_lt_of_le (Heap.lt_size z) ha)
  have up : ∀ {b : Addr}, b ≠ a → H1 b = none → upd H1 a (exo a C none) b = none := fun {b} hb n => by rw [upd_ne hb]; exact n
  have U : Un (frs X.stack) [] H1 (del H2 a) hp G := {
    keep := fun b o z n hf hx => by
      rw [gk b (nha z)]
      exact un.keep b o (k b o z) (up (nha z) n) hf hx
    slot := fun b o z n hf hx => by
      rw [gk b (nha z)]
      exact un.slot b o (k b o z) (up (nha z) n) hf hx
    free := fun b o z n hx => by
      rw [del_ne (nha z)]
      exact un.free b o (k b o z) (up (nha z) n) hx
    there := fun b o z hx => by
      rw [gk b (nha z)]
      exact un.there b o (k b o z) hx
    tups := fun b xs z => by
      rw [del_ne (ne_of_none z hn)]
      exact un.tups b xs (by rw [upd_ne (ne_of_none z hn)]; exact z)
    frzs := fun b o v z => by
      rw [del_ne (ne_of_none z hn)]
      exact un.frzs b o v (by rw [upd_ne (ne_of_none z hn)]; exact z)
    tbls := fun b ps z => by
      rw [del_ne (ne_of_none z hn)]
      exact un.tbls b ps (by rw [upd_ne (ne_of_none z hn)]; exact z) }
  have hok3 : HOk X.prog X.w (del H2 a) G := fun b o z => by
    have hba : b ≠ a := fun e => by
      rw [e, del_same] at z
      cases z
    rw [del_ne hba] at z
    have noa : ∀ {c : Addr}, H2 c = some (.own b) → c ≠ a := fun {c} hc => at_ne ea hc exo_own
    exact (hok b o z).stay (fun c v hc y => by
        have hca : c ≠ a := by
          rcases hc with hc | hc
          · rw [hc]
            exact hba
          · exact noa hc
        rw [gk c hca]
        exact y)
      (fun c hc => by rw [del_ne (noa hc)]; exact hc) (fun c xs hc => by rw [del_ne (at_ne ea hc exo_tup)]; exact hc)
  have J : Inv X pins σ (del H2 a) ⟨G, g2, d2, t2, os2⟩ := I1.call' (ch := []) ho U hok3 hb (fun b z => absurd z (by simp))
  refine ⟨a, _, _, ⟨G, g2, d2, t2, os2⟩, _, .ref C, none, rfl, J, fun b o z => ?_, ge, hoe, ⟨rfl, rfl⟩, rfl, rfl, del_same, rfl, hb, T, q⟩
  by_cases hba : b = a
  · rw [hba] at z
    rw [show G.get? a = none from ge] at z
    cases z
  · exact (gk b hba).symm.trans z
/-- C(), C's own __init__ keeping sp -/
def tMkN (C : Addr) (sp : Sp)   : L2.St → Hp → XK → Prop := fun σ H Q => ∀ a, H a = none → sp [.ref a] (upd H a (exo a C none)) (fun v H2 => v = .non ∧ H2 a = some (exo a C none) ∧ Q (.ref C) none (del H2 a)) (fun _ _ _ => False)
section
variable {X : Cx} {p pos : Pos}
theorem pmk_oexN {CX : CXT} {x : Str} {C fI : Addr} {k : Nat} {fd : FuncData} {ps : List Str} {sp : Sp} (T : OexC X.K C) (iC : PySem.W.findIn X.K (.ref C) "__init__" = some (some (.ref fI))) (tI : PySem.W.typeIn X.K (.ref fI) = some (.type "function"))
    (F1 : FnOk X.prog X.w X.K X.mg X.base CX k fI fd ps sp) (hr : Room (k + 1) X.A) (hb : Binds X.K fd ps []) (hx : Passes CX X (fun _ _ _ => False)) (hg : Gl X x) (hm : X.mg x = some (.ref C))
    (hdb : (x == ("__debug__" : Str)) = false := by decide) :
    PMk X (.Call (.Name x p) [] [] pos) (tMkN C sp) := by
  intro pins s σ H1 Q I1 q1
  obtain ⟨nm, q, N, bs, bm, sn, sub, ab, col, dd, k0, k1, k2, k3, k5, hC, hbm⟩ := T.cls
  refine wpAny_Call_Name_kw (ld_glob I1 hg hm ?_ hdb)
  refine PySem.W.callWith_K0 I1.kIn T.kC ?_
  show wpAny _ _ (call (.ref C) []) _ _ _
  obtain ⟨hp, g, dr, tk, os⟩ := s
  have hsz : hp.objs.size ≤ hp.objs.size + 1 := Nat.le_succ _
  have hn : H1 (hp.objs.size + 1) = none := I1.hok.fresh hsz
  have hq : sp _ _ _ _ := q1 (hp.objs.size + 1) hn
  have kk : ∀ b o, hp.get? b = some o → ((hp.push (PySem.W.kdv_tup [])).push (PySem.HandSPX.excO C hp.objs.size)).get? b = some o := fun b o e => Heap.get?_push_of_some _ (Heap.get?_push_of_some _ e)
  have hget : ((hp.push (PySem.W.kdv_tup [])).push (PySem.HandSPX.excO C hp.objs.size)).get? (hp.objs.size + 1) = some (PySem.HandSPX.excO C hp.objs.size) := by heap_get
  have I2 : Inv X pins σ (upd H1 (hp.objs.size + 1) (exo (hp.objs.size + 1) C none)) ⟨(hp.push (PySem.W.kdv_tup [])).push (PySem.HandSPX.excO C hp.objs.size), g, dr, tk, os⟩ :=
    I1.laid (t' := tk) (a := hp.objs.size + 1) (o := exo (hp.objs.size + 1) C none) (h' := (hp.push (PySem.W.kdv_tup [])).push (PySem.HandSPX.excO C hp.objs.size)) kk hsz (exo_ok hget)
  have r2 : Vals [V.ref (hp.objs.size + 1)] [Value.ref (hp.objs.size + 1)] := .cons rfl .nil
  have hl : ([Value.ref (hp.objs.size + 1)] ++ []).length = ps.length := by
    have e := F1.len _ _ _ _ hq
    exact e
  refine wpAny_call (PySem.HandSPX.call_own F.excBase_ValueError (fun Y => PySem.HandSPX.refsVE_contains Y bm hbm) (I1.kIn _ _ hC) (PySem.W.looks_findIn I1.kIn iC) (fun self => PySem.W.bind_fn I1.kIn self tI) (Nat.zero_le _)
    (codeAny_mono (F1.run _ X.stack _ _ ⟨[Value.ref (hp.objs.size + 1)], []⟩ [Value.ref (hp.objs.size + 1)] _ _ (fun _ _ _ => False) (hr.make C [] []) (I2.env0.make C [] []) (by have b := hb _ [Value.ref (hp.objs.size + 1)] I2.kIn hl; exact b) r2 hq) fun r s' hq' => ?_))
  cases r with
  | error er => exact hx pins σ _ _ er s' I2 hq'
  | ok fl =>
    cases fl with
    | ret u =>
      obtain ⟨v, H2, os2, bare2, un2, hok2, rv, ev, ea, q2⟩ := hq'
      subst ev
      obtain ⟨h2, g2, d2, t2, os'⟩ := s'
      exact ⟨rv, mk_endN (raises_own T.exC T.tyC) I1 hsz kk un2 hok2 os2 bare2 ea q2⟩
    | next => exact False.elim hq'
    | brk => exact False.elim hq'
    | cont => exact False.elim hq'
theorem PMk.imp {X : Cx} {e : Expr} {t t'   : L2.St → Hp → XK → Prop} (h : PMk X e t) (i : ∀ σ H Q, t' σ H Q → t σ H Q) : PMk X e t' := fun pins s σ H Q I q => h pins s σ H Q I (i _ _ _ q)
/-- the class over all of them: NetError at N, over ValueError, without an __init__ of its own -/
structure NetE (K : PySem.W.Frag) (mg : Str → Option Value) (N : Addr) : Prop where
  g : mg "NetError" = some (.ref N)
  sp : PySem.W.specialIn K (.ref N) "__getattribute__" = some (some (.builtin "type.__getattribute__"))
  rd : PySem.W.readsIn K N (.type "type") = true
  v : PySem.W.findCls K (.ref N) (.type "type") "__init__" = some (.val (.builtin "ValueError.__init__"))
theorem upd_upd {H : Hp} {a : Addr} {o u : HO} : upd (upd H a o) a u = upd H a u := by
  funext b
  by_cases g : b = a
  · rw [g, upd_same, upd_same]
  · rw [upd_ne g, upd_ne g, upd_ne g]
theorem upd_swap {H : Hp} {a b : Addr} {o u : HO} (n : a ≠ b) : upd (upd H b o) a u = upd (upd H a u) b o := by
  funext c
  by_cases g : c = a
  · rw [g, upd_same, upd_ne n, upd_same]
  · rw [upd_ne g]
    by_cases g' : c = b
    · rw [g', upd_same, upd_same]
    · rw [upd_ne g', upd_ne g', upd_ne g]
/-- an own error class x at C, as the law's callers need it: its maker keeps sp -/
structure Err (P : Program) (w : World) (K : PySem.W.Frag) (mg : Str → Option Value) (base : Heap) (x : Str) (C : Addr) (ps : List Str) (sp : Sp) : Prop where
  t : OexC K C
  g : mg x = some (.ref C)
  mkr : ∃ (fI : Addr) (fd : FuncData), PySem.W.findIn K (.ref C) "__init__" = some (some (.ref fI)) ∧ PySem.W.typeIn K (.ref fI) = some (.type "function") ∧ FnOk P w K mg base CX0 1 fI fd ps sp ∧ Binds K fd ps []
theorem err1_ok {H : Hp} {C : Addr} {f : Str} {v : V} {Q : XK} (q : ∀ d, H d = none → Q (.ref C) (some d) (upd H d (.xd [(f, v)]))) :
    ([v] : List V).length ≤ 1000 ∧ ∀ a, H a = none → spX1 C f (.ref a :: ([v] ++ [])) (upd H a (exo a C none))
      (fun v H2 => v = .non ∧ ∃ (d : Addr) (fs : List (Str × V)), H2 a = some (exo a C (some d)) ∧ H2 d = some (exd d fs) ∧ H d = none ∧ Q (.ref C) (some d) (upd (del H2 a) d (.xd fs))) (fun _ _ _ => False) := by
  refine ⟨(by simp), fun a ha => ⟨a, v, rfl, upd_same, fun dx hd ne => ⟨rfl, dx, [(f, v)], upd_same, ?_, ?_, ?_⟩⟩⟩
  · rw [upd_ne ne, upd_same]
  · rw [upd_ne ne] at hd
    exact hd
  · rw [upd_del ha ne]
    rw [upd_ne ne] at hd
    exact q dx hd
theorem err2_ok {H : Hp} {C : Addr} {f g : Str} {v u : V} {Q : XK} (q : ∀ d, H d = none → Q (.ref C) (some d) (upd H d (.xd [(g, u), (f, v)]))) :
    ([v, u] : List V).length ≤ 1000 ∧ ∀ a, H a = none → spX2 C f g (.ref a :: ([v, u] ++ [])) (upd H a (exo a C none))
      (fun v H2 => v = .non ∧ ∃ (d : Addr) (fs : List (Str × V)), H2 a = some (exo a C (some d)) ∧ H2 d = some (exd d fs) ∧ H d = none ∧ Q (.ref C) (some d) (upd (del H2 a) d (.xd fs))) (fun _ _ _ => False) := by
  refine ⟨(by simp), fun a ha => ⟨a, v, u, rfl, upd_same, fun dx hd ne => ⟨rfl, dx, [(g, u), (f, v)], upd_same, ?_, ?_, ?_⟩⟩⟩
  · rw [upd_ne ne, upd_same]
  · rw [upd_ne ne] at hd
    exact hd
  · rw [upd_del ha ne]
    rw [upd_ne ne] at hd
    exact q dx hd
theorem err0_ok {H : Hp} {C : Addr} {σ : L2.St} {Q : XK} (q : Q (.ref C) none H) : tMkN C (spX0 C) σ H Q := fun a ha => by
  refine ⟨a, rfl, upd_same, rfl, upd_same, ?_⟩
  rw [del_upd ha]
  exact q
theorem pmk_err0 {x : Str} {C : Addr} {ps : List Str} {sp : Sp} (T : Err X.prog X.w X.K X.mg X.base x C ps sp) (hr : Room 2 X.A) (hg : Gl X x) (hdb : (x == ("__debug__" : Str)) = false := by decide) : PMk X (.Call (.Name x p) [] [] pos) (tMkN C sp) := by
  obtain ⟨fI, fd, iC, tI, F1, hb⟩ := T.mkr
  exact pmk_oexN T.t iC tI F1 hr hb (fun _ _ _ _ _ _ _ h => h.elim) hg T.g hdb
theorem pmk_err {x : Str} {C : Addr} {ps : List Str} {sp : Sp} {e : Expr} {es : List Expr} {ta : TA} (T : Err X.prog X.w X.K X.mg X.base x C ps sp) (hr : Room 2 X.A) (hg : Gl X x) (ha : PA X (e :: es) ta) (hdb : (x == ("__debug__" : Str)) = false := by decide)
    (he : starEach (e :: es) X.env = (false, eval e X.env) :: starEach es X.env := by rfl) (hpl : (backTo pos (starEach es X.env)).any (·.1) = false := by rfl) :
    PMk X (.Call (.Name x p) (e :: es) [] pos) (tMkO C sp [] ta) := by
  obtain ⟨fI, fd, iC, tI, F1, hb⟩ := T.mkr
  exact pmk_oex T.t iC tI F1 hr hb .nil (fun _ _ _ _ _ _ _ h => h.elim) hg T.g ha hdb he hpl
theorem passF : Passes (L2.CX X.prog X.w) X (fun _ _ _ => False) := passes_call takes0 (fun _ _ _ _ h => h)
end
end Wn

namespace Wn
open PySem L2
open SX (S S_len S_cat S_beq_eq join_S)
abbrev sWhole : Stmt := top 1
abbrev sFrom : Stmt := top 2
abbrev sIsHead : Stmt := top 12
abbrev sWritten : Stmt := top 13
abbrev sNumber : Stmt := top 14
abbrev sRead : Stmt := top 15
def figsL : List Nat := [48, 49, 50, 51, 52, 53, 54, 55, 56, 57]
def kindsV : List V := kindsL.map fun c => V.str (S [c])
structure HB (K : PySem.W.Frag) (mg : Str → Option Value) : Prop where
  isinstance : mg "isinstance" = none
  int : mg "int" = none
  bool : mg "bool" = none
  str : mg "str" = none
  tuple : mg "tuple" = none
  len : mg "len" = none
  all : mg "all" = none
  any : mg "any" = none
  many : ∃ t, mg "MANY" = some (.int 7 t)
  great : ∃ t, mg "GREATEST_NUMBER" = some (.int 1000000 t)
  long : ∃ t, mg "LONGEST" = some (.int 7 t)
  figs : ∃ t, mg "FIGURES" = some (.str (S figsL) t)
  kinds : ∃ a, mg "KIND_WORDS" = some (.ref a) ∧ ∀ H, SqT K H a kindsV

def spWhole (K : PySem.W.Frag) : Sp := fun vs H Q _ => ∃ (x : V) (t : String) (b1 b2 : Bool), vs = [x] ∧ TyX K H x (.type t) ∧ PySem.W.kitOne K (.type t) (.type "int") = some b1 ∧ PySem.W.kitOne K (.type t) (.type "bool") = some b2 ∧ Q (.bl (b1 && !b2)) H
def spFrom : Sp := fun vs H Q _ => ∃ n lo hi : Int, vs = [.int n, .int lo, .int hi] ∧ Q (.bl (decide (lo ≤ n ∧ n ≤ hi))) H
def spWritten (K : PySem.W.Frag) : Sp := fun vs H Q _ => ∃ (h : Hd) (v : V) (cs : List Nat), vs = [v, .str (S cs)] ∧ Rp K H h.D v ∧ h.Ok ∧ cs.length ≤ 1000000 ∧ ∀ H', Same H H' → Q (.str (S (h.wr cs))) H'
def spNumber : Sp := fun vs H Q _ => ∃ n : Nat, vs = [.str (S (TL.numL n))] ∧ n ≤ 1000000 ∧ ∀ H', Same H H' → Q (.int (n : Int)) H'
def spRead (K : PySem.W.Frag) : Sp := fun vs H Q _ => ∃ (h : Hd) (cs : List Nat), vs = [.str (S (h.wr cs))] ∧ h.Ok ∧ cs.length ≤ 1000000 ∧ ∀ H' v, Same H H' → Rp K H' (.tuple [h.D, .str (S cs)]) v → Q v H'
def spIsHead (K : PySem.W.Frag) : Sp := fun vs H Q _ => ∃ (h : Hd) (v : V), vs = [v] ∧ Rp K H h.D v ∧ h.Ok ∧ ∀ H', Same H H' → Q (.bl true) H'
theorem walk_strL {cs : List Nat} : Walk (Its (S cs)) (cs.map fun c => V.str (S [c])).length (fun _ => True) (YAt (cs.map fun c => V.str (S [c]))) := by
  have w := walk_str (z := S cs)
  have e : (S cs).cps.size = (cs.map fun c => V.str (S [c])).length := by simp
  rw [e] at w
  refine ⟨w.1, w.2, fun i H v H' hi g y => ?_⟩
  obtain ⟨e1, c, e2, e3⟩ := w.3 i H v H' hi g y
  refine ⟨e1, ?_⟩
  have e2 : cs[i]? = some c := by
    have : (cs.toArray)[i]? = some c := e2
    rw [List.getElem?_toArray] at this
    exact this
  rw [List.getElem?_map, e2, e3]
  rfl
theorem rpl_signs {K : PySem.W.Frag} {H : Hp} : ∀ cs : List Nat, RpL K H (cs.map fun c => PyData.str (S [c])) (cs.map fun c => V.str (S [c]))
  | [] => RpL.nil
  | c :: cs => RpL.cons Rp.str (rpl_signs cs)
theorem figs_mem {c : Nat} (h : 48 ≤ c ∧ c ≤ 57) : c ∈ figsL := by
  unfold figsL
  simp
  omega
theorem kinds_flat : kindsV.all flatV = true := rfl
theorem kinds_in {k : Nat} (h : k ∈ kindsL) : inV (.str (S [k])) kindsV = true := by
  unfold kindsL at h
  simp only [List.mem_cons, List.not_mem_nil, or_false] at h
  rcases h with rfl | rfl | rfl | rfl | rfl | rfl <;> decide +kernel
section
variable {P : Program} {w : World} {K : PySem.W.Frag} {mg : Str → Option Value} {base : Heap}
theorem scWhole : FnScope ["thing"] ["thing"] (defScope sWhole) := ⟨rfl, rfl, rfl, by decide +kernel, rfl, by decide +kernel, by decide +kernel⟩
theorem ok_whole {f : Addr} {fd : FuncData} (F : Fun K "is_whole" "is_whole" sWhole f fd) (B : HB K mg) : FnOk P w K mg base CX0 1 f fd ["thing"] (spWhole K) := by
  refine F.ok scWhole (fun vs H Q E h => ?_) (fun cdv A outer s H vs Q E hr h => ?_)
  · obtain ⟨x, t, b1, b2, rfl, _⟩ := h
    rfl
  · obtain ⟨x, t, b1, b2, rfl, ty, k1, k2, k⟩ := h
    refine ⟨_, (pss_one (ps_ret (pe_and (pe_callB (isiK (K := K) rfl) (by rfl) B.isinstance (by decide +kernel) (pa_cons (pv 0) (pa_cons (pe_bltn (v := .ty "int") (by rfl) B.int PyProof.Rows.boot_int rfl) pa_nil))) (pe_one (pe_not (pe_callB (isiK (K := K) rfl) (by rfl) B.isinstance (by decide +kernel) (pa_cons (pv 0) (pa_cons (pe_bltn (v := .ty "bool") (by rfl) B.bool PyProof.Rows.boot_bool rfl) pa_nil)))))))), ?_⟩
    refine ⟨_, rfl, _, _, _, _, b1, rfl, .ty _, ty, k1, _, rfl, ?_⟩
    cases b1 with
    | false => exact iteF k
    | true =>
      refine iteT ⟨_, rfl, _, _, _, _, b2, rfl, .ty _, ty, k2, _, rfl, k⟩
theorem scFrom : FnScope ["thing", "low", "high"] ["thing", "low", "high"] (defScope sFrom) := ⟨rfl, rfl, rfl, by decide +kernel, rfl, by decide +kernel, by decide +kernel⟩
theorem ok_from {f : Addr} {fd : FuncData} (F : Fun K "is_from" "is_from" sFrom f fd) (B : HB K mg) (cW : Cd P w K mg base 1 "is_whole" ["thing"] (spWhole K)) : FnOk P w K mg base CX0 2 f fd ["thing", "low", "high"] spFrom := by
  obtain ⟨fW, fdW, GW, mW, kW, bW⟩ := cW
  refine F.ok scFrom (fun vs H Q E h => ?_) (fun cdv A outer s H vs Q E hr h => ?_)
  · obtain ⟨n, lo, hi, rfl, _⟩ := h
    rfl
  · obtain ⟨n, lo, hi, rfl, k⟩ := h
    have hr1 : Room 1 _ := hr
    refine ⟨_, (pss_one (ps_ret (pe_and (pe_call GW hr1 rfl mW kW bW .nil pass0 (pa_cons (pv 0) pa_nil)) (pe_one (pe_chain op_le op_le (pv 1) (pv 0) (pv 2)))))), ?_⟩
    refine ⟨_, rfl, _, "int", true, false, rfl, .base (.int _), kit_ty (by decide +kernel), kit_ty (by decide +kernel), _, rfl, iteT ?_⟩
    refine ⟨_, rfl, _, rfl, _, _, rfl, rfl, _, rfl, ?_⟩
    refine ite2 (fun h => ?_) (fun h => ?_)
    · refine ⟨_, rfl, _, _, rfl, rfl, ?_⟩
      have e : decide (n ≤ hi) = decide (lo ≤ n ∧ n ≤ hi) := decide_eq_decide.mpr ⟨fun z => ⟨of_decide_eq_true h, z⟩, fun z => z.2⟩
      show Q (.bl (decide (n ≤ hi))) H
      rw [e]
      exact k
    · have e : false = decide (lo ≤ n ∧ n ≤ hi) := (decide_eq_false fun z => h (decide_eq_true z.1)).symm
      show Q (.bl false) H
      rw [e]
      exact k
theorem scWritten : FnScope ["head", "text", "part"] ["head", "text"] (defScope sWritten) := ⟨rfl, rfl, rfl, by decide +kernel, rfl, by decide +kernel, by decide +kernel⟩
theorem ok_written {f : Addr} {fd : FuncData} (F : Fun K "written" "written" sWritten f fd) (B : HB K mg) : FnOk P w K mg base CX0 1 f fd ["head", "text"] (spWritten K) := by
  refine F.ok scWritten (fun vs H Q E h => ?_) (fun cdv A outer s H vs Q E hr h => ?_)
  · obtain ⟨h, v, cs, rfl, _⟩ := h
    rfl
  · obtain ⟨h, v, cs, rfl, rv, ok, hcs, k⟩ := h
    refine ⟨_, (pss_one (ps_ret (pe_op op_add_str (pe_op op_add_str (joinK (K := K) rfl pe_str (pe_lc (own := [("part", 2)]) (g := (gName 2)) (tt := tYes) rfl scWritten.nd (pi_tup (pv 0)) (blkOk_by (N := ["head", "text", "part"]) (sc := defScope sWritten) (by decide +kernel))
       (fun _ _ _ _ _ => (pg_name (i := 2) scWritten.nd rfl (Or.inl rfl))) (fun _ _ _ _ _ => pts_nil) (fun _ _ _ _ _ => (pe_callTy call_strU (by rfl) B.str PyProof.Rows.boot_str (pa_cons (pv 2) pa_nil))))) pe_str) (pv 1)))), ?_⟩
    obtain ⟨a, rfl, ha⟩ := rp_head.mp rv
    refine ⟨⟨_, rfl⟩, _, rfl, a, rfl, ⟨_, ha⟩, fun D hD => ?_⟩
    refine mapD_it (K := K) (walk_tup (K := K) (a := a) (xs := h.vs)) (fun H' s => SqT.tk ha (TK.of s)) (enc := HP.enc) (L := h.L) (fun p => .str (S p.txt)) ((rpl_hp _ _).mpr rfl) hD (by show 7 ≤ 1000000; decide) ?_ ?_
    · intro p x H' Q' hp rx sx kk
      obtain rfl := rp_hp rx
      refine ⟨_, rfl, ?_⟩
      cases p with
      | num n =>
        have hn : n ≤ 1000000 := num_le ok hp
        refine .inl ⟨_, rfl, log_small hn, ?_⟩
        · rw [SX.num_S]
          exact kk _ _ (L2.Same.refl _) Rp.str
      | word c => exact .inr ⟨_, rfl, kk _ _ (L2.Same.refl _) Rp.str⟩
    · intro H1 ys s1 hD1 r1
      have ey := RpL.flat (g := fun p : HP => V.str (S p.txt)) (fun b v r => Rp.str_eq r) r1
      subst ey
      refine ⟨_, D, h.L.map fun p => S p.txt, rfl, rfl, .inl (by rw [List.map_map]; exact SqL.of hD1), ?_, ?_⟩
      · exact head_sum ok
      · rw [head_join]
        have hl := head_len ok
        refine ⟨_, _, rfl, rfl, ?_, _, rfl, _, _, rfl, rfl, ?_, ?_⟩
        · rw [S_len]
          exact Nat.le_trans (show h.txt.length + 1 ≤ 50 by omega) (by decide)
        · rw [show S h.txt ++ Str.ofString ":" = S (h.txt ++ [58]) from S_cat _ [58], S_len, S_len, List.length_append, List.length_singleton]
          exact Nat.le_trans (show h.txt.length + 1 + cs.length ≤ 1000050 by omega) (by decide)
        · rw [show S h.txt ++ Str.ofString ":" = S (h.txt ++ [58]) from S_cat _ [58], S_cat, List.append_assoc]
          exact k _ s1
theorem scNumber : FnScope ["word", "sign"] ["word"] (defScope sNumber) := ⟨rfl, rfl, rfl, by decide +kernel, rfl, by decide +kernel, by decide +kernel⟩
theorem ok_number {f : Addr} {fd : FuncData} (F : Fun K "number_of" "number_of" sNumber f fd) (B : HB K mg) : FnOk P w K mg base CX0 1 f fd ["word"] spNumber := by
  obtain ⟨_, mLONG⟩ := B.long
  obtain ⟨_, mGREAT⟩ := B.great
  obtain ⟨_, mFIGS⟩ := B.figs
  refine F.ok scNumber (fun vs H Q E h => ?_) (fun cdv A outer s H vs Q E hr h => ?_)
  · obtain ⟨n, rfl, _⟩ := h
    rfl
  · obtain ⟨n, rfl, hn, k⟩ := h
    refine ⟨_, (pss_cons (ps_if (PW.pt (pw_or (pt_cmpR op_eq (pv 0) pe_str (nomark _)) (pw_or (pt_cmpR op_gt (pe_callB (lenK (K := K) rfl) (by rfl) B.len PySem.boot_len (pa_cons (pv 0) pa_nil)) (pe_glob (v := .int 7) (by rfl) mLONG ⟨_, rfl⟩) (nomark _)) (pw_or1 (pt_val (pe_callB (crAnyK (K := K) rfl rfl) (by rfl) B.any (by decide +kernel) (pa_cons (pe_lc (own := [("sign", 1)]) (g := (gName 1)) (tt := tYes) rfl scNumber.nd (pi_str (pv 0)) (blkOk_by (N := ["word", "sign"]) (sc := defScope sNumber) (by decide +kernel))
       (fun _ _ _ _ _ => (pg_name (i := 1) scNumber.nd rfl (Or.inl rfl))) (fun _ _ _ _ _ => pts_nil) (fun _ _ _ _ _ => (pe_cmpR op_notin_str (pv 1) (pe_glob (v := .str (S figsL)) (by rfl) mFIGS ⟨_, rfl⟩) (by rfl)))) pa_nil)))))))
       (pss_one ps_never)
       pss_nil)
       (pss_cons (ps_if (PW.pt (pw_or (PW.pt (pw_and (pt_cmpR op_gt (pe_callB (lenK (K := K) rfl) (by rfl) B.len PySem.boot_len (pa_cons (pv 0) pa_nil)) pe_int (nomark _)) (pw_and1 (pt_cmpR op_eq (pe_ix ix_str (pv 0) pe_int (fun _ _ => rfl)) pe_str (nomark _))))) (pw_or1 (pt_cmpR op_gt (pe_callTy call_int_str (by rfl) B.int PyProof.Rows.boot_int (pa_cons (pv 0) pa_nil)) (pe_glob (v := .int 1000000) (by rfl) mGREAT ⟨_, rfl⟩) (nomark _)))))
       (pss_one ps_never)
       pss_nil)
       (pss_one (ps_ret (pe_callTy call_int_str (by rfl) B.int PyProof.Rows.boot_int (pa_cons (pv 0) pa_nil)))))), ?_⟩
    have l7 := num_len7 hn
    have hz : (S (TL.numL n)).length ≤ sizeLine := by rw [S_len]; exact Nat.le_trans l7 (by decide)
    have hint : intText? (S (TL.numL n)) = some (n : Int) := by
      have := TL.int_num (n := n) (by omega)
      rw [SX.num_S] at this
      exact this
    refine ⟨_, rfl, rfl, _, rfl, ?_⟩
    rw [show decide (V.str (S (TL.numL n)) = V.str (Str.ofString "")) = false from decide_eq_false fun z => TL.numL_ne n (SX.S_inj (b := []) (V.str.inj z))]
    refine iteF ?_
    refine ⟨_, rfl, _, (TL.numL n).length, rfl, ⟨hz, (S_len _).symm⟩, _, _, rfl, rfl, _, rfl, ?_⟩
    rw [show decide ((7 : Int) < (((TL.numL n).length : Nat) : Int)) = false from decide_eq_false (by omega)]
    refine iteF ?_
    refine ⟨_, rfl, _, rfl, fun D hD => ?_⟩
    refine mapD_it (K := K) (walk_strL (cs := TL.numL n)) (fun _ _ => trivial) (enc := fun c => .str (S [c])) (L := TL.numL n) (fun c => .bool false) ?_ hD (by omega) ?_ ?_
    · exact rpl_signs _
    · intro c x H' Q' hc rx sx kk
      obtain rfl := Rp.str_eq rx
      refine ⟨_, rfl, _, _, rfl, rfl, ?_⟩
      rw [SX.in_one, show decide (c ∈ figsL) = true from decide_eq_true (figs_mem (TL.numL_digits n c hc))]
      exact kk _ _ (L2.Same.refl _) Rp.bool
    · intro H1 ys s1 hD1 r1
      have ey := RpL.flat (g := fun c : Nat => V.bl false) (fun b v r => Rp.bool_eq r) r1
      subst ey
      refine ⟨D, (TL.numL n).map fun _ => false, rfl, by rw [List.map_map]; exact SqL.of hD1, _, rfl, ?_⟩
      rw [show ((TL.numL n).map fun _ => false).any id = false from by simp]
      refine iteF ?_
      refine ⟨_, rfl, _, (TL.numL n).length, rfl, ⟨hz, (S_len _).symm⟩, _, _, rfl, rfl, _, rfl, ?_⟩
      have gr : decide ((1000000 : Int) < ((n : Nat) : Int)) = false := decide_eq_false (by omega)
      refine ite2 (fun hl => ?_) (fun hl => ?_)
      · have hl := of_decide_eq_true hl
        have h10 : 10 ≤ n := by
          refine Classical.byContradiction fun z => ?_
          have := num_len1 (n := n) (by omega)
          omega
        cases hnum : TL.numL n with
        | nil => exact (TL.numL_ne n hnum).elim
        | cons c r =>
          have hc := num_head n h10 c r hnum
          rw [hnum] at hz hint
          refine ⟨_, rfl, _, _, c, rfl, rfl, hz, atI_nat (j := 0) (by simp), rfl, _, rfl, ?_⟩
          rw [show decide (V.str ⟨#[c]⟩ = V.str (Str.ofString "0")) = false from decide_eq_false fun z => hc (by
            have := SX.S_inj (a := [c]) (b := [48]) (V.str.inj z)
            simpa using this)]
          refine iteF ?_
          refine ⟨_, rfl, _, _, rfl, hint, ?_, _, _, rfl, rfl, _, rfl, ?_⟩
          · rw [S_len, ← hnum]
            omega
          rw [gr]
          refine iteF ?_
          refine ⟨_, rfl, _, _, rfl, hint, ?_, k _ s1⟩
          rw [S_len, ← hnum]
          omega
      · refine iteF ?_
        refine ⟨_, rfl, _, _, rfl, hint, (by rw [S_len]; omega), _, _, rfl, rfl, _, rfl, ?_⟩
        rw [gr]
        refine iteF ?_
        exact ⟨_, rfl, _, _, rfl, hint, (by rw [S_len]; omega), k _ s1⟩
theorem scRead : FnScope ["text", "at", "words", "rest", "word"] ["text"] (defScope sRead) := ⟨rfl, rfl, rfl, by decide +kernel, rfl, by decide +kernel, by decide +kernel⟩
theorem ok_read {f : Addr} {fd : FuncData} (F : Fun K "read" "read" sRead f fd) (B : HB K mg) (cN : Cd P w K mg base 1 "number_of" ["word"] spNumber) : FnOk P w K mg base CX0 2 f fd ["text"] (spRead K) := by
  obtain ⟨fN, fdN, GN, mN, kN, bN⟩ := cN
  obtain ⟨_, mMANY⟩ := B.many
  obtain ⟨aK, mKIND, hKIND⟩ := B.kinds
  refine F.ok scRead (fun vs H Q E h => ?_) (fun cdv A outer s H vs Q E hr h => ?_)
  · obtain ⟨h, cs, rfl, _⟩ := h
    rfl
  · obtain ⟨h, cs, rfl, ok, hcs, k⟩ := h
    have hr1 : Room 1 _ := hr
    refine ⟨_, (pss_cons (ps_if (PW.pt (pw_or (pt_not (pt_val (pe_callB (isiK (K := K) rfl) (by rfl) B.isinstance (by decide +kernel) (pa_cons (pv 0) (pa_cons (pe_bltn (v := .ty "str") (by rfl) B.str PyProof.Rows.boot_str rfl) pa_nil))))) (pw_or1 (pt_cmpR op_notin_str pe_str (pv 0) (by rfl)))))
       (pss_one ps_never)
       pss_nil)
       (pss_cons (ps_set (i := 1) scRead.nd rfl (Or.inl rfl) (pe_m1 PySem.F.slot_str_index PySem.F.type_str_index mt_sindex (pv 0) pe_str))
       (pss_cons (ps_set (i := 2) scRead.nd rfl (Or.inl rfl) (pe_split (pe_slice sl_str (pv 0) po_none (po_some (pv 1))) pe_str))
       (pss_cons (ps_if (PW.pt (pw_or (pt_cmpR op_ne (pe_callB (lenK (K := K) rfl) (by rfl) B.len PySem.boot_len (pa_cons (pv 2) pa_nil)) (pe_glob (v := .int 7) (by rfl) mMANY ⟨_, rfl⟩) (nomark _)) (pw_or1 (pt_cmpR (notInSeqK (K := K) rfl) (pe_ix (ixL (K := K) rfl) (pv 2) pe_int (fun _ _ => rfl)) (pe_glob (v := .ref aK) (by rfl) mKIND rfl) (by rfl)))))
       (pss_one ps_never)
       pss_nil)
       (pss_cons (ps_set (i := 3) scRead.nd rfl (Or.inl rfl) (pe_callTy (tupOfK (K := K) rfl) (by rfl) B.tuple PyProof.Rows.boot_tuple (pa_cons (pe_lc (own := [("word", 4)]) (g := (gName 4)) (tt := tYes) rfl scRead.nd (pi_list (pe_slice (slL (K := K) rfl) (pv 2) (po_some pe_int) po_none)) (blkOk_by (N := ["text", "at", "words", "rest", "word"]) (sc := defScope sRead) (by decide +kernel))
       (fun _ _ _ _ _ => (pg_name (i := 4) scRead.nd rfl (Or.inl rfl))) (fun _ _ _ _ _ => pts_nil) (fun _ _ _ _ _ => (pe_call GN hr1 rfl mN kN bN .nil pass0 (pa_cons (pv 4) pa_nil)))) pa_nil)))
       (pss_one (ps_ret (pe_tup (pa_cons (pe_op (opCatT (K := K) rfl) (pe_tup (pa_cons (pe_call GN hr1 rfl mN kN bN .nil pass0 (pa_cons (pe_ix (ixL (K := K) rfl) (pv 2) pe_int (fun _ _ => rfl)) pa_nil)) (pa_cons (pe_ix (ixL (K := K) rfl) (pv 2) pe_int (fun _ _ => rfl)) pa_nil))) (pv 3)) (pa_cons (pe_slice sl_str (pv 0) (po_some (pe_op op_add (pv 1) pe_int)) po_none) pa_nil)))))))))), ?_⟩
    have hl := head_len ok
    have hz : (S (h.wr cs)).length ≤ sizeLine := by
      rw [S_len]
      unfold Hd.wr
      rw [List.length_append, List.length_cons]
      exact Nat.le_trans (show h.txt.length + (cs.length + 1) ≤ 1000050 by omega) (by decide)
    have hin : (!(Builtin.Str.occurrences (S (h.wr cs)) (Str.ofString ":") 0 (S (h.wr cs)).length 1).isEmpty) = true :=
      (SX.in_one (h.wr cs) 58).trans (decide_eq_true (by unfold Hd.wr; simp))
    obtain ⟨rest, hocc⟩ := occ_one (p := h.txt) (q := cs) (head_free ok)
    refine ⟨_, rfl, _, _, _, _, true, rfl, .ty _, .base (.str _), kit_ty (by decide +kernel), _, rfl, iteF ?_⟩
    refine ⟨_, rfl, _, _, rfl, rfl, _, rfl, ?_⟩
    rw [hin]
    refine iteF ?_
    refine ⟨_, rfl, ⟨_, rfl⟩, _, _, h.txt.length, rest, rfl, rfl, hocc, ?_⟩
    have c1 : cutS (S (h.wr cs)) none (some ((h.txt.length : Nat) : Int)) = S h.txt := by
      rw [C8.cutS_slice]
      exact SX.to_app h.txt (58 :: cs) rfl
    refine ⟨_, rfl, _, rfl, _, rfl, _, rfl, hz, ?_⟩
    rw [c1]
    refine ⟨⟨_, rfl⟩, _, _, rfl, rfl, rfl, ?_, fun wl nwl => ?_⟩
    · rw [S_len]
      exact Nat.le_trans (show h.txt.length + 2 ≤ 51 by omega) (by decide)
    rw [show Txt.split (S h.txt) (Str.ofString ".") = (h.L.map HP.txt).map S from (SX.split_S (b := [46]) (by decide) (by decide)).trans (by rw [spl_head ok])]
    have s1 : Same H (upd H wl (.lst (((h.L.map HP.txt).map S).map V.str))) := (L2.Same.refl _).new nwl
    have hw : upd H wl (.lst (((h.L.map HP.txt).map S).map V.str)) wl = some (.lst [.str (S (TL.numL h.r)), .str (S [h.k]), .str (S (TL.numL h.a)), .str (S (TL.numL h.b)), .str (S (TL.numL h.c)), .str (S (TL.numL h.d)), .str (S (TL.numL h.e))]) := upd_same
    generalize upd H wl (.lst (((h.L.map HP.txt).map S).map V.str)) = H1 at s1 hw
    refine ⟨_, rfl, _, 7, rfl, .inl ⟨_, SqL.of hw, rfl⟩, rfl, _, rfl, iteNS rfl ?_⟩
    refine ⟨_, rfl, wl, _, _, _, rfl, rfl, SqL.of hw, rfl, aK, _, rfl, .inr (hKIND _), rfl, kinds_flat, _, rfl, ?_⟩
    show if (!inV (.str (S [h.k])) kindsV) = true then _ else _
    rw [kinds_in ok.k]
    refine iteF ?_
    refine ⟨_, rfl, _, rfl, wl, _, rfl, SqL.of hw, fun l2 nl2 => ?_⟩
    have s2 : Same H1 (upd H1 l2 (.lst [.str (S (TL.numL h.a)), .str (S (TL.numL h.b)), .str (S (TL.numL h.c)), .str (S (TL.numL h.d)), .str (S (TL.numL h.e))])) := (L2.Same.refl _).new nl2
    have hl2 : upd H1 l2 (.lst [.str (S (TL.numL h.a)), .str (S (TL.numL h.b)), .str (S (TL.numL h.c)), .str (S (TL.numL h.d)), .str (S (TL.numL h.e))]) l2 = some (.lst [.str (S (TL.numL h.a)), .str (S (TL.numL h.b)), .str (S (TL.numL h.c)), .str (S (TL.numL h.d)), .str (S (TL.numL h.e))]) := upd_same
    rw [show cutV [.str (S (TL.numL h.r)), .str (S [h.k]), .str (S (TL.numL h.a)), .str (S (TL.numL h.b)), .str (S (TL.numL h.c)), .str (S (TL.numL h.d)), .str (S (TL.numL h.e))] (some 2) none = [.str (S (TL.numL h.a)), .str (S (TL.numL h.b)), .str (S (TL.numL h.c)), .str (S (TL.numL h.d)), .str (S (TL.numL h.e))] from rfl]
    generalize upd H1 l2 (.lst [.str (S (TL.numL h.a)), .str (S (TL.numL h.b)), .str (S (TL.numL h.c)), .str (S (TL.numL h.d)), .str (S (TL.numL h.e))]) = H2 at s2 hl2
    refine ⟨l2, rfl, ⟨_, SqL.of hl2⟩, fun D hD => ?_⟩
    refine mapD_it (K := K) (walk_list (K := K) (a := l2) (xs := [.str (S (TL.numL h.a)), .str (S (TL.numL h.b)), .str (S (TL.numL h.c)), .str (S (TL.numL h.d)), .str (S (TL.numL h.e))])) (fun H' s => SqL.of (s _ _ hl2)) (enc := fun n => .str (S (TL.numL n))) (L := [h.a, h.b, h.c, h.d, h.e]) (fun n => .int (n : Int)) ?_ hD (by show 5 ≤ 1000000; decide) ?_ ?_
    · exact RpL.cons Rp.str (RpL.cons Rp.str (RpL.cons Rp.str (RpL.cons Rp.str (RpL.cons Rp.str RpL.nil))))
    · intro n x H' Q' hn rx sx kk
      obtain rfl := Rp.str_eq rx
      have hn' : n ≤ 1000000 := by
        have := ok.a
        have := ok.b
        have := ok.c
        have := ok.d
        have := ok.e
        simp at hn
        omega
      exact ⟨_, rfl, n, rfl, hn', fun H'' s'' => kk _ _ s'' Rp.int⟩
    · intro H3 ys s3 hD3 r3
      have ey := RpL.flat (g := fun n : Nat => V.int (n : Int)) (fun b v r => Rp.int_eq r) r3
      subst ey
      refine ⟨D, _, rfl, .inl ⟨SqL.of hD3, fun rt nrt => ?_⟩⟩
      have s4 : Same H3 (upd H3 rt (.tup [.int (h.a : Int), .int (h.b : Int), .int (h.c : Int), .int (h.d : Int), .int (h.e : Int)])) := (L2.Same.refl _).new nrt
      have hrt : upd H3 rt (.tup [.int (h.a : Int), .int (h.b : Int), .int (h.c : Int), .int (h.d : Int), .int (h.e : Int)]) rt = some (.tup [.int (h.a : Int), .int (h.b : Int), .int (h.c : Int), .int (h.d : Int), .int (h.e : Int)]) := upd_same
      rw [show ([h.a, h.b, h.c, h.d, h.e].map fun n : Nat => V.int (n : Int)) = [.int (h.a : Int), .int (h.b : Int), .int (h.c : Int), .int (h.d : Int), .int (h.e : Int)] from rfl]
      generalize upd H3 rt (.tup [.int (h.a : Int), .int (h.b : Int), .int (h.c : Int), .int (h.d : Int), .int (h.e : Int)]) = H4 at s4 hrt
      have s14 := (s2.trans s3).trans s4
      refine ⟨_, rfl, wl, _, _, _, rfl, rfl, SqL.of (s14 _ _ hw), rfl, h.r, rfl, ok.r, fun H5 s5 => ?_⟩
      refine ⟨_, rfl, wl, _, _, _, rfl, rfl, SqL.of (s5 _ _ (s14 _ _ hw)), rfl, (by show 2 ≤ sizeLine; decide), fun t2 nt2 => ?_⟩
      have s6 : Same H5 (upd H5 t2 (.tup [.int (h.r : Int), .str (S [h.k])])) := (L2.Same.refl _).new nt2
      have ht2 : upd H5 t2 (.tup [.int (h.r : Int), .str (S [h.k])]) t2 = some (.tup [.int (h.r : Int), .str (S [h.k])]) := upd_same
      generalize upd H5 t2 (.tup [.int (h.r : Int), .str (S [h.k])]) = H6 at s6 ht2
      refine ⟨_, rfl, t2, rt, _, _, rfl, rfl, SqT.of ht2, SqT.of (s6 _ _ (s5 _ _ hrt)), (by simp), (by show 7 ≤ sizeLine; decide), (fun z => by cases z), fun _ t7 nt7 => ?_⟩
      have s7 : Same H6 (upd H6 t7 (.tup h.vs)) := (L2.Same.refl _).new nt7
      have ht7 : upd H6 t7 (.tup h.vs) t7 = some (.tup h.vs) := upd_same
      rw [show ([.int (h.r : Int), .str (S [h.k])] : List V) ++ [.int (h.a : Int), .int (h.b : Int), .int (h.c : Int), .int (h.d : Int), .int (h.e : Int)] = h.vs from rfl]
      generalize upd H6 t7 (.tup h.vs) = H7 at s7 ht7
      refine ⟨_, rfl, _, rfl, _, _, rfl, rfl, _, rfl, _, rfl, hz, (by show 2 ≤ sizeLine; decide), fun tt ntt => ?_⟩
      have c2 : cutS (S (h.wr cs)) (some (((h.txt.length : Nat) : Int) + 1)) none = S cs := by
        rw [C8.cutS_slice]
        have e : h.wr cs = (h.txt ++ [58]) ++ cs := by
          unfold Hd.wr
          simp
        rw [e]
        exact SX.from_app (h.txt ++ [58]) cs (by rw [List.length_append, List.length_singleton]; rfl)
      rw [c2]
      refine k _ _ ((((s1.trans s14).trans s5).trans (s6.trans s7)).new ntt) (Rp.tup upd_same (RpL.cons ?_ (RpL.cons Rp.str RpL.nil)))
      exact rp_head.mpr ⟨t7, rfl, SqT.of ((upd_ne (ne_of_none ht7 ntt)).trans ht7)⟩
theorem scIsHead : FnScope ["thing", "number"] ["thing"] (defScope sIsHead) := ⟨rfl, rfl, rfl, by decide +kernel, rfl, by decide +kernel, by decide +kernel⟩
theorem ok_ishead {f : Addr} {fd : FuncData} (F : Fun K "is_head" "is_head" sIsHead f fd) (B : HB K mg) (cF : Cd P w K mg base 2 "is_from" ["thing", "low", "high"] spFrom) : FnOk P w K mg base CX0 3 f fd ["thing"] (spIsHead K) := by
  obtain ⟨fF, fdF, GF, mF, kF, bF⟩ := cF
  obtain ⟨_, mMANY⟩ := B.many
  obtain ⟨_, mGREAT⟩ := B.great
  obtain ⟨aK, mKIND, hKIND⟩ := B.kinds
  refine F.ok scIsHead (fun vs H Q E h => ?_) (fun cdv A outer s H vs Q E hr h => ?_)
  · obtain ⟨h, v, rfl, _⟩ := h
    rfl
  · obtain ⟨h, v, rfl, rv, ok, k⟩ := h
    have hr2 : Room 2 _ := hr
    refine ⟨_, (pss_cons (ps_if (PW.pt (pw_or (pt_not (pt_val (pe_callB (isiK (K := K) rfl) (by rfl) B.isinstance (by decide +kernel) (pa_cons (pv 0) (pa_cons (pe_bltn (v := .ty "tuple") (by rfl) B.tuple PyProof.Rows.boot_tuple rfl) pa_nil))))) (pw_or1 (pt_cmpR op_ne (pe_callB (lenK (K := K) rfl) (by rfl) B.len PySem.boot_len (pa_cons (pv 0) pa_nil)) (pe_glob (v := .int 7) (by rfl) mMANY ⟨_, rfl⟩) (nomark _)))))
       (pss_one (ps_ret pe_bl))
       pss_nil)
       (pss_cons (ps_if (PW.pt (pw_or (pt_not (pt_val (pe_callB (isiK (K := K) rfl) (by rfl) B.isinstance (by decide +kernel) (pa_cons (pe_ix (ixT (K := K) rfl) (pv 0) pe_int (fun _ _ => rfl)) (pa_cons (pe_bltn (v := .ty "str") (by rfl) B.str PyProof.Rows.boot_str rfl) pa_nil))))) (pw_or1 (pt_cmpR (notInSeqK (K := K) rfl) (pe_ix (ixT (K := K) rfl) (pv 0) pe_int (fun _ _ => rfl)) (pe_glob (v := .ref aK) (by rfl) mKIND rfl) (by rfl)))))
       (pss_one (ps_ret pe_bl))
       pss_nil)
       (pss_one (ps_ret (pe_callB (crAllK (K := K) rfl rfl) (by rfl) B.all (by decide +kernel) (pa_cons (pe_lc (own := [("number", 1)]) (g := (gName 1)) (tt := tYes) rfl scIsHead.nd (pi_tup (pe_op (opCatT (K := K) rfl) (pe_slice (slT (K := K) rfl) (pv 0) po_none (po_some pe_int)) (pe_slice (slT (K := K) rfl) (pv 0) (po_some pe_int) po_none))) (blkOk_by (N := ["thing", "number"]) (sc := defScope sIsHead) (by decide +kernel))
       (fun _ _ _ _ _ => (pg_name (i := 1) scIsHead.nd rfl (Or.inl rfl))) (fun _ _ _ _ _ => pts_nil) (fun _ _ _ _ _ => (pe_call GF hr2 rfl mF kF bF .nil pass0 (pa_cons (pv 1) (pa_cons pe_int (pa_cons (pe_glob (v := .int 1000000) (by rfl) mGREAT ⟨_, rfl⟩) pa_nil)))))) pa_nil)))))), ?_⟩
    obtain ⟨a, rfl, ha⟩ := rp_head.mp rv
    refine ⟨_, rfl, _, _, _, _, true, rfl, .ty _, ty_tup ha, kit_ty (by decide +kernel), _, rfl, iteF ?_⟩
    refine ⟨_, rfl, _, 7, rfl, .inr ⟨_, ha, rfl⟩, rfl, _, rfl, iteNS rfl ?_⟩
    refine ⟨_, rfl, a, _, _, _, rfl, rfl, ha, rfl, _, _, _, _, true, rfl, .ty _, .base (.str _), kit_ty (by decide +kernel), _, rfl, iteF ?_⟩
    refine ⟨_, rfl, a, _, _, _, rfl, rfl, ha, rfl, aK, _, rfl, .inr (hKIND _), rfl, kinds_flat, _, rfl, ?_⟩
    show if (!inV (.str (S [h.k])) kindsV) = true then _ else _
    rw [kinds_in ok.k]
    refine iteF ?_
    refine ⟨_, rfl, _, rfl, a, _, rfl, ha, (by show ¬ (HT.sIx 7 0 none = 0 ∧ HT.sIx 7 7 (some 1) = 7); decide +kernel), fun t1 nt1 => ?_⟩
    have s1 : Same H (upd H t1 (.tup [.int (h.r : Int)])) := (L2.Same.refl _).new nt1
    have ht1 : upd H t1 (.tup [.int (h.r : Int)]) t1 = some (.tup [.int (h.r : Int)]) := upd_same
    rw [show cutV h.vs none (some 1) = [.int (h.r : Int)] from rfl]
    generalize upd H t1 (.tup [.int (h.r : Int)]) = H1 at s1 ht1
    refine ⟨_, rfl, _, rfl, a, _, rfl, SqT.tk ha (TK.of s1), (by show ¬ (HT.sIx 7 0 (some 2) = 0 ∧ HT.sIx 7 7 none = 7); decide +kernel), fun t2 nt2 => ?_⟩
    rw [show cutV h.vs (some 2) none = [.int (h.a : Int), .int (h.b : Int), .int (h.c : Int), .int (h.d : Int), .int (h.e : Int)] from rfl]
    have s2 : Same H1 (upd H1 t2 (.tup [.int (h.a : Int), .int (h.b : Int), .int (h.c : Int), .int (h.d : Int), .int (h.e : Int)])) := (L2.Same.refl _).new nt2
    have ht2 : upd H1 t2 (.tup [.int (h.a : Int), .int (h.b : Int), .int (h.c : Int), .int (h.d : Int), .int (h.e : Int)]) t2 = some (.tup [.int (h.a : Int), .int (h.b : Int), .int (h.c : Int), .int (h.d : Int), .int (h.e : Int)]) := upd_same
    generalize upd H1 t2 (.tup [.int (h.a : Int), .int (h.b : Int), .int (h.c : Int), .int (h.d : Int), .int (h.e : Int)]) = H2 at s2 ht2
    refine ⟨t1, t2, _, _, rfl, rfl, SqT.of (s2 _ _ ht1), SqT.of ht2, (by simp), (by show 6 ≤ sizeLine; decide), (fun z => by cases z), fun _ t3 nt3 => ?_⟩
    have s3 : Same H2 (upd H2 t3 (.tup ([h.r, h.a, h.b, h.c, h.d, h.e].map fun n : Nat => V.int (n : Int)))) := (L2.Same.refl _).new nt3
    have ht3 : upd H2 t3 (.tup ([h.r, h.a, h.b, h.c, h.d, h.e].map fun n : Nat => V.int (n : Int))) t3 = some (.tup ([h.r, h.a, h.b, h.c, h.d, h.e].map fun n : Nat => V.int (n : Int))) := upd_same
    rw [show ([.int (h.r : Int)] : List V) ++ [.int (h.a : Int), .int (h.b : Int), .int (h.c : Int), .int (h.d : Int), .int (h.e : Int)] = ([h.r, h.a, h.b, h.c, h.d, h.e].map fun n : Nat => V.int (n : Int)) from rfl]
    generalize upd H2 t3 (.tup ([h.r, h.a, h.b, h.c, h.d, h.e].map fun n : Nat => V.int (n : Int))) = H3 at s3 ht3
    refine ⟨t3, rfl, ⟨_, SqT.of ht3⟩, fun D hD => ?_⟩
    refine mapD_it (K := K) (walk_tup (K := K) (a := t3) (xs := [h.r, h.a, h.b, h.c, h.d, h.e].map fun n : Nat => V.int (n : Int))) (fun H' s => SqT.of (s _ _ ht3)) (enc := fun n : Nat => .int (n : Int)) (L := [h.r, h.a, h.b, h.c, h.d, h.e]) (fun n => .bool true) ?_ hD (by show 6 ≤ 1000000; decide) ?_ ?_
    · exact RpL.cons Rp.int (RpL.cons Rp.int (RpL.cons Rp.int (RpL.cons Rp.int (RpL.cons Rp.int (RpL.cons Rp.int RpL.nil)))))
    · intro n x H' Q' hn rx sx kk
      obtain rfl := Rp.int_eq rx
      have hn' : n ≤ 1000000 := by
        have := ok.r
        have := ok.a
        have := ok.b
        have := ok.c
        have := ok.d
        have := ok.e
        simp at hn
        omega
      refine ⟨_, rfl, (n : Int), 0, 1000000, rfl, ?_⟩
      rw [show decide ((0 : Int) ≤ (n : Int) ∧ (n : Int) ≤ 1000000) = true from decide_eq_true (by omega)]
      exact kk _ _ (L2.Same.refl _) Rp.bool
    · intro H4 ys s4 hD4 r4
      have ey := RpL.flat (g := fun n : Nat => V.bl true) (fun b v r => Rp.bool_eq r) r4
      subst ey
      refine ⟨D, [true, true, true, true, true, true], rfl, SqL.of hD4, k _ ((s1.trans s2).trans (s3.trans s4))⟩
end
end Wn

namespace Wn
open PySem L2
open SX (S S_len S_cat S_beq_eq join_S)
abbrev sSign : Stmt := top 24
abbrev sText : Stmt := top 25

def allSigns : Str := Str.ofString " !\"#$&'()*+,-./0123456789:;<=>?@ABCDEFGHIJKLMNOPQRSTUVWXYZ[\\]^_" ++ Str.ofString "`abcdefghijklmnopqrstuvwxyz{|}~"
theorem allSigns_len : allSigns.cps.toList.length = 94 := by decide +kernel
theorem allSigns_ok : (allSigns.cps.toList.all fun c => decide (32 ≤ c) && decide (c ≤ 126) && decide (c ≠ 37)) = true := by decide +kernel
theorem allSigns_sz : (Str.ofString " !\"#$&'()*+,-./0123456789:;<=>?@ABCDEFGHIJKLMNOPQRSTUVWXYZ[\\]^_").length + (Str.ofString "`abcdefghijklmnopqrstuvwxyz{|}~").length ≤ sizeLine := by decide +kernel
theorem allSigns_sz2 : allSigns.length ≤ sizeLine := by decide +kernel
section
variable {P : Program} {w : World} {K : PySem.W.Frag} {mg : Str → Option Value} {base : Heap}
theorem scSign : FnScope ["_law_deck_here", "_law_some"] ["_law_deck_here"] (defScope sSign) := ⟨rfl, rfl, rfl, by decide +kernel, rfl, by decide +kernel, by decide +kernel⟩
theorem ok_sign {f : Addr} {fd : FuncData} (F : Fun K "_law_sign" "_law_sign" sSign f fd)
    (cN : Cd P w K mg base 2 "_law_next" ["_law_deck_here", "_law_many"] spNext) : FnOk P w K mg base CX0 3 f fd ["_law_deck_here"] spSign := by
  obtain ⟨fN, fdN, GN, mN, kN, bN⟩ := cN.tk
  refine F.ok scSign (fun vs H Q E h => ?_) (fun cdv A outer s H vs Q E hr h => ?_)
  · obtain ⟨d, f, n, rfl, _⟩ := h
    rfl
  · obtain ⟨d, f, n, rfl, D0, hn, k⟩ := h
    have hr2 : Room 2 _ := hr
    refine ⟨_, (pss_cons (ps_set (i := 1) scSign.nd rfl (Or.inl rfl) pe_str)
       (pss_cons (ps_set (i := 1) scSign.nd rfl (Or.inl rfl) (pe_op op_add_str (pv 1) pe_str))
       (pss_one (ps_ret (pe_ix ix_str (pv 1) (pe_call GN hr2 rfl mN kN bN .nil pass0 (pa_cons (pv 0) (pa_cons pe_int pa_nil))) (fun _ _ => rfl)))))), ?_⟩
    refine ⟨_, rfl, _, _, rfl, rfl, allSigns_sz, ?_⟩
    refine ⟨_, rfl, _, rfl, d, f, 94, n, rfl, by decide, hn, D0, fun r H1 r0 r1 k1 D1 t1 => ?_⟩
    have hj : r.toNat < allSigns.cps.toList.length := by rw [allSigns_len]; omega
    have hr' : ((r.toNat : Nat) : Int) = r := by omega
    have ha : atI allSigns.cps.toList r = some (allSigns.cps.toList[r.toNat]) := by
      have := atI_nat (xs := allSigns.cps.toList) (j := r.toNat) (v := allSigns.cps.toList[r.toNat]) (by simp [hj])
      rw [hr'] at this
      exact this
    refine ⟨allSigns, r, _, rfl, rfl, allSigns_sz2, ha, k _ _ ?_ k1 D1⟩
    have h1 := List.all_eq_true.mp allSigns_ok _ (List.getElem_mem hj)
    simp only [Bool.and_eq_true, decide_eq_true_eq] at h1
    exact ⟨h1.1.1, h1.1.2, h1.2⟩
theorem scText : FnScope ["_law_deck_here", "_law_most", "_law_k"] ["_law_deck_here", "_law_most"] (defScope sText) := ⟨rfl, rfl, rfl, by decide +kernel, rfl, by decide +kernel, by decide +kernel⟩
theorem ok_text {f : Addr} {fd : FuncData} (F : Fun K "_law_text" "_law_text" sText f fd) (zR : mg "range" = none)
    (cN : Cd P w K mg base 2 "_law_next" ["_law_deck_here", "_law_many"] spNext) (cG : Cd P w K mg base 3 "_law_sign" ["_law_deck_here"] spSign) : FnOk P w K mg base CX0 4 f fd ["_law_deck_here", "_law_most"] spText := by
  obtain ⟨fN, fdN, GN, mN, kN, bN⟩ := cN.tk
  obtain ⟨fG, fdG, GG, mG, kG, bG⟩ := cG.tk
  refine F.ok scText (fun vs H Q E h => ?_) (fun cdv A outer s H vs Q E hr h => ?_)
  · obtain ⟨d, f, n, most, rfl, _⟩ := h
    rfl
  · obtain ⟨d, f, n, most, rfl, D0, hn, m0, m1, k⟩ := h
    have hr2 : Room 2 _ := hr.mono (by decide)
    have hr3 : Room 3 _ := hr
    refine ⟨_, (pss_one (ps_ret (joinK (K := K) rfl pe_str (pe_lc (own := [("_law_k", 2)]) (g := (gName 2)) (tt := tYes) rfl scText.nd (pi_range1 rfl zR (pa_cons (pe_call GN hr2 rfl mN kN bN .nil pass0 (pa_cons (pv 0) (pa_cons (pe_op op_add (pv 1) pe_int) pa_nil))) pa_nil)) (blkOk_by (N := ["_law_deck_here", "_law_most", "_law_k"]) (sc := defScope sText) (by decide +kernel))
       (fun _ _ _ _ _ => (pg_name (i := 2) scText.nd rfl (Or.inl rfl))) (fun _ _ _ _ _ => pts_nil) (fun _ _ _ _ _ => (pe_call GG hr3 rfl mG kG bG .nil pass0 (pa_cons (pv 0) pa_nil))))))), ?_⟩
    refine ⟨⟨_, rfl⟩, ?_⟩
    refine ⟨_, rfl, _, rfl, _, _, rfl, rfl, d, f, most + 1, n, rfl, by omega, by omega, D0, fun r H1 r0 r1 k1 D1 t1 => ?_⟩
    refine ⟨r, rfl, by omega, by omega, fun D hD => ?_⟩
    have nDd : D ≠ d := (ne_of_none D1.lst.choose_spec hD).symm
    have s2 : Same H1 (upd H1 D (.lst [])) := (L2.Same.refl H1).new hD
    refine lc_range (lo := 0) (n := r.toNat) (fun j H' => ∃ cs : List Nat, H' D = some (.lst ((cs.map fun c => S [c]).map V.str)) ∧ cs.length = j ∧ (∀ c ∈ cs, OkSign c) ∧ Kp [d] H1 H' ∧ Deck H' d f (n + 1 + j)) ⟨[], upd_same, rfl, (by intro c hc; cases hc), Kp.of s2, (D1.same s2).mono (by omega)⟩ ?_ ?_
    · rintro j H3 hj ⟨cs, hD3, lc, oc, k3, D3⟩
      refine ⟨rfl, _, rfl, d, f, n + 1 + j, rfl, D3, by omega, fun c H4 hc k4 D4 t4 => ?_⟩
      have hD4 := k4 _ _ (nin1 nDd) hD3
      refine ⟨_, hD4, ?_, cs ++ [c], ?_, by rw [List.length_append, lc]; rfl, ?_, (k3.trans k4).wrn hD, ?_⟩
      · rw [List.length_map, List.length_map, lc]
        exact Nat.lt_of_le_of_lt (show j ≤ 100000 by omega) (by decide)
      · rw [upd_same, List.map_append, List.map_append]
        rfl
      · intro c' hc'
        rcases List.mem_append.mp hc' with h | h
        · exact oc _ h
        · rw [List.mem_singleton.mp h]
          exact hc
      · have hf : f ≠ D := ne_of_none D1.lst2.choose_spec hD
        exact (D4.kp (M := [D]) ((Kp.refl _ _).wr (List.mem_singleton.mpr rfl)) (nin1 nDd.symm) (nin1 hf)).mono (by omega)
    · rintro H3 ⟨cs, hD3, lc, oc, k3, D3⟩
      refine ⟨_, D, cs.map fun c => S [c], rfl, rfl, .inl (SqL.of hD3), ?_, ?_⟩
      · rw [sum_signs, List.length_map]
        show cs.length + cs.length * 0 ≤ _
        omega
      · rw [show (Txt.join (Str.ofString "") (cs.map fun c => S [c])) = S cs from join_signs cs]
        exact k cs H3 (by omega) oc (k1.trans k3) (D3.mono (by omega))
end
end Wn

namespace Wn
open PySem L2
open SX (S S_len S_cat S_beq_eq join_S)
abbrev sPick : Stmt := top 20
abbrev sCount : Stmt := top 22
abbrev sHead : Stmt := top 23
abbrev sLWritten : Stmt := top 26
structure LB (mg : Str → Option Value) : Prop where
  len : mg "len" = none
  range : mg "range" = none
  tuple : mg "tuple" = none
  int : mg "int" = none
  str : mg "str" = none
  enumerate : mg "enumerate" = none

def spPick (K : PySem.W.Frag) : Sp := fun vs H Q _ => ∃ (d f l : Addr) (n : Int) (xs : List V), vs = [.ref d, .ref l] ∧ Deck H d f n ∧ n < 2 ^ 60 ∧ H l = some (.lst xs) ∧ l ≠ d ∧ 0 < xs.length ∧ xs.length ≤ 1000 ∧
  ∀ (H' : Hp) (x : V), x ∈ xs → Kp [d] H H' → Deck H' d f (n + 1) → Q x H'
def spCount : Sp := fun vs H Q _ => ∃ (d f : Addr) (n : Int), vs = [.ref d] ∧ Deck H d f n ∧ n < 2 ^ 59 ∧
  ∀ (H' : Hp) (c : Nat), c ≤ 1000000 → Kp [d] H H' → Deck H' d f (n + 2) → Q (.int (c : Int)) H'
def spHead (K : PySem.W.Frag) : Sp := fun vs H Q _ => ∃ (d f : Addr) (n : Int), vs = [.ref d] ∧ Deck H d f n ∧ n < 2 ^ 58 ∧
  ∀ (H' : Hp) (h : Hd) (v : V), h.Ok → Kp [d] H H' → Deck H' d f (n + 20) → Rp K H' h.D v → Q v H'
theorem at4i {a b c d : Int} {r : Int} (h0 : 0 ≤ r) (h1 : r < 4) : ∃ v : Int, atI [V.int a, .int b, .int c, .int d] r = some (.int v) ∧ (v = a ∨ v = b ∨ v = c ∨ v = d) := by
  have h : r = 0 ∨ r = 1 ∨ r = 2 ∨ r = 3 := by omega
  rcases h with rfl | rfl | rfl | rfl
  · exact ⟨a, rfl, .inl rfl⟩
  · exact ⟨b, rfl, .inr (.inl rfl)⟩
  · exact ⟨c, rfl, .inr (.inr (.inl rfl))⟩
  · exact ⟨d, rfl, .inr (.inr (.inr rfl))⟩
theorem joinL_snoc (sep x : List Nat) : ∀ l : List (List Nat), l ≠ [] → TL.joinL sep (l ++ [x]) = TL.joinL sep l ++ (sep ++ x)
  | [], h => (h rfl).elim
  | [p], _ => rfl
  | p :: q :: r, _ => by
    show p ++ (sep ++ TL.joinL sep (q :: r ++ [x])) = (p ++ (sep ++ TL.joinL sep (q :: r))) ++ (sep ++ x)
    rw [joinL_snoc sep x (q :: r) (by simp)]
    simp
theorem head_part {h : Hd} {i : Nat} (hi : i < 7) (p : HP) (hp : h.L[i]? = some p) : TL.joinL [46] ((h.L.take (i + 1)).map HP.txt) = TL.joinL [46] ((h.L.take i).map HP.txt) ++ ((if i = 0 then [] else [46]) ++ p.txt) := by
  have hlt : i < h.L.length := hi
  have e := (List.getElem?_eq_some_iff.mp hp).2
  rw [List.take_succ_eq_append_getElem hlt, List.map_append, e]
  by_cases h0 : i = 0
  · subst h0
    rfl
  · rw [if_neg h0]
    refine joinL_snoc [46] p.txt _ fun z => ?_
    have z1 := congrArg List.length z
    rw [List.length_map, List.length_take, List.length_nil] at z1
    omega
theorem part_len {h : Hd} (ok : h.Ok) : ∀ i, (TL.joinL [46] ((h.L.take i).map HP.txt)).length ≤ 8 * i := by
  intro i
  induction i with
  | zero => simp [TL.joinL]
  | succ i ih =>
    by_cases hi : i < 7
    · have hlt : i < h.L.length := hi
      rw [head_part hi _ (List.getElem?_eq_getElem hlt), List.length_append, List.length_append]
      have h1 : (h.L[i]).txt.length ≤ 7 := by
        have hm := List.getElem_mem hlt
        generalize h.L[i] = p at hm
        cases p with
        | num n => exact num_len7 (num_le ok hm)
        | word c => show 1 ≤ 7; decide
      have h2 : (if i = 0 then ([] : List Nat) else [46]).length ≤ 1 := by split <;> simp
      omega
    · have : h.L.take (i + 1) = h.L.take i := by
        rw [List.take_of_length_le (show h.L.length ≤ i + 1 by show 7 ≤ _; omega), List.take_of_length_le (show h.L.length ≤ i by show 7 ≤ _; omega)]
      rw [this]
      omega
section
variable {P : Program} {w : World} {K : PySem.W.Frag} {mg : Str → Option Value} {base : Heap}
theorem scPick : FnScope ["_law_deck_here", "_law_things"] ["_law_deck_here", "_law_things"] (defScope sPick) := ⟨rfl, rfl, rfl, by decide +kernel, rfl, by decide +kernel, by decide +kernel⟩
theorem ok_pick {f : Addr} {fd : FuncData} (F : Fun K "_law_pick" "_law_pick" sPick f fd) (B : LB mg) (cN : Cd P w K mg base 2 "_law_next" ["_law_deck_here", "_law_many"] spNext) : FnOk P w K mg base CX0 3 f fd ["_law_deck_here", "_law_things"] (spPick K) := by
  obtain ⟨fN, fdN, GN, mN, kN, bN⟩ := cN
  refine F.ok scPick (fun vs H Q E h => ?_) (fun cdv A outer s H vs Q E hr h => ?_)
  · obtain ⟨d, f, l, n, xs, rfl, _⟩ := h
    rfl
  · obtain ⟨d, f, l, n, xs, rfl, D0, hn, hl, nld, x0, x1, k⟩ := h
    have hr2 : Room 2 _ := hr
    refine ⟨_, (pss_one (ps_ret (pe_ix (ixL (K := K) rfl) (pv 1) (pe_call GN hr2 rfl mN kN bN .nil pass0 (pa_cons (pv 0) (pa_cons (pe_callB (lenK (K := K) rfl) (by rfl) B.len PySem.boot_len (pa_cons (pv 1) pa_nil)) pa_nil))) (fun _ _ => rfl)))), ?_⟩
    refine ⟨_, rfl, _, rfl, _, rfl, _, xs.length, rfl, .inl ⟨_, SqL.of hl, rfl⟩, d, f, (xs.length : Int), n, rfl, by omega, hn, D0, fun r H1 r0 r1 k1 D1 => ?_⟩
    have hj : r.toNat < xs.length := by omega
    refine ⟨l, xs, r, xs[r.toNat], rfl, rfl, SqL.of (k1 _ _ (nin1 nld) hl), ?_, k _ _ (List.getElem_mem hj) k1 D1⟩
    have := atI_nat (xs := xs) (j := r.toNat) (v := xs[r.toNat]) (by simp [hj])
    rw [show ((r.toNat : Nat) : Int) = r by omega] at this
    exact this
theorem scCount : FnScope ["_law_deck_here", "_law_way"] ["_law_deck_here"] (defScope sCount) := ⟨rfl, rfl, rfl, by decide +kernel, rfl, by decide +kernel, by decide +kernel⟩
theorem ok_count {f : Addr} {fd : FuncData} (F : Fun K "_law_count" "_law_count" sCount f fd) (B : LB mg) (cN : Cd P w K mg base 2 "_law_next" ["_law_deck_here", "_law_many"] spNext) : FnOk P w K mg base CX0 3 f fd ["_law_deck_here"] spCount := by
  obtain ⟨fN, fdN, GN, mN, kN, bN⟩ := cN
  refine F.ok scCount (fun vs H Q E h => ?_) (fun cdv A outer s H vs Q E hr h => ?_)
  · obtain ⟨d, f, n, rfl, _⟩ := h
    rfl
  · obtain ⟨d, f, n, rfl, D0, hn, k⟩ := h
    have hr2 : Room 2 _ := hr
    refine ⟨_, (pss_cons (ps_set (i := 1) scCount.nd rfl (Or.inl rfl) (pe_call GN hr2 rfl mN kN bN .nil pass0 (pa_cons (pv 0) (pa_cons pe_int pa_nil))))
       (pss_cons (ps_if (pt_cmpR op_lt (pv 1) pe_int (nomark _))
       (pss_one (ps_ret (pe_ix (ixL (K := K) rfl) (pe_lst (pa_cons pe_int (pa_cons (pe_op op_pow pe_int pe_int) pa_nil))) (pv 1) (fun _ _ => rfl))))
       pss_nil)
       (pss_one (ps_ret (pe_call GN hr2 rfl mN kN bN .nil pass0 (pa_cons (pv 0) (pa_cons (pe_ix (ixL (K := K) rfl) (pe_lst (pa_cons pe_int (pa_cons pe_int (pa_cons pe_int (pa_cons (pe_op op_pow pe_int pe_int) pa_nil))))) (pe_op op_sub (pv 1) pe_int) (fun _ _ => rfl)) pa_nil))))))), ?_⟩
    refine ⟨_, rfl, d, f, 6, n, rfl, by decide, by omega, D0, fun r H1 r0 r1 k1 D1 => ?_⟩
    refine ⟨_, rfl, _, _, rfl, rfl, _, rfl, ?_⟩
    have e6 : (fun i j : Int => V.int (i ^ j.toNat)) 10 6 = V.int 1000000 := by decide +kernel
    refine ite2 (fun h => ?_) (fun h => ?_)
    · have h := of_decide_eq_true h
      refine ⟨_, _, rfl, rfl, ⟨by decide, by decide, by decide⟩, ?_⟩
      rw [e6]
      refine ⟨(by show 2 ≤ sizeLine; decide), fun l nl => ?_⟩
      obtain ⟨v, hv, hv2⟩ : ∃ v : Nat, atI [V.int 0, .int 1000000] r = some (.int (v : Int)) ∧ v ≤ 1000000 := by
        have h : r = 0 ∨ r = 1 := by omega
        rcases h with rfl | rfl
        · exact ⟨0, rfl, by decide⟩
        · exact ⟨1000000, rfl, by decide⟩
      refine ⟨_, rfl, l, _, _, _, rfl, rfl, SqL.of upd_same, hv, k _ v hv2 (k1.new nl) ((D1.same ((L2.Same.refl _).new nl)).mono (by omega))⟩
    · have h : ¬ r < 2 := fun z => h (decide_eq_true z)
      refine ⟨_, rfl, _, _, rfl, rfl, ⟨by decide, by decide, by decide⟩, ?_⟩
      rw [e6]
      refine ⟨(by show 4 ≤ sizeLine; decide), fun l nl => ?_⟩
      have s2 : Same H1 (upd H1 l (.lst [.int 10, .int 100, .int 1000, .int 1000000])) := (L2.Same.refl _).new nl
      have hl : upd H1 l (.lst [.int 10, .int 100, .int 1000, .int 1000000]) l = some (.lst [.int 10, .int 100, .int 1000, .int 1000000]) := upd_same
      generalize upd H1 l (.lst [.int 10, .int 100, .int 1000, .int 1000000]) = H2 at s2 hl
      obtain ⟨v, hv, hv2⟩ := at4i (a := 10) (b := 100) (c := 1000) (d := 1000000) (r := r - 2) (by omega) (by omega)
      refine ⟨_, rfl, _, _, rfl, rfl, l, _, _, _, rfl, rfl, SqL.of hl, hv, ?_⟩
      refine ⟨d, f, v, n + 1, rfl, by omega, by omega, D1.same s2, fun z H3 z0 z1 k3 D3 => ?_⟩
      obtain ⟨c, rfl⟩ : ∃ c : Nat, z = (c : Int) := ⟨z.toNat, by omega⟩
      exact k _ c (by omega) ((k1.trans (Kp.of s2)).trans k3) (D3.mono (by omega))
theorem scHead : FnScope ["_law_deck_here", "_law_kind", "_law_k"] ["_law_deck_here"] (defScope sHead) := ⟨rfl, rfl, rfl, by decide +kernel, rfl, by decide +kernel, by decide +kernel⟩
theorem ok_head {f : Addr} {fd : FuncData} (F : Fun K "_law_head" "_law_head" sHead f fd) (B : LB mg) (cP : Cd P w K mg base 3 "_law_pick" ["_law_deck_here", "_law_things"] (spPick K)) (cC : Cd P w K mg base 3 "_law_count" ["_law_deck_here"] spCount) : FnOk P w K mg base CX0 4 f fd ["_law_deck_here"] (spHead K) := by
  obtain ⟨fP, fdP, GP, mP, kP, bP⟩ := cP
  obtain ⟨fC, fdC, GC, mC, kC, bC⟩ := cC
  refine F.ok scHead (fun vs H Q E h => ?_) (fun cdv A outer s H vs Q E hr h => ?_)
  · obtain ⟨d, f, n, rfl, _⟩ := h
    rfl
  · obtain ⟨d, f, n, rfl, D0, hn, k⟩ := h
    have hr3 : Room 3 _ := hr
    refine ⟨_, (pss_cons (ps_set (i := 1) scHead.nd rfl (Or.inl rfl) (pe_call GP hr3 rfl mP kP bP .nil pass0 (pa_cons (pv 0) (pa_cons (pe_lst (pa_cons pe_str (pa_cons pe_str (pa_cons pe_str (pa_cons pe_str (pa_cons pe_str (pa_cons pe_str pa_nil))))))) pa_nil))))
       (pss_one (ps_ret (pe_op (opCatT (K := K) rfl) (pe_tup (pa_cons (pe_call GC hr3 rfl mC kC bC .nil pass0 (pa_cons (pv 0) pa_nil)) (pa_cons (pv 1) pa_nil))) (pe_callTy (tupOfK (K := K) rfl) (by rfl) B.tuple PyProof.Rows.boot_tuple (pa_cons (pe_lc (own := [("_law_k", 2)]) (g := (gName 2)) (tt := tYes) rfl scHead.nd (pi_range1 rfl B.range (pa_cons pe_int pa_nil)) (blkOk_by (N := ["_law_deck_here", "_law_kind", "_law_k"]) (sc := defScope sHead) (by decide +kernel))
       (fun _ _ _ _ _ => (pg_name (i := 2) scHead.nd rfl (Or.inl rfl))) (fun _ _ _ _ _ => pts_nil) (fun _ _ _ _ _ => (pe_call GC hr3 rfl mC kC bC .nil pass0 (pa_cons (pv 0) pa_nil)))) pa_nil)))))), ?_⟩
    refine ⟨_, rfl, (by show 6 ≤ sizeLine; decide), fun l nl => ?_⟩
    have s1 : Same H (upd H l (.lst kindsV)) := (L2.Same.refl _).new nl
    have hl : upd H l (.lst kindsV) l = some (.lst kindsV) := upd_same
    have nld : l ≠ d := (ne_of_none D0.lst.choose_spec nl).symm
    rw [show ([.str (Str.ofString "l"), .str (Str.ofString "u"), .str (Str.ofString "a"), .str (Str.ofString "f"), .str (Str.ofString "h"), .str (Str.ofString "t")] : List V) = kindsV from rfl]
    generalize upd H l (.lst kindsV) = H1 at s1 hl
    refine ⟨d, f, l, n, _, rfl, D0.same s1, by omega, hl, nld, by decide, by decide, fun H2 x hx k2 D2 => ?_⟩
    obtain ⟨kd, hkd, rfl⟩ : ∃ kd, kd ∈ kindsL ∧ V.str (S [kd]) = x := by
      obtain ⟨c, h1, h2⟩ := List.mem_map.mp hx
      exact ⟨c, h1, h2⟩
    refine ⟨_, rfl, d, f, n + 1, rfl, D2, by omega, fun H3 r hr' k3 D3 => ?_⟩
    refine ⟨_, rfl, (by show 2 ≤ sizeLine; decide), fun t1 nt1 => ?_⟩
    have s4 : Same H3 (upd H3 t1 (.tup [.int (r : Int), .str (S [kd])])) := (L2.Same.refl _).new nt1
    have ht1 : upd H3 t1 (.tup [.int (r : Int), .str (S [kd])]) t1 = some (.tup [.int (r : Int), .str (S [kd])]) := upd_same
    have nt1d : t1 ≠ d := (ne_of_none D3.lst.choose_spec nt1).symm
    generalize upd H3 t1 (.tup [.int (r : Int), .str (S [kd])]) = H4 at s4 ht1
    refine ⟨5, rfl, by decide, by decide, fun D hD => ?_⟩
    have D4 := D3.same s4
    have nDd : D ≠ d := (ne_of_none D4.lst.choose_spec hD).symm
    have nDf : f ≠ D := ne_of_none D4.lst2.choose_spec hD
    have s5 : Same H4 (upd H4 D (.lst [])) := (L2.Same.refl _).new hD
    refine lc_range (lo := 0) (n := 5) (fun j H' => ∃ cs : List Nat, H' D = some (.lst (cs.map fun (c : Nat) => V.int (c : Int))) ∧ cs.length = j ∧ (∀ c ∈ cs, c ≤ 1000000) ∧ Kp [d] H4 H' ∧ Deck H' d f (n + 3 + 2 * j)) ⟨[], upd_same, rfl, (by intro c hc; cases hc), Kp.of s5, (D4.same s5).mono (by omega)⟩ ?_ ?_
    · rintro j H5 hj ⟨cs, hD5, lc, oc, k5, D5⟩
      refine ⟨rfl, _, rfl, d, f, n + 3 + 2 * j, rfl, D5, by omega, fun H6 c hc k6 D6 => ?_⟩
      have hD6 := k6 _ _ (nin1 nDd) hD5
      refine ⟨_, hD6, ?_, cs ++ [c], ?_, by rw [List.length_append, lc]; rfl, ?_, (k5.trans k6).wrn hD, ?_⟩
      · rw [List.length_map, lc]
        exact Nat.lt_of_le_of_lt (show j ≤ 5 by omega) (by decide)
      · rw [upd_same, List.map_append]
        rfl
      · intro c' hc'
        rcases List.mem_append.mp hc' with h | h
        · exact oc _ h
        · rw [List.mem_singleton.mp h]
          exact hc
      · exact (D6.kp (M := [D]) ((Kp.refl _ _).wr (List.mem_singleton.mpr rfl)) (nin1 nDd.symm) (nin1 nDf)).mono (by omega)
    · rintro H5 ⟨cs, hD5, lc, oc, k5, D5⟩
      obtain ⟨a, b, c, e, g, rfl⟩ : ∃ a b c e g, cs = [a, b, c, e, g] := by
        match cs, lc with
        | [a, b, c, e, g], _ => exact ⟨a, b, c, e, g, rfl⟩
      refine ⟨D, _, rfl, .inl ⟨SqL.of hD5, fun t2 nt2 => ?_⟩⟩
      have s6 : Same H5 (upd H5 t2 (.tup ([a, b, c, e, g].map fun c : Nat => V.int (c : Int)))) := (L2.Same.refl _).new nt2
      have ht2 : upd H5 t2 (.tup ([a, b, c, e, g].map fun c : Nat => V.int (c : Int))) t2 = some (.tup ([a, b, c, e, g].map fun c : Nat => V.int (c : Int))) := upd_same
      generalize upd H5 t2 (.tup ([a, b, c, e, g].map fun c : Nat => V.int (c : Int))) = H6 at s6 ht2
      refine ⟨t1, t2, _, _, rfl, rfl, SqT.of (s6 _ _ (k5 _ _ (nin1 nt1d) ht1)), SqT.of ht2, (by simp), (by show 7 ≤ sizeLine; decide), (fun z => by cases z), fun _ t3 nt3 => ?_⟩
      have kA : Kp [d] H H6 := ((((Kp.of s1).trans k2).trans k3).trans (Kp.of s4)).trans (k5.trans (Kp.of s6))
      refine k _ ⟨r, kd, a, b, c, e, g⟩ _ ⟨hkd, hr', oc a (by simp), oc b (by simp), oc c (by simp), oc e (by simp), oc g (by simp)⟩ (kA.new nt3) ((D5.same (s6.new nt3)).mono (by omega)) (rp_head.mpr ⟨t3, rfl, SqT.of upd_same⟩)
theorem scLWritten : FnScope ["_law_head_here", "_law_text_here", "_law_found", "_law_k", "_law_part"] ["_law_head_here", "_law_text_here"] (defScope sLWritten) := ⟨rfl, rfl, rfl, by decide +kernel, rfl, by decide +kernel, by decide +kernel⟩
theorem ok_lwritten {f : Addr} {fd : FuncData} (F : Fun K "_law_written" "_law_written" sLWritten f fd) (B : LB mg) : FnOk P w K mg base CX0 1 f fd ["_law_head_here", "_law_text_here"] (spWritten K) := by
  refine F.ok scLWritten (fun vs H Q E h => ?_) (fun cdv A outer s H vs Q E hr h => ?_)
  · obtain ⟨h, v, cs, rfl, _⟩ := h
    rfl
  · obtain ⟨h, v, cs, rfl, rv, ok, hcs, k⟩ := h
    refine ⟨_, (pss_cons (ps_set (i := 2) scLWritten.nd rfl (Or.inl rfl) pe_str)
       (pss_cons (ps_for PassesOwn.never rfl (pi_enumT (by rfl) B.enumerate (pa_cons (pv 0) pa_nil)) (pg_tup rfl (pgs_cons (pg_name (i := 3) scLWritten.nd rfl (Or.inl rfl)) (pgs_cons (pg_name (i := 4) scLWritten.nd rfl (Or.inl rfl)) pgs_nil)))
       (pss_one (ps_set (i := 2) scLWritten.nd rfl (Or.inl rfl) (pe_op op_add_str (pe_op op_add_str (pv 2) (pe_op op_rep_str pe_str (pe_callTy call_int1 (by rfl) B.int PyProof.Rows.boot_int (pa_cons (pe_cmpR op_gt (pv 3) pe_int (nomark _)) pa_nil)))) (pe_callTy call_strU (by rfl) B.str PyProof.Rows.boot_str (pa_cons (pv 4) pa_nil))))))
       (pss_one (ps_ret (pe_op op_add_str (pe_op op_add_str (pv 2) pe_str) (pv 1)))))), ?_⟩
    obtain ⟨a, rfl, ha⟩ := rp_head.mp rv
    refine ⟨_, rfl, a, _, rfl, ha, ?_⟩
    refine for_it (walk_enumT (K := K) (a := a) (xs := h.vs)) (fun i σ H' => ∃ (v3 v4 : Option V), σ = [some (.ref a), some (.str (S cs)), some (.str (S (TL.joinL [46] ((h.L.take i).map HP.txt)))), v3, v4] ∧ Same H H')
      ⟨_, _, rfl, L2.Same.refl _⟩ (fun i σ H' _ ⟨_, _, _, s⟩ => SqT.tk ha (TK.of s)) ?_ ?_
    · rintro i y σ H1 H2 hi ⟨v3, v4, rfl, s1⟩ ⟨T, x, rfl, nT, rfl, hx⟩
      have hi : i < 7 := hi
      obtain ⟨p, hp, rfl⟩ : ∃ p, h.L[i]? = some p ∧ p.v = x := by
        unfold Hd.vs at hx
        rw [List.getElem?_map] at hx
        cases e : h.L[i]? with
        | none =>
          rw [e] at hx
          cases hx
        | some p =>
          rw [e] at hx
          exact ⟨p, rfl, Option.some.inj hx⟩
      have s2 : Same H1 (upd H1 T (.tup [.int (i : Nat), p.v])) := (L2.Same.refl _).new nT
      have hT : upd H1 T (.tup [.int (i : Nat), p.v]) T = some (.tup [.int (i : Nat), p.v]) := upd_same
      generalize upd H1 T (.tup [.int (i : Nat), p.v]) = H2 at s2 hT
      have l1 := part_len ok i
      have l2 := part_len ok (i + 1)
      have step := head_part hi p hp
      refine ⟨T, _, rfl, SqT.of hT, rfl, _, _, rfl, _, _, rfl, rfl, ?_⟩
      refine ⟨_, rfl, _, rfl, _, _, rfl, rfl, .inr ⟨_, rfl, _, _, rfl, rfl, ?_⟩⟩
      by_cases h0 : i = 0
      · refine .inl ⟨by rw [if_neg (by simp [h0])], _, _, rfl, rfl, ?_, ?_⟩
        · show (S (TL.joinL [46] ((h.L.take i).map HP.txt))).length + (S []).length ≤ _
          rw [S_len, S_len]
          exact Nat.le_trans (show (TL.joinL [46] ((h.L.take i).map HP.txt)).length + 0 ≤ 60 by omega) (by decide)
        rw [show S (TL.joinL [46] ((h.L.take i).map HP.txt)) ++ Str.empty = S (TL.joinL [46] ((h.L.take i).map HP.txt) ++ []) from S_cat _ _]
        have last : ∀ (z : List Nat), z = p.txt → (S (TL.joinL [46] ((h.L.take i).map HP.txt) ++ [])).length + (S z).length ≤ sizeLine ∧ S (TL.joinL [46] ((h.L.take i).map HP.txt) ++ []) ++ S z = S (TL.joinL [46] ((h.L.take (i + 1)).map HP.txt)) := by
          rintro z rfl
          have e : TL.joinL [46] ((h.L.take (i + 1)).map HP.txt) = (TL.joinL [46] ((h.L.take i).map HP.txt) ++ []) ++ p.txt := by
            rw [step, if_pos h0, List.append_assoc]
          refine ⟨?_, by rw [S_cat, e]⟩
          rw [S_len, S_len, ← List.length_append, ← e]
          exact Nat.le_trans (show (TL.joinL [46] ((h.L.take (i + 1)).map HP.txt)).length ≤ 60 by omega) (by decide)
        cases p with
        | num m =>
          obtain ⟨e1, e2⟩ := last (TL.numL m) rfl
          refine ⟨_, rfl, .inl ⟨_, rfl, log_small (num_le ok (List.mem_of_getElem? hp)), ?_⟩⟩
          rw [SX.num_S]
          refine ⟨_, _, rfl, rfl, e1, some (.int (i : Nat)), some (HP.v (.num m)), ?_, s1.trans s2⟩
          rw [e2]
          rfl
        | word c =>
          obtain ⟨e1, e2⟩ := last [c] rfl
          refine ⟨_, rfl, .inr ⟨_, rfl, ?_⟩⟩
          refine ⟨_, _, rfl, rfl, e1, some (.int (i : Nat)), some (HP.v (.word c)), ?_, s1.trans s2⟩
          rw [e2]
          rfl
      · refine .inr ⟨by rw [if_pos (decide_eq_true (by omega))], _, _, rfl, rfl, ?_, ?_⟩
        · show (S (TL.joinL [46] ((h.L.take i).map HP.txt))).length + (S [46]).length ≤ _
          rw [S_len, S_len]
          exact Nat.le_trans (show (TL.joinL [46] ((h.L.take i).map HP.txt)).length + 1 ≤ 60 by omega) (by decide)
        rw [show S (TL.joinL [46] ((h.L.take i).map HP.txt)) ++ Str.ofString "." = S (TL.joinL [46] ((h.L.take i).map HP.txt) ++ [46]) from S_cat _ _]
        have last : ∀ (z : List Nat), z = p.txt → (S (TL.joinL [46] ((h.L.take i).map HP.txt) ++ [46])).length + (S z).length ≤ sizeLine ∧ S (TL.joinL [46] ((h.L.take i).map HP.txt) ++ [46]) ++ S z = S (TL.joinL [46] ((h.L.take (i + 1)).map HP.txt)) := by
          rintro z rfl
          have e : TL.joinL [46] ((h.L.take (i + 1)).map HP.txt) = (TL.joinL [46] ((h.L.take i).map HP.txt) ++ [46]) ++ p.txt := by
            rw [step, if_neg h0, List.append_assoc]
          refine ⟨?_, by rw [S_cat, e]⟩
          rw [S_len, S_len, ← List.length_append, ← e]
          exact Nat.le_trans (show (TL.joinL [46] ((h.L.take (i + 1)).map HP.txt)).length ≤ 60 by omega) (by decide)
        cases p with
        | num m =>
          obtain ⟨e1, e2⟩ := last (TL.numL m) rfl
          refine ⟨_, rfl, .inl ⟨_, rfl, log_small (num_le ok (List.mem_of_getElem? hp)), ?_⟩⟩
          rw [SX.num_S]
          refine ⟨_, _, rfl, rfl, e1, some (.int (i : Nat)), some (HP.v (.num m)), ?_, s1.trans s2⟩
          rw [e2]
          rfl
        | word c =>
          obtain ⟨e1, e2⟩ := last [c] rfl
          refine ⟨_, rfl, .inr ⟨_, rfl, ?_⟩⟩
          refine ⟨_, _, rfl, rfl, e1, some (.int (i : Nat)), some (HP.v (.word c)), ?_, s1.trans s2⟩
          rw [e2]
          rfl
    · rintro σ H1 ⟨v3, v4, rfl, s1⟩
      have e7 : h.L.take h.vs.length = h.L := rfl
      rw [e7]
      have hl := head_len ok
      refine ⟨_, rfl, _, _, rfl, rfl, ?_, _, rfl, _, _, rfl, rfl, ?_, ?_⟩
      · rw [S_len]
        exact Nat.le_trans (show h.txt.length + 1 ≤ 50 by omega) (by decide)
      · rw [show S (TL.joinL [46] (h.L.map HP.txt)) ++ Str.ofString ":" = S (h.txt ++ [58]) from S_cat _ [58], S_len, S_len, List.length_append, List.length_singleton]
        exact Nat.le_trans (show h.txt.length + 1 + cs.length ≤ 1000050 by omega) (by decide)
      · rw [show S (TL.joinL [46] (h.L.map HP.txt)) ++ Str.ofString ":" = S (h.txt ++ [58]) from S_cat _ [58], S_cat, List.append_assoc]
        exact k _ s1
end
end Wn

namespace Wn
open PySem L2
open SX (S S_len S_cat S_beq_eq join_S)
abbrev sLaw : Stmt := top 27

theorem at3i {a b c : Int} {r : Int} (h0 : 0 ≤ r) (h1 : r < 3) : ∃ v : Int, atI [V.int a, .int b, .int c] r = some (.int v) ∧ (v = a ∨ v = b ∨ v = c) := by
  have h : r = 0 ∨ r = 1 ∨ r = 2 := by omega
  rcases h with rfl | rfl | rfl
  · exact ⟨a, rfl, .inl rfl⟩
  · exact ⟨b, rfl, .inr (.inl rfl)⟩
  · exact ⟨c, rfl, .inr (.inr rfl)⟩
theorem shaped_head {h : Hd} (ok : h.Ok) : SeqAt.shaped h.D = true := by
  have hk : PyData.canLay0 (.str (S [h.k])) = true := by
    have hk := ok.k
    unfold kindsL at hk
    simp only [List.mem_cons, List.not_mem_nil, or_false] at hk
    rcases hk with e | e | e | e | e | e <;> rw [e] <;> decide +kernel
  unfold SeqAt.shaped
  rw [Bool.and_eq_true]
  refine ⟨?_, decide_eq_true (by show max 0 (max 0 (max 0 (max 0 (max 0 (max 0 (max 0 0)))))) + 1 ≤ 64; decide)⟩
  show (true && (PyData.canLay0 (.str (S [h.k])) && _)) = true
  rw [hk]
  rfl
theorem head_eqv (h h' : Hd) : PyData.eqv h.D h'.D = decide (h = h') := by
  obtain ⟨a, b, c, d, e, f, g⟩ := h
  obtain ⟨a', b', c', d', e', f', g'⟩ := h'
  rw [Bool.eq_iff_iff, decide_eq_true_eq]
  show (((a : Int) == (a' : Int)) && ((S [b] == S [b']) && (((c : Int) == (c' : Int)) && (((d : Int) == (d' : Int)) && (((e : Int) == (e' : Int)) && (((f : Int) == (f' : Int)) && (((g : Int) == (g' : Int)) && true))))))) = true ↔ _
  rw [S_beq_eq]
  simp only [Bool.and_eq_true, beq_iff_eq, decide_eq_true_eq, Hd.mk.injEq, List.cons.injEq, and_true]
  constructor
  · rintro ⟨h1, h2, h3, h4, h5, h6, h7⟩
    exact ⟨by omega, h2, by omega, by omega, by omega, by omega, by omega⟩
  · rintro ⟨h1, h2, h3, h4, h5, h6, h7⟩
    exact ⟨by omega, h2, by omega, by omega, by omega, by omega, by omega⟩
section
variable {P : Program} {w : World} {K : PySem.W.Frag} {mg : Str → Option Value} {base : Heap}
theorem scLaw : FnScope ["_law_script", "_law_deck_here", "_law_turn", "_law_head_here", "_law_text_here", "_law_told", "_law_other"] ["_law_script"] (defScope sLaw) := ⟨rfl, rfl, rfl, by decide +kernel, rfl, by decide +kernel, by decide +kernel⟩
theorem ok_law {f : Addr} {fd : FuncData} (F : Fun K "law" "law" sLaw f fd) (B : LB mg)
    (cN : Cd P w K mg base 2 "_law_next" ["_law_deck_here", "_law_many"] spNext) (cD : Cd P w K mg base 2 "_law_deck" ["_law_script"] (spDeck K)) (cX : Cd P w K mg base 4 "_law_text" ["_law_deck_here", "_law_most"] spText)
    (cH : Cd P w K mg base 4 "_law_head" ["_law_deck_here"] (spHead K)) (cL : Cd P w K mg base 1 "_law_written" ["_law_head_here", "_law_text_here"] (spWritten K)) (cW : Cd P w K mg base 1 "written" ["head", "text"] (spWritten K))
    (cI : Cd P w K mg base 3 "is_head" ["thing"] (spIsHead K)) (cR : Cd P w K mg base 2 "read" ["text"] (spRead K))
    (cS : Cd P w K mg base 3 "_law_same" ["_law_thing", "_law_due"] (spSame K 3)) :
    FnOk P w K mg base CX0 5 f fd ["_law_script"] (spLaw K) := by
  obtain ⟨fN, fdN, GN, mN, kN, bN⟩ := cN.tk
  obtain ⟨fD, fdD, GD, mD, kD, bD⟩ := cD
  obtain ⟨fX, fdX, GX, mX, kX, bX⟩ := cX.tk
  obtain ⟨fH, fdH, GH, mH, kH, bH⟩ := cH.tk
  obtain ⟨fL, fdL, GL, mL, kL, bL⟩ := cL
  obtain ⟨fW, fdW, GW, mW, kW, bW⟩ := cW
  obtain ⟨fI, fdI, GI, mI, kI, bI⟩ := cI
  obtain ⟨fR, fdR, GR, mR, kR, bR⟩ := cR
  obtain ⟨fS, fdS, GS, mS, kS, bS⟩ := cS
  refine F.ok scLaw (fun vs H Q E h => ?_) (fun cdv A outer s H vs Q E hr h => ?_)
  · obtain ⟨a, ns, rfl, _⟩ := h
    rfl
  · obtain ⟨a, ns, rfl, hS, hlen, k⟩ := h
    have hr1 : Room 1 _ := hr.mono (by decide)
    have hr2 : Room 2 _ := hr.mono (by decide)
    have hr3 : Room 3 _ := hr.mono (by decide)
    have hr4 : Room 4 _ := hr
    refine ⟨_, (pss_cons (ps_set (i := 1) scLaw.nd rfl (Or.inl rfl) (pe_call GD hr2 rfl mD kD bD .nil pass0 (pa_cons (pv 0) pa_nil)))
       (pss_cons (ps_for PassesOwn.never rfl (pi_range1 rfl B.range (pa_cons pe_int pa_nil)) (pg_name (i := 2) scLaw.nd rfl (Or.inl rfl))
       (pss_cons (ps_set (i := 3) scLaw.nd rfl (Or.inl rfl) (pe_call GH hr4 rfl mH kH bH .nil pass0 (pa_cons (pv 1) pa_nil)))
       (pss_cons (ps_set (i := 4) scLaw.nd rfl (Or.inl rfl) (pe_call GX hr4 rfl mX kX bX .nil pass0 (pa_cons (pv 1) (pa_cons (pe_ix (ixL (K := K) rfl) (pe_lst (pa_cons pe_int (pa_cons pe_int (pa_cons pe_int pa_nil)))) (pe_call GN hr2 rfl mN kN bN .nil pass0 (pa_cons (pv 1) (pa_cons pe_int pa_nil))) (fun _ _ => rfl)) pa_nil))))
       (pss_cons (ps_if (pt_cmpR op_eq (pe_call GN hr2 rfl mN kN bN .nil pass0 (pa_cons (pv 1) (pa_cons pe_int pa_nil))) pe_int (nomark _))
       (pss_one (ps_set (i := 4) scLaw.nd rfl (Or.inl rfl) (pe_call GL hr1 rfl mL kL bL .nil pass0 (pa_cons (pe_call GH hr4 rfl mH kH bH .nil pass0 (pa_cons (pv 1) pa_nil)) (pa_cons (pv 4) pa_nil)))))
       pss_nil)
       (pss_cons (ps_set (i := 5) scLaw.nd rfl (Or.inl rfl) (pe_call GW hr1 rfl mW kW bW .nil pass0 (pa_cons (pv 3) (pa_cons (pv 4) pa_nil))))
       (pss_cons (ps_if (PW.pt (pw_or (pt_cmpR op_ne (pv 5) (pe_call GL hr1 rfl mL kL bL .nil pass0 (pa_cons (pv 3) (pa_cons (pv 4) pa_nil))) (nomark _)) (pw_or1 (pt_cmpR op_isnot_bl (pe_call GI hr3 rfl mI kI bI .nil pass0 (pa_cons (pv 3) pa_nil)) pe_bl (nomark _)))))
       (pss_one (ps_ret pe_bl))
       pss_nil)
       (pss_cons (ps_if (PW.pt (pw_or (pt_not (pt_val (pe_call GS hr3 rfl mS kS bS .nil pass0 (pa_cons (pe_call GR hr2 rfl mR kR bR .nil pass0 (pa_cons (pv 5) pa_nil)) (pa_cons (pe_tup (pa_cons (pv 3) (pa_cons (pv 4) pa_nil))) pa_nil))))) (pw_or1 (pt_not (pt_val (pe_call GS hr3 rfl mS kS bS .nil pass0 (pa_cons (pe_call GR hr2 rfl mR kR bR .nil pass0 (pa_cons (pv 5) pa_nil)) (pa_cons (pe_tup (pa_cons (pv 3) (pa_cons (pv 4) pa_nil))) pa_nil))))))))
       (pss_one (ps_ret pe_bl))
       pss_nil)
       (pss_cons (ps_set (i := 6) scLaw.nd rfl (Or.inl rfl) (pe_call GH hr4 rfl mH kH bH .nil pass0 (pa_cons (pv 1) pa_nil)))
       (pss_one (ps_if (pt_cmpR op_ne (pe_cmpR op_eq (pe_call GW hr1 rfl mW kW bW .nil pass0 (pa_cons (pv 6) (pa_cons (pv 4) pa_nil))) (pv 5) (nomark _)) (pe_cmpR (eqDK (K := K) rfl hr.units) (pv 6) (pv 3) (nomark _)) (nomark _))
       (pss_one (ps_ret pe_bl))
       pss_nil))))))))))
       (pss_one (ps_ret pe_bl)))), ?_⟩
    refine ⟨_, rfl, a, ns, rfl, hS, hlen, fun H1 d f nd nf s1 D1 => ?_⟩
    refine ⟨10, rfl, by decide, by decide, ?_⟩
    refine for_range (lo := 0) (fun i σ H' => ∃ v2 v3 v4 v5 v6, σ = [some (.ref a), some (.ref d), v2, v3, v4, v5, v6] ∧ Deck H' d f (1000 * i)) ⟨_, _, _, _, _, rfl, D1.mono (by omega)⟩ ?_ ?_
    · rintro i σ H2 hi ⟨v2, v3, v4, v5, v6, rfl, D2⟩
      have hi : i < 10 := hi
      refine ⟨_, rfl, d, f, 1000 * i, rfl, D2, by omega, fun H3 h va ok k3 D3 ra t3 => ?_⟩
      refine ⟨_, rfl, (by show 3 ≤ sizeLine; decide), fun l nl => ?_⟩
      have s4 : Same H3 (upd H3 l (.lst [.int 0, .int 3, .int 40])) := (L2.Same.refl _).new nl
      have hl4 : upd H3 l (.lst [.int 0, .int 3, .int 40]) l = some (.lst [.int 0, .int 3, .int 40]) := upd_same
      have nld : l ≠ d := (ne_of_none D3.lst.choose_spec nl).symm
      generalize upd H3 l (.lst [.int 0, .int 3, .int 40]) = H4 at s4 hl4
      refine ⟨_, rfl, d, f, 3, 1000 * i + 20, rfl, by decide, by omega, (D3.same s4).mono (by omega), fun r H5 r0 r1 k5 D5 t5 => ?_⟩
      obtain ⟨most, hmost, hm3⟩ := at3i (a := 0) (b := 3) (c := 40) r0 r1
      refine ⟨l, _, _, _, rfl, rfl, SqL.of (k5 _ _ (nin1 nld) hl4), hmost, ?_⟩
      refine ⟨d, f, 1000 * i + 21, most, rfl, D5.mono (by omega), by omega, by omega, by omega, fun cs0 H6 lcs0 ocs0 k6 D6 t6 => ?_⟩
      have D6 := D6.mono (m := 1000 * i + 100) (by omega)
      have ra6 := Rp.tk ((TK.of s4).trans (t5.trans t6)) _ _ ra
      dsimp only [gName, List.set]
      refine seq_if (fun σ' H' => ∃ cs : List Nat, σ' = [some (.ref a), some (.ref d), some (.int (0 + (i : Int))), some va, some (.str (S cs)), v5, v6] ∧ cs.length ≤ 1000 ∧ Rp K H' h.D va ∧ Deck H' d f (1000 * i + 200)) ?rest (fun rest => ?_)
      case rest =>
        rintro σ' H7 ⟨cs, rfl, lcs, ra7, D7⟩
        have hwl : ∀ hh : Hd, hh.Ok → (S (hh.wr cs)).length ≤ sizeLine := fun hh okk => by
          have := head_len okk
          rw [S_len]
          unfold Hd.wr
          rw [List.length_append, List.length_cons]
          exact Nat.le_trans (show hh.txt.length + (cs.length + 1) ≤ 1050 by omega) (by decide)
        refine ⟨_, rfl, _, rfl, h, _, cs, rfl, ra7, ok, by omega, fun H8 s8 => ?_⟩
        have ra8 := Rp.tk (TK.of s8) _ _ ra7
        have D8 := D7.same s8
        refine ⟨_, rfl, _, rfl, _, rfl, h, _, cs, rfl, ra8, ok, by omega, fun H9 s9 => ?_⟩
        refine ⟨rfl, _, rfl, ?_⟩
        refine iteNS rfl ?_
        have ra9 := Rp.tk (TK.of s9) _ _ ra8
        refine ⟨_, rfl, h, _, rfl, ra9, ok, fun H10 s10 => ?_⟩
        refine ⟨_, _, rfl, rfl, _, rfl, ?_⟩
        refine iteNS rfl ?_
        have D10 := (D8.same s9).same s10
        have ra10 := Rp.tk (TK.of s10) _ _ ra9
        have hsz : dep (.tuple [h.D, .str (S cs)]) < 3 ∧ sz (.tuple [h.D, .str (S cs)]) ≤ 1000000 := by
          constructor
          · simp [dep, deps, Hd.D, Hd.L, HP.enc]
          · simp [sz, szs, Hd.D, Hd.L, HP.enc]
        -- twice
        refine ⟨_, rfl, h, cs, rfl, ok, by omega, fun H11 x s11 rx => ?_⟩
        refine ⟨_, rfl, _, rfl, (by show 2 ≤ sizeLine; decide), fun tt ntt => ?_⟩
        have s12 : Same H11 (upd H11 tt (.tup [va, .str (S cs)])) := (L2.Same.refl _).new ntt
        have ht12 : Rp K (upd H11 tt (.tup [va, .str (S cs)])) (.tuple [h.D, .str (S cs)]) (.ref tt) := Rp.tup upd_same (RpL.cons (Rp.tk ((TK.of s11).trans (TK.of s12)) _ _ ra10) (RpL.cons Rp.str RpL.nil))
        generalize upd H11 tt (.tup [va, .str (S cs)]) = H12 at s12 ht12
        refine ⟨x, _, _, rfl, Rp.tk (TK.of s12) _ _ rx, ht12, hsz.1, hsz.2, fun H13 s13 => ?_⟩
        refine ⟨_, rfl, iteF ?_⟩
        have s113 := (s11.trans s12).trans s13
        have ra13 := Rp.tk (TK.of s113) _ _ ra10
        have D13 := D10.same s113
        refine ⟨_, rfl, h, cs, rfl, ok, by omega, fun H14 y s14 ry => ?_⟩
        refine ⟨_, rfl, _, rfl, (by show 2 ≤ sizeLine; decide), fun t2 nt2 => ?_⟩
        have s15 : Same H14 (upd H14 t2 (.tup [va, .str (S cs)])) := (L2.Same.refl _).new nt2
        have ht15 : Rp K (upd H14 t2 (.tup [va, .str (S cs)])) (.tuple [h.D, .str (S cs)]) (.ref t2) := Rp.tup upd_same (RpL.cons (Rp.tk ((TK.of s14).trans (TK.of s15)) _ _ ra13) (RpL.cons Rp.str RpL.nil))
        generalize upd H14 t2 (.tup [va, .str (S cs)]) = H15 at s15 ht15
        refine ⟨y, _, _, rfl, Rp.tk (TK.of s15) _ _ ry, ht15, hsz.1, hsz.2, fun H16 s16 => ?_⟩
        refine ⟨_, rfl, iteF ?_⟩
        have s146 := (s14.trans s15).trans s16
        have ra16 := Rp.tk (TK.of s146) _ _ ra13
        have D16 := D13.same s146
        refine ⟨_, rfl, d, f, 1000 * i + 200, rfl, D16, by omega, fun H17 h2 vo ok2 k17 D17 ro t17 => ?_⟩
        have ra17 := Rp.tk t17 _ _ ra16
        refine ⟨_, rfl, _, rfl, h2, _, cs, rfl, ro, ok2, by omega, fun H18 s18 => ?_⟩
        refine ⟨_, rfl, rfl, _, rfl, _, rfl, h2.D, h.D, Rp.dp _ _ (Rp.tk (TK.of s18) _ _ ro), Rp.dp _ _ (Rp.tk (TK.of s18) _ _ ra17), shaped_head ok2, shaped_head ok, rfl, _, rfl, ?_⟩
        rw [head_eqv]
        have e : decide (V.str (S (h2.wr cs)) = V.str (S (h.wr cs))) = decide (h2 = h) := decide_eq_decide.mpr ⟨fun z => (wr_inj ok2 ok (SX.S_inj (V.str.inj z))).1, fun z => by rw [z]⟩
        rw [e]
        refine iteNS rfl ?_
        exact ⟨_, _, _, _, _, rfl, (D17.same s18).mono (by omega)⟩
      refine ⟨_, rfl, d, f, 3, 1000 * i + 100, rfl, by decide, by omega, D6, fun z H7 z0 z1 k7 D7 t7 => ?_⟩
      have ra7 := Rp.tk t7 _ _ ra6
      refine ⟨rfl, _, rfl, ?_⟩
      refine ite2 (fun hz => ?_) (fun hz => ?_)
      · refine ⟨_, rfl, d, f, 1000 * i + 101, rfl, D7.mono (by omega), by omega, fun H8 h2 vo ok2 k8 D8 ro t8 => ?_⟩
        refine ⟨_, rfl, h2, _, cs0, rfl, ro, ok2, by omega, fun H9 s9 => ?_⟩
        refine rest _ _ ⟨h2.wr cs0, rfl, ?_, Rp.tk (t8.trans (TK.of s9)) _ _ ra7, (D8.same s9).mono (by omega)⟩
        have := head_len ok2
        unfold Hd.wr
        rw [List.length_append, List.length_cons]
        omega
      · exact rest _ _ ⟨cs0, rfl, by omega, ra7, D7.mono (by omega)⟩
    · rintro σ H2 ⟨v2, v3, v4, v5, v6, rfl, D2⟩
      exact k H2
end
end Wn

namespace Wn
open PySem L2
theorem all_mk {l : PySem.W.OpenLaw} {w : World} {K : PySem.W.Frag} {h : Heap} {mg : Str → Option Value} {fa A_KIND_WORDS f_is_whole f_is_from f_is_head f_written f_number_of f_read f_law_mixed f_law_deck f_law_next f_law_pick f_law_same f_law_count f_law_head f_law_sign f_law_text f_law_written f_law : Addr} (X : K.In h) (G : h.Ns mainGlobals mg) (hfa : mg "law" = some (.ref fa))
    {dd_KIND_WORDS od_is_whole an_is_whole od_is_from an_is_from od_is_head an_is_head od_written an_written od_number_of an_number_of od_read an_read od_law_mixed an_law_mixed od_law_deck an_law_deck od_law_next an_law_next od_law_pick an_law_pick od_law_same an_law_same od_law_count an_law_count od_law_head an_law_head od_law_sign an_law_sign od_law_text an_law_text od_law_written an_law_written od_law an_law : Option Addr} {sl_KIND_WORDS sl_is_whole sl_is_from sl_is_head sl_written sl_number_of sl_read sl_law_mixed sl_law_deck sl_law_next sl_law_pick sl_law_same sl_law_count sl_law_head sl_law_sign sl_law_text sl_law_written sl_law : Array (Option Value)} {oc_is_whole kV_is_whole dc_is_whole pm_is_whole cd_is_whole ct_is_whole oc_is_from kV_is_from dc_is_from pm_is_from cd_is_from ct_is_from oc_is_head kV_is_head dc_is_head pm_is_head cd_is_head ct_is_head oc_written kV_written dc_written pm_written cd_written ct_written oc_number_of kV_number_of dc_number_of pm_number_of cd_number_of ct_number_of oc_read kV_read dc_read pm_read cd_read ct_read oc_law_mixed kV_law_mixed dc_law_mixed pm_law_mixed cd_law_mixed ct_law_mixed oc_law_deck kV_law_deck dc_law_deck pm_law_deck cd_law_deck ct_law_deck oc_law_next kV_law_next dc_law_next pm_law_next cd_law_next ct_law_next oc_law_pick kV_law_pick dc_law_pick pm_law_pick cd_law_pick ct_law_pick oc_law_same kV_law_same dc_law_same pm_law_same cd_law_same ct_law_same oc_law_count kV_law_count dc_law_count pm_law_count cd_law_count ct_law_count oc_law_head kV_law_head dc_law_head pm_law_head cd_law_head ct_law_head oc_law_sign kV_law_sign dc_law_sign pm_law_sign cd_law_sign ct_law_sign oc_law_text kV_law_text dc_law_text pm_law_text cd_law_text ct_law_text oc_law_written kV_law_written dc_law_written pm_law_written cd_law_written ct_law_written oc_law kV_law dc_law pm_law cd_law ct_law : Value} {t_MANY t_GREATEST_NUMBER t_LONGEST t_FIGURES tk0 tk1 tk2 tk3 tk4 tk5 : Tok}
    {n_tup_KIND_WORDS : Nat}
    (a_MANY : PySem.W.nsIn K mainGlobals "MANY" = some (some (.int 7 t_MANY)))
    (a_GREATEST_NUMBER : PySem.W.nsIn K mainGlobals "GREATEST_NUMBER" = some (some (.int 1000000 t_GREATEST_NUMBER)))
    (a_LONGEST : PySem.W.nsIn K mainGlobals "LONGEST" = some (some (.int 7 t_LONGEST)))
    (a_FIGURES : PySem.W.nsIn K mainGlobals "FIGURES" = some (some (.str (SX.S figsL) t_FIGURES)))
    (a_KIND_WORDS : PySem.W.nsIn K mainGlobals "KIND_WORDS" = some (some (.ref A_KIND_WORDS)))
    (lk_KIND_WORDS : K.lookup A_KIND_WORDS = some ⟨.type "tuple", dd_KIND_WORDS, .seq #[.str (SX.S [108]) tk0, .str (SX.S [117]) tk1, .str (SX.S [97]) tk2, .str (SX.S [102]) tk3, .str (SX.S [104]) tk4, .str (SX.S [116]) tk5] n_tup_KIND_WORDS, sl_KIND_WORDS⟩)
    (a_is_whole : PySem.W.nsIn K mainGlobals "is_whole" = some (some (.ref f_is_whole)))
    (l_is_whole : K.lookup f_is_whole = some ⟨oc_is_whole, od_is_whole, .func (PySem.W.fnOf "is_whole" "is_whole" (defArgs sWhole) (defBody sWhole) (defScope sWhole) .none kV_is_whole dc_is_whole pm_is_whole an_is_whole cd_is_whole ct_is_whole), sl_is_whole⟩)
    (c_is_whole : PySem.W.codeIn K cd_is_whole "is_whole" = true)
    (k_is_whole : PySem.W.keepIn K (.ref f_is_whole) = true)
    (a_is_from : PySem.W.nsIn K mainGlobals "is_from" = some (some (.ref f_is_from)))
    (l_is_from : K.lookup f_is_from = some ⟨oc_is_from, od_is_from, .func (PySem.W.fnOf "is_from" "is_from" (defArgs sFrom) (defBody sFrom) (defScope sFrom) .none kV_is_from dc_is_from pm_is_from an_is_from cd_is_from ct_is_from), sl_is_from⟩)
    (c_is_from : PySem.W.codeIn K cd_is_from "is_from" = true)
    (k_is_from : PySem.W.keepIn K (.ref f_is_from) = true)
    (a_is_head : PySem.W.nsIn K mainGlobals "is_head" = some (some (.ref f_is_head)))
    (l_is_head : K.lookup f_is_head = some ⟨oc_is_head, od_is_head, .func (PySem.W.fnOf "is_head" "is_head" (defArgs sIsHead) (defBody sIsHead) (defScope sIsHead) .none kV_is_head dc_is_head pm_is_head an_is_head cd_is_head ct_is_head), sl_is_head⟩)
    (c_is_head : PySem.W.codeIn K cd_is_head "is_head" = true)
    (k_is_head : PySem.W.keepIn K (.ref f_is_head) = true)
    (a_written : PySem.W.nsIn K mainGlobals "written" = some (some (.ref f_written)))
    (l_written : K.lookup f_written = some ⟨oc_written, od_written, .func (PySem.W.fnOf "written" "written" (defArgs sWritten) (defBody sWritten) (defScope sWritten) .none kV_written dc_written pm_written an_written cd_written ct_written), sl_written⟩)
    (c_written : PySem.W.codeIn K cd_written "written" = true)
    (k_written : PySem.W.keepIn K (.ref f_written) = true)
    (a_number_of : PySem.W.nsIn K mainGlobals "number_of" = some (some (.ref f_number_of)))
    (l_number_of : K.lookup f_number_of = some ⟨oc_number_of, od_number_of, .func (PySem.W.fnOf "number_of" "number_of" (defArgs sNumber) (defBody sNumber) (defScope sNumber) .none kV_number_of dc_number_of pm_number_of an_number_of cd_number_of ct_number_of), sl_number_of⟩)
    (c_number_of : PySem.W.codeIn K cd_number_of "number_of" = true)
    (k_number_of : PySem.W.keepIn K (.ref f_number_of) = true)
    (a_read : PySem.W.nsIn K mainGlobals "read" = some (some (.ref f_read)))
    (l_read : K.lookup f_read = some ⟨oc_read, od_read, .func (PySem.W.fnOf "read" "read" (defArgs sRead) (defBody sRead) (defScope sRead) .none kV_read dc_read pm_read an_read cd_read ct_read), sl_read⟩)
    (c_read : PySem.W.codeIn K cd_read "read" = true)
    (k_read : PySem.W.keepIn K (.ref f_read) = true)
    (a_law_mixed : PySem.W.nsIn K mainGlobals "_law_mixed" = some (some (.ref f_law_mixed)))
    (l_law_mixed : K.lookup f_law_mixed = some ⟨oc_law_mixed, od_law_mixed, .func (PySem.W.fnOf "_law_mixed" "_law_mixed" (defArgs sMixed) (defBody sMixed) (defScope sMixed) .none kV_law_mixed dc_law_mixed pm_law_mixed an_law_mixed cd_law_mixed ct_law_mixed), sl_law_mixed⟩)
    (c_law_mixed : PySem.W.codeIn K cd_law_mixed "_law_mixed" = true)
    (k_law_mixed : PySem.W.keepIn K (.ref f_law_mixed) = true)
    (a_law_deck : PySem.W.nsIn K mainGlobals "_law_deck" = some (some (.ref f_law_deck)))
    (l_law_deck : K.lookup f_law_deck = some ⟨oc_law_deck, od_law_deck, .func (PySem.W.fnOf "_law_deck" "_law_deck" (defArgs sDeck) (defBody sDeck) (defScope sDeck) .none kV_law_deck dc_law_deck pm_law_deck an_law_deck cd_law_deck ct_law_deck), sl_law_deck⟩)
    (c_law_deck : PySem.W.codeIn K cd_law_deck "_law_deck" = true)
    (k_law_deck : PySem.W.keepIn K (.ref f_law_deck) = true)
    (a_law_next : PySem.W.nsIn K mainGlobals "_law_next" = some (some (.ref f_law_next)))
    (l_law_next : K.lookup f_law_next = some ⟨oc_law_next, od_law_next, .func (PySem.W.fnOf "_law_next" "_law_next" (defArgs sNext) (defBody sNext) (defScope sNext) .none kV_law_next dc_law_next pm_law_next an_law_next cd_law_next ct_law_next), sl_law_next⟩)
    (c_law_next : PySem.W.codeIn K cd_law_next "_law_next" = true)
    (k_law_next : PySem.W.keepIn K (.ref f_law_next) = true)
    (a_law_pick : PySem.W.nsIn K mainGlobals "_law_pick" = some (some (.ref f_law_pick)))
    (l_law_pick : K.lookup f_law_pick = some ⟨oc_law_pick, od_law_pick, .func (PySem.W.fnOf "_law_pick" "_law_pick" (defArgs sPick) (defBody sPick) (defScope sPick) .none kV_law_pick dc_law_pick pm_law_pick an_law_pick cd_law_pick ct_law_pick), sl_law_pick⟩)
    (c_law_pick : PySem.W.codeIn K cd_law_pick "_law_pick" = true)
    (k_law_pick : PySem.W.keepIn K (.ref f_law_pick) = true)
    (a_law_same : PySem.W.nsIn K mainGlobals "_law_same" = some (some (.ref f_law_same)))
    (l_law_same : K.lookup f_law_same = some ⟨oc_law_same, od_law_same, .func (PySem.W.fnOf "_law_same" "_law_same" (defArgs sSame) (defBody sSame) (defScope sSame) .none kV_law_same dc_law_same pm_law_same an_law_same cd_law_same ct_law_same), sl_law_same⟩)
    (c_law_same : PySem.W.codeIn K cd_law_same "_law_same" = true)
    (k_law_same : PySem.W.keepIn K (.ref f_law_same) = true)
    (a_law_count : PySem.W.nsIn K mainGlobals "_law_count" = some (some (.ref f_law_count)))
    (l_law_count : K.lookup f_law_count = some ⟨oc_law_count, od_law_count, .func (PySem.W.fnOf "_law_count" "_law_count" (defArgs sCount) (defBody sCount) (defScope sCount) .none kV_law_count dc_law_count pm_law_count an_law_count cd_law_count ct_law_count), sl_law_count⟩)
    (c_law_count : PySem.W.codeIn K cd_law_count "_law_count" = true)
    (k_law_count : PySem.W.keepIn K (.ref f_law_count) = true)
    (a_law_head : PySem.W.nsIn K mainGlobals "_law_head" = some (some (.ref f_law_head)))
    (l_law_head : K.lookup f_law_head = some ⟨oc_law_head, od_law_head, .func (PySem.W.fnOf "_law_head" "_law_head" (defArgs sHead) (defBody sHead) (defScope sHead) .none kV_law_head dc_law_head pm_law_head an_law_head cd_law_head ct_law_head), sl_law_head⟩)
    (c_law_head : PySem.W.codeIn K cd_law_head "_law_head" = true)
    (k_law_head : PySem.W.keepIn K (.ref f_law_head) = true)
    (a_law_sign : PySem.W.nsIn K mainGlobals "_law_sign" = some (some (.ref f_law_sign)))
    (l_law_sign : K.lookup f_law_sign = some ⟨oc_law_sign, od_law_sign, .func (PySem.W.fnOf "_law_sign" "_law_sign" (defArgs sSign) (defBody sSign) (defScope sSign) .none kV_law_sign dc_law_sign pm_law_sign an_law_sign cd_law_sign ct_law_sign), sl_law_sign⟩)
    (c_law_sign : PySem.W.codeIn K cd_law_sign "_law_sign" = true)
    (k_law_sign : PySem.W.keepIn K (.ref f_law_sign) = true)
    (a_law_text : PySem.W.nsIn K mainGlobals "_law_text" = some (some (.ref f_law_text)))
    (l_law_text : K.lookup f_law_text = some ⟨oc_law_text, od_law_text, .func (PySem.W.fnOf "_law_text" "_law_text" (defArgs sText) (defBody sText) (defScope sText) .none kV_law_text dc_law_text pm_law_text an_law_text cd_law_text ct_law_text), sl_law_text⟩)
    (c_law_text : PySem.W.codeIn K cd_law_text "_law_text" = true)
    (k_law_text : PySem.W.keepIn K (.ref f_law_text) = true)
    (a_law_written : PySem.W.nsIn K mainGlobals "_law_written" = some (some (.ref f_law_written)))
    (l_law_written : K.lookup f_law_written = some ⟨oc_law_written, od_law_written, .func (PySem.W.fnOf "_law_written" "_law_written" (defArgs sLWritten) (defBody sLWritten) (defScope sLWritten) .none kV_law_written dc_law_written pm_law_written an_law_written cd_law_written ct_law_written), sl_law_written⟩)
    (c_law_written : PySem.W.codeIn K cd_law_written "_law_written" = true)
    (k_law_written : PySem.W.keepIn K (.ref f_law_written) = true)
    (a_law : PySem.W.nsIn K mainGlobals "law" = some (some (.ref f_law)))
    (l_law : K.lookup f_law = some ⟨oc_law, od_law, .func (PySem.W.fnOf "law" "law" (defArgs sLaw) (defBody sLaw) (defScope sLaw) .none kV_law dc_law pm_law an_law cd_law ct_law), sl_law⟩)
    (c_law : PySem.W.codeIn K cd_law "law" = true)
    (k_law : PySem.W.keepIn K (.ref f_law) = true)
    (z_len : PySem.W.nsIn K mainGlobals "len" = some none)
    (z_range : PySem.W.nsIn K mainGlobals "range" = some none)
    (z_min : PySem.W.nsIn K mainGlobals "min" = some none)
    (z_isinstance : PySem.W.nsIn K mainGlobals "isinstance" = some none)
    (z_tuple : PySem.W.nsIn K mainGlobals "tuple" = some none)
    (z_bool : PySem.W.nsIn K mainGlobals "bool" = some none)
    (z_str : PySem.W.nsIn K mainGlobals "str" = some none)
    (z_int : PySem.W.nsIn K mainGlobals "int" = some none)
    (z_all : PySem.W.nsIn K mainGlobals "all" = some none)
    (z_any : PySem.W.nsIn K mainGlobals "any" = some none)
    (z_enumerate : PySem.W.nsIn K mainGlobals "enumerate" = some none) :
    ∃ fd : FuncData, (∀ (s : Shared) (v : Value), BindsTo s fd ⟨[v], []⟩ [("_law_script", v)]) ∧ ∀ base : Heap, K.In base → base.Ns mainGlobals mg → FnOk l.prog w K mg base CX0 5 fa fd ["_law_script"] (spLaw K) := by
  have e := hfa.symm.trans (PySem.W.mg_of X G a_law)
  cases e
  have m_MANY := PySem.W.mg_of X G a_MANY
  have m_GREATEST_NUMBER := PySem.W.mg_of X G a_GREATEST_NUMBER
  have m_LONGEST := PySem.W.mg_of X G a_LONGEST
  have m_FIGURES := PySem.W.mg_of X G a_FIGURES
  have m_KIND_WORDS := PySem.W.mg_of X G a_KIND_WORDS
  have F_is_whole := fun_mk (st := sWhole) l_is_whole c_is_whole k_is_whole
  have b_is_whole := F_is_whole.binds (ps := ["thing"]) fun _ _ _ _ _ _ us hl => match us, hl with | [_], _ => rfl
  have m_is_whole := PySem.W.mg_of X G a_is_whole
  have F_is_from := fun_mk (st := sFrom) l_is_from c_is_from k_is_from
  have b_is_from := F_is_from.binds (ps := ["thing", "low", "high"]) fun _ _ _ _ _ _ us hl => match us, hl with | [_, _, _], _ => rfl
  have m_is_from := PySem.W.mg_of X G a_is_from
  have F_is_head := fun_mk (st := sIsHead) l_is_head c_is_head k_is_head
  have b_is_head := F_is_head.binds (ps := ["thing"]) fun _ _ _ _ _ _ us hl => match us, hl with | [_], _ => rfl
  have m_is_head := PySem.W.mg_of X G a_is_head
  have F_written := fun_mk (st := sWritten) l_written c_written k_written
  have b_written := F_written.binds (ps := ["head", "text"]) fun _ _ _ _ _ _ us hl => match us, hl with | [_, _], _ => rfl
  have m_written := PySem.W.mg_of X G a_written
  have F_number_of := fun_mk (st := sNumber) l_number_of c_number_of k_number_of
  have b_number_of := F_number_of.binds (ps := ["word"]) fun _ _ _ _ _ _ us hl => match us, hl with | [_], _ => rfl
  have m_number_of := PySem.W.mg_of X G a_number_of
  have F_read := fun_mk (st := sRead) l_read c_read k_read
  have b_read := F_read.binds (ps := ["text"]) fun _ _ _ _ _ _ us hl => match us, hl with | [_], _ => rfl
  have m_read := PySem.W.mg_of X G a_read
  have F_law_mixed := fun_mk (st := sMixed) l_law_mixed c_law_mixed k_law_mixed
  have b_law_mixed := F_law_mixed.binds (ps := ["_law_cell", "_law_at"]) fun _ _ _ _ _ _ us hl => match us, hl with | [_, _], _ => rfl
  have m_law_mixed := PySem.W.mg_of X G a_law_mixed
  have F_law_deck := fun_mk (st := sDeck) l_law_deck c_law_deck k_law_deck
  have b_law_deck := F_law_deck.binds (ps := ["_law_script"]) fun _ _ _ _ _ _ us hl => match us, hl with | [_], _ => rfl
  have m_law_deck := PySem.W.mg_of X G a_law_deck
  have F_law_next := fun_mk (st := sNext) l_law_next c_law_next k_law_next
  have b_law_next := F_law_next.binds (ps := ["_law_deck_here", "_law_many"]) fun _ _ _ _ _ _ us hl => match us, hl with | [_, _], _ => rfl
  have m_law_next := PySem.W.mg_of X G a_law_next
  have F_law_pick := fun_mk (st := sPick) l_law_pick c_law_pick k_law_pick
  have b_law_pick := F_law_pick.binds (ps := ["_law_deck_here", "_law_things"]) fun _ _ _ _ _ _ us hl => match us, hl with | [_, _], _ => rfl
  have m_law_pick := PySem.W.mg_of X G a_law_pick
  have F_law_same := fun_mk (st := sSame) l_law_same c_law_same k_law_same
  have b_law_same := F_law_same.binds (ps := ["_law_thing", "_law_due"]) fun _ _ _ _ _ _ us hl => match us, hl with | [_, _], _ => rfl
  have m_law_same := PySem.W.mg_of X G a_law_same
  have F_law_count := fun_mk (st := sCount) l_law_count c_law_count k_law_count
  have b_law_count := F_law_count.binds (ps := ["_law_deck_here"]) fun _ _ _ _ _ _ us hl => match us, hl with | [_], _ => rfl
  have m_law_count := PySem.W.mg_of X G a_law_count
  have F_law_head := fun_mk (st := sHead) l_law_head c_law_head k_law_head
  have b_law_head := F_law_head.binds (ps := ["_law_deck_here"]) fun _ _ _ _ _ _ us hl => match us, hl with | [_], _ => rfl
  have m_law_head := PySem.W.mg_of X G a_law_head
  have F_law_sign := fun_mk (st := sSign) l_law_sign c_law_sign k_law_sign
  have b_law_sign := F_law_sign.binds (ps := ["_law_deck_here"]) fun _ _ _ _ _ _ us hl => match us, hl with | [_], _ => rfl
  have m_law_sign := PySem.W.mg_of X G a_law_sign
  have F_law_text := fun_mk (st := sText) l_law_text c_law_text k_law_text
  have b_law_text := F_law_text.binds (ps := ["_law_deck_here", "_law_most"]) fun _ _ _ _ _ _ us hl => match us, hl with | [_, _], _ => rfl
  have m_law_text := PySem.W.mg_of X G a_law_text
  have F_law_written := fun_mk (st := sLWritten) l_law_written c_law_written k_law_written
  have b_law_written := F_law_written.binds (ps := ["_law_head_here", "_law_text_here"]) fun _ _ _ _ _ _ us hl => match us, hl with | [_, _], _ => rfl
  have m_law_written := PySem.W.mg_of X G a_law_written
  have F_law := fun_mk (st := sLaw) l_law c_law k_law
  have b_law := F_law.binds (ps := ["_law_script"]) fun _ _ _ _ _ _ us hl => match us, hl with | [_], _ => rfl
  have n_len := PySem.W.mg_none_of X G z_len
  have n_range := PySem.W.mg_none_of X G z_range
  have n_min := PySem.W.mg_none_of X G z_min
  have n_isinstance := PySem.W.mg_none_of X G z_isinstance
  have n_tuple := PySem.W.mg_none_of X G z_tuple
  have n_bool := PySem.W.mg_none_of X G z_bool
  have n_str := PySem.W.mg_none_of X G z_str
  have n_int := PySem.W.mg_none_of X G z_int
  have n_all := PySem.W.mg_none_of X G z_all
  have n_any := PySem.W.mg_none_of X G z_any
  have n_enumerate := PySem.W.mg_none_of X G z_enumerate
  refine ⟨PySem.W.fnOf "law" "law" (defArgs sLaw) (defBody sLaw) (defScope sLaw) .none kV_law dc_law pm_law an_law cd_law ct_law, fun s v => .of_eq rfl, fun base _ _ => ?_⟩
  have HBx : HB K mg := ⟨n_isinstance, n_int, n_bool, n_str, n_tuple, n_len, n_all, n_any, ⟨_, m_MANY⟩, ⟨_, m_GREATEST_NUMBER⟩, ⟨_, m_LONGEST⟩, ⟨_, m_FIGURES⟩, ⟨_, m_KIND_WORDS, fun H => .inr ⟨_, _, _, lk_KIND_WORDS, rfl, rfl, (by show 6 ≤ sizeLine; decide), .cons ⟨_, rfl⟩ (.cons ⟨_, rfl⟩ (.cons ⟨_, rfl⟩ (.cons ⟨_, rfl⟩ (.cons ⟨_, rfl⟩ (.cons ⟨_, rfl⟩ .nil)))))⟩⟩⟩
  have B : LB mg := ⟨n_len, n_range, n_tuple, n_int, n_str, n_enumerate⟩
  have SB : SameB mg := ⟨n_isinstance, n_tuple, n_bool, n_str, n_int, n_all, n_len, n_range⟩
  have cM : Cd l.prog w K mg base 1 "_law_mixed" ["_law_cell", "_law_at"] spMixed := ⟨_, _, ok_mixed F_law_mixed, m_law_mixed, k_law_mixed, b_law_mixed⟩
  have cN : Cd l.prog w K mg base 2 "_law_next" ["_law_deck_here", "_law_many"] spNext := ⟨_, _, ok_next F_law_next n_len cM, m_law_next, k_law_next, b_law_next⟩
  have cD : Cd l.prog w K mg base 2 "_law_deck" ["_law_script"] (spDeck K) := ⟨_, _, ok_deck F_law_deck n_len n_range n_min cM, m_law_deck, k_law_deck, b_law_deck⟩
  have cS : Cd l.prog w K mg base 3 "_law_same" ["_law_thing", "_law_due"] (spSame K 3) := ⟨_, _, ok_same F_law_same SB m_law_same k_law_same b_law_same 3, m_law_same, k_law_same, b_law_same⟩
  have cG : Cd l.prog w K mg base 3 "_law_sign" ["_law_deck_here"] spSign := ⟨_, _, ok_sign F_law_sign cN, m_law_sign, k_law_sign, b_law_sign⟩
  have cX : Cd l.prog w K mg base 4 "_law_text" ["_law_deck_here", "_law_most"] spText := ⟨_, _, ok_text F_law_text n_range cN cG, m_law_text, k_law_text, b_law_text⟩
  have cP : Cd l.prog w K mg base 3 "_law_pick" ["_law_deck_here", "_law_things"] (spPick K) := ⟨_, _, ok_pick F_law_pick B cN, m_law_pick, k_law_pick, b_law_pick⟩
  have cC : Cd l.prog w K mg base 3 "_law_count" ["_law_deck_here"] spCount := ⟨_, _, ok_count F_law_count B cN, m_law_count, k_law_count, b_law_count⟩
  have cW : Cd l.prog w K mg base 1 "is_whole" ["thing"] (spWhole K) := ⟨_, _, ok_whole F_is_whole HBx, m_is_whole, k_is_whole, b_is_whole⟩
  have cF : Cd l.prog w K mg base 2 "is_from" ["thing", "low", "high"] spFrom := ⟨_, _, ok_from F_is_from HBx cW, m_is_from, k_is_from, b_is_from⟩
  have cNu : Cd l.prog w K mg base 1 "number_of" ["word"] spNumber := ⟨_, _, ok_number F_number_of HBx, m_number_of, k_number_of, b_number_of⟩
  exact ok_law F_law B cN cD cX ⟨_, _, ok_head F_law_head B cP cC, m_law_head, k_law_head, b_law_head⟩ ⟨_, _, ok_lwritten F_law_written B, m_law_written, k_law_written, b_law_written⟩ ⟨_, _, ok_written F_written HBx, m_written, k_written, b_written⟩ ⟨_, _, ok_ishead F_is_head HBx cF, m_is_head, k_is_head, b_is_head⟩ ⟨_, _, ok_read F_read HBx cNu, m_read, k_read, b_read⟩ cS
theorem walk {l : PySem.W.OpenLaw} {q : Program} {loose : List Str} {XP : (Str → Option Value) → Heap → Prop} {YP : World → Heap → Prop} {d : DefRec} {K : Params → PySem.W.Frag} (hn : l.most = some 63) (hdf : d.params.defaults = [])
    (hY : ∀ (w : World) (h : Heap), YP w h → (K w.params).In h)
    (F : ∀ (w : World) (mg : Str → Option Value) (fa : Addr) (h : Heap), (K w.params).In h → h.Ns mainGlobals mg → mg d.name = some (.ref fa) →
      ∃ fd : FuncData, (∀ (s : Shared) (u : Value), BindsTo s fd ⟨[u], []⟩ [("_law_script", u)]) ∧ ∀ base : Heap, (K w.params).In base → base.Ns mainGlobals mg → FnOk l.prog w (K w.params) mg base CX0 5 fa fd ["_law_script"] (spLaw (K w.params))) :
    PySem.W.WalkO q loose XP YP l.row.toRowW d [] (fun f vs => PySem.call f vs) :=
  L2.walk_of (n := 63) (k := 5) (x := "_law_script") (CX := fun _ => CX0) (sp := fun w => spLaw (K w.params)) hn (by decide) hdf ⟨rfl, by decide, by decide⟩ hY F (fun _ _ a ns hl _ hS => ⟨a, ns, rfl, hS, hl, fun _ => rfl⟩) fun _ _ _ _ _ z => z
end Wn

open PySem PySem.W PyProof.Rows in
set_option maxRecDepth 100000 in
set_option maxHeartbeats 0 in
theorem PySem.Challenge.cw_wrapnets_k15_whole_heads_there_and_back_holds : PySem.Challenge.rw_wrapnets_k15_whole_heads_there_and_back.Holds := by
  w_on; o_law; k_head; (case hw => w_witness2)
  k_fill
  refine Wn.walk (l := PySem.Challenge.rw_wrapnets_k15_whole_heads_there_and_back) rfl rfl (fun w h Y => PySem.W.kIn_of Y) ?F
  case F =>
    intro w mg fa h KX G hmg
    refine' Wn.all_mk KX G hmg ?a_MANY ?a_GREATEST_NUMBER ?a_LONGEST ?a_FIGURES ?a_KIND_WORDS ?lk_KIND_WORDS ?a_is_whole ?l_is_whole ?c_is_whole ?k_is_whole ?a_is_from ?l_is_from ?c_is_from ?k_is_from ?a_is_head ?l_is_head ?c_is_head ?k_is_head ?a_written ?l_written ?c_written ?k_written ?a_number_of ?l_number_of ?c_number_of ?k_number_of ?a_read ?l_read ?c_read ?k_read ?a_law_mixed ?l_law_mixed ?c_law_mixed ?k_law_mixed ?a_law_deck ?l_law_deck ?c_law_deck ?k_law_deck ?a_law_next ?l_law_next ?c_law_next ?k_law_next ?a_law_pick ?l_law_pick ?c_law_pick ?k_law_pick ?a_law_same ?l_law_same ?c_law_same ?k_law_same ?a_law_count ?l_law_count ?c_law_count ?k_law_count ?a_law_head ?l_law_head ?c_law_head ?k_law_head ?a_law_sign ?l_law_sign ?c_law_sign ?k_law_sign ?a_law_text ?l_law_text ?c_law_text ?k_law_text ?a_law_written ?l_law_written ?c_law_written ?k_law_written ?a_law ?l_law ?c_law ?k_law ?z_len ?z_range ?z_min ?z_isinstance ?z_tuple ?z_bool ?z_str ?z_int ?z_all ?z_any ?z_enumerate
    (case a_MANY => k_is)
    (case a_GREATEST_NUMBER => k_is)
    (case a_LONGEST => k_is)
    (case a_FIGURES => k_is)
    (case a_KIND_WORDS => k_is)
    (case lk_KIND_WORDS => k_is)
    (case a_is_whole => k_is)
    (case l_is_whole => k_is)
    (case c_is_whole => k_is)
    (case k_is_whole => k_is)
    (case a_is_from => k_is)
    (case l_is_from => k_is)
    (case c_is_from => k_is)
    (case k_is_from => k_is)
    (case a_is_head => k_is)
    (case l_is_head => k_is)
    (case c_is_head => k_is)
    (case k_is_head => k_is)
    (case a_written => k_is)
    (case l_written => k_is)
    (case c_written => k_is)
    (case k_written => k_is)
    (case a_number_of => k_is)
    (case l_number_of => k_is)
    (case c_number_of => k_is)
    (case k_number_of => k_is)
    (case a_read => k_is)
    (case l_read => k_is)
    (case c_read => k_is)
    (case k_read => k_is)
    (case a_law_mixed => k_is)
    (case l_law_mixed => k_is)
    (case c_law_mixed => k_is)
    (case k_law_mixed => k_is)
    (case a_law_deck => k_is)
    (case l_law_deck => k_is)
    (case c_law_deck => k_is)
    (case k_law_deck => k_is)
    (case a_law_next => k_is)
    (case l_law_next => k_is)
    (case c_law_next => k_is)
    (case k_law_next => k_is)
    (case a_law_pick => k_is)
    (case l_law_pick => k_is)
    (case c_law_pick => k_is)
    (case k_law_pick => k_is)
    (case a_law_same => k_is)
    (case l_law_same => k_is)
    (case c_law_same => k_is)
    (case k_law_same => k_is)
    (case a_law_count => k_is)
    (case l_law_count => k_is)
    (case c_law_count => k_is)
    (case k_law_count => k_is)
    (case a_law_head => k_is)
    (case l_law_head => k_is)
    (case c_law_head => k_is)
    (case k_law_head => k_is)
    (case a_law_sign => k_is)
    (case l_law_sign => k_is)
    (case c_law_sign => k_is)
    (case k_law_sign => k_is)
    (case a_law_text => k_is)
    (case l_law_text => k_is)
    (case c_law_text => k_is)
    (case k_law_text => k_is)
    (case a_law_written => k_is)
    (case l_law_written => k_is)
    (case c_law_written => k_is)
    (case k_law_written => k_is)
    (case a_law => k_is)
    (case l_law => k_is)
    (case c_law => k_is)
    (case k_law => k_is)
    (case z_len => k_is)
    (case z_range => k_is)
    (case z_min => k_is)
    (case z_isinstance => k_is)
    (case z_tuple => k_is)
    (case z_bool => k_is)
    (case z_str => k_is)
    (case z_int => k_is)
    (case z_all => k_is)
    (case z_any => k_is)
    (case z_enumerate => k_is)
