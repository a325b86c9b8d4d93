import PyProof.Rows.All
import Wide.All
import OpenK.AllK
import Wide.FinOn
import HandS.ForMost
import HandS.IsInst
import HandS.Flow
import HandS.SortInts
import HandS.More
import HandS.Text
import HandS.Walk
import HandS.Conv
import PyProof.ReprRoads
import HandS.TupSets
import HandS.Deep
import HandS.CallLocal
import HandS.DictTup
import HandS.TupAny
import HandS.TryOnly
import HandS.Style
import KE.KRevSl
import HandS.Zip
import PyProof.Draws
import PyProof.EnumMake
import HandS.Zip0
import HandS.RaiseMore
import HandS.Replace
import HandS.DictComp
import PyProof.ReprBulk
import HandS.TupLe
import PyProof.Rows.IntBool
import PySem.Challenge.RW_wrapnets_k62_papers_or_not
set_option Elab.async false
set_option maxRecDepth 100000
set_option linter.all false
namespace Wn
open PySem L2

/-- what a caller knows of a def: that it keeps a promise, and where it stands -/
def Cd (P : Program) (w : World) (K : PySem.W.Frag) (mg : Str → Option Value) (base : Heap) (k : Nat) (name : Str) (ps : List Str) (sp : Sp) : Prop :=
  ∃ (f : Addr) (fd : FuncData), FnOk P w K mg base CX0 k f fd ps sp ∧ mg name = some (.ref f) ∧ PySem.W.keepIn K (.ref f) = true ∧ Binds K fd ps []
/-- what a caller knows of a method -/
def Md (P : Program) (w : World) (K : PySem.W.Frag) (mg : Str → Option Value) (base : Heap) (k : Nat) (C : Addr) (name : Str) (ps : List Str) (sp : Sp) : Prop :=
  ∃ (f : Addr) (fd : FuncData), FnOk P w K mg base CX0 k f fd ps sp ∧ Meth K C name f ∧ Binds K fd ps []

/-- all but some addresses stay -/
def Kp (M : List Addr) (H H' : Hp) : Prop := ∀ b o, b ∉ M → H b = some o → H' b = some o
theorem Kp.refl (M : List Addr) (H : Hp) : Kp M H H := fun _ _ _ h => h
theorem Kp.trans {M : List Addr} {H H1 H2 : Hp} (a : Kp M H H1) (b : Kp M H1 H2) : Kp M H H2 := fun c o hc h => b c o hc (a c o hc h)
theorem Kp.mono {M M' : List Addr} {H H1 : Hp} (a : Kp M H H1) (h : ∀ x ∈ M, x ∈ M') : Kp M' H H1 := fun c o hc q => a c o (fun z => hc (h c z)) q
theorem Kp.of {M : List Addr} {H H1 : Hp} (a : Same H H1) : Kp M H H1 := fun c o _ q => a c o q
theorem Kp.new {M : List Addr} {H H1 : Hp} {p : Addr} {o : HO} (a : Kp M H H1) (hp : H1 p = none) : Kp M H (upd H1 p o) := fun c u hc q => by
  rw [upd_ne (ne_of_none (a c u hc q) hp)]
  exact a c u hc q
theorem Kp.wr {M : List Addr} {H H1 : Hp} {p : Addr} {o : HO} (a : Kp M H H1) (hp : p ∈ M) : Kp M H (upd H1 p o) := fun c u hc q => by
  rw [upd_ne (show c ≠ p from fun z => hc (by rw [z]; exact hp))]
  exact a c u hc q
/-- a write to what wasn't there at first -/
theorem Kp.wrn {M : List Addr} {H H1 : Hp} {p : Addr} {o : HO} (a : Kp M H H1) (hp : H p = none) : Kp M H (upd H1 p o) := fun c u hc q => by
  rw [upd_ne (ne_of_none q hp)]
  exact a c u hc q
theorem _root_.L2.Same.new {H H1 : Hp} {p : Addr} {o : HO} (a : Same H H1) (hp : H1 p = none) : Same H (upd H1 p o) := fun c u q => by
  rw [upd_ne (ne_of_none (a c u q) hp)]
  exact a c u q
theorem _root_.L2.Same.wrn {H H1 : Hp} {p : Addr} {o : HO} (a : Same H H1) (hp : H p = none) : Same H (upd H1 p o) := fun c u q => by
  rw [upd_ne (ne_of_none q hp)]
  exact a c u q

/-- a while by a word and a measure -/
theorem while_m {c : TT} {tb : TS} {D : Ends} {σ : L2.St} {H : Hp} (Pv : L2.St → Hp → Prop) (μ : L2.St → Hp → Nat) (h0 : Pv σ H)
    (hs : ∀ m σ H, m = μ σ H → Pv σ H → c σ H fun b H1 => if b = true then ∃ N : L2.St → Hp → Prop, (∀ σ' H', N σ' H' → ∃ m', m' < m ∧ (m' = μ σ' H' ∧ Pv σ' H')) ∧ tb { D with nx := N, ct := N, bk := D.nx } σ H1 else D.nx σ H1) : tWhile c tb D σ H :=
  ⟨fun m σ H => m = μ σ H ∧ Pv σ H, ⟨_, rfl, h0⟩, fun m σ H ⟨e, p⟩ => hs m σ H e p⟩

/-! ### the deck -/
def spMixed : Sp := fun vs H Q _ => ∃ (c a : Int), vs = [.int c, .int a] ∧ -1 ≤ a ∧ a < 2 ^ 60 ∧ ∀ r : Int, Q (.int r) H
/-- a deck at d, of which n draws were taken at most -/
def Deck (H : Hp) (d f : Addr) (n : Int) : Prop :=
  ∃ (a wh : Int) (xs : List Int), H d = some (.lst [.int a, .int wh, .ref f]) ∧ H f = some (.lst (xs.map V.int)) ∧ 0 ≤ a ∧ a ≤ n ∧ xs.length ≤ 100000
def spNext : Sp := fun vs H Q _ => ∃ (d f : Addr) (m n : Int), vs = [.ref d, .int m] ∧ 0 < m ∧ n < 2 ^ 60 ∧ Deck H d f n ∧
  ∀ (r : Int) (H' : Hp), 0 ≤ r → r < m → Kp [d] H H' → Deck H' d f (n + 1) → Q (.int r) H'
def spDeck (K : PySem.W.Frag) : Sp := fun vs H Q _ => ∃ (a : Addr) (ns : List Int), vs = [.ref a] ∧ SqL K H a (ns.map V.int) ∧ ns.length ≤ 63 ∧
  ∀ (H' : Hp) (d f : Addr), H d = none → H f = none → Same H H' → Deck H' d f 0 → Q (.ref d) H'
end Wn

namespace Wn
open PySem L2
/-! ### tuples stay, whatever is called -/
def TK (H H' : Hp) : Prop := (∀ b xs, H b = some (.tup xs) → H' b = some (.tup xs)) ∧ (∀ b o u, H b = some (.frz o u) → H' b = some (.frz o u))
theorem TK.refl (H : Hp) : TK H H := ⟨fun _ _ h => h, fun _ _ _ h => h⟩
theorem TK.trans {H H1 H2 : Hp} (a : TK H H1) (b : TK H1 H2) : TK H H2 := ⟨fun c o h => b.1 c o (a.1 c o h), fun c o u h => b.2 c o u (a.2 c o u h)⟩
theorem TK.of {H H1 : Hp} (a : Same H H1) : TK H H1 := ⟨fun c o h => a _ _ h, fun c o u h => a _ _ h⟩
theorem TK.new {H H1 : Hp} {p : Addr} {o : HO} (a : TK H H1) (hp : H1 p = none) : TK H (upd H1 p o) :=
  ⟨fun c u q => by rw [upd_ne (ne_of_none (a.1 c u q) hp)]; exact a.1 c u q, fun c u z q => by rw [upd_ne (ne_of_none (a.2 c u z q) hp)]; exact a.2 c u z q⟩
/-- what is neither a tuple nor locked may be written -/
def Wrt : HO → Bool
  | .tup _ => false
  | .frz _ _ => false
  | _ => true
theorem TK.wr {H H1 : Hp} {p : Addr} {o u : HO} (a : TK H H1) (hp : H1 p = some u) (hu : Wrt u = true) : TK H (upd H1 p o) :=
  ⟨fun c v q => by
    have h1 := a.1 c v q
    rw [upd_ne (ne_of h1 hp (fun z => by rw [← z] at hu; cases hu))]
    exact h1, fun c v z q => by
    have h1 := a.2 c v z q
    rw [upd_ne (ne_of h1 hp (fun z => by rw [← z] at hu; cases hu))]
    exact h1⟩
theorem _root_.L2.FnOk.tk {P : Program} {w : World} {K : PySem.W.Frag} {mg : Str → Option Value} {base : Heap} {k : Nat} {f : Addr} {fd : FuncData} {ps : List Str} {sp : Sp} (F : FnOk P w K mg base CX0 k f fd ps sp) :
    FnOk P w K mg base CX0 k f fd ps (fun vs H Q E => sp vs H (fun v H' => TK H H' → Q v H') E) := by
  refine ⟨fun vs H Q E q => F.len vs H _ E q, fun A outer s H args us vs Q E hr he hb hv hs => ?_⟩
  refine codeAny_mono (F.run A outer s H args us vs _ E hr he hb hv hs) fun r s' h => ?_
  cases r with
  | ok fl =>
    cases fl with
    | ret u =>
      obtain ⟨v, H', e1, e2, e3, e4, e5, q⟩ := h
      exact ⟨v, H', e1, e2, e3, e4, e5, q ⟨e3.tups, e3.frzs⟩⟩
    | _ => exact h
  | error e => exact h
/-- a promise, tuples kept besides -/
def Tk (sp : Sp) : Sp := fun vs H Q E => sp vs H (fun v H' => TK H H' → Q v H') E
theorem Cd.tk {P : Program} {w : World} {K : PySem.W.Frag} {mg : Str → Option Value} {base : Heap} {k : Nat} {name : Str} {ps : List Str} {sp : Sp} (h : Cd P w K mg base k name ps sp) : Cd P w K mg base k name ps (Tk sp) := by
  obtain ⟨f, fd, G, a, b, c⟩ := h
  exact ⟨f, fd, G.tk, a, b, c⟩
theorem Md.tk {P : Program} {w : World} {K : PySem.W.Frag} {mg : Str → Option Value} {base : Heap} {k : Nat} {C : Addr} {name : Str} {ps : List Str} {sp : Sp} (h : Md P w K mg base k C name ps sp) : Md P w K mg base k C name ps (Tk sp) := by
  obtain ⟨f, fd, G, a, b⟩ := h
  exact ⟨f, fd, G.tk, a, b⟩

/-! ### data: None, truths, ints, texts, tuples of these -/
mutual
def Rp (K : PySem.W.Frag) (H : Hp) : PyData → V → Prop
  | .none, v => v = .non
  | .bool b, v => v = .bl b
  | .int i, v => v = .int i
  | .str s, v => v = .str s
  | .tuple ds, v => ∃ a xs, v = .ref a ∧ SqT K H a xs ∧ RpL K H ds xs
  | .list _, _ => False
  | .dict _, _ => False
def RpL (K : PySem.W.Frag) (H : Hp) : List PyData → List V → Prop
  | [], xs => xs = []
  | d :: ds, xs => ∃ v r, xs = v :: r ∧ Rp K H d v ∧ RpL K H ds r
end
mutual
def dep : PyData → Nat
  | .tuple xs => deps xs + 1
  | _ => 0
def deps : List PyData → Nat
  | [] => 0
  | x :: xs => max (dep x) (deps xs)
end
mutual
def sz : PyData → Nat
  | .tuple xs => szs xs + 1
  | _ => 1
def szs : List PyData → Nat
  | [] => 0
  | x :: xs => sz x + szs xs
end
theorem SqT.tk {K : PySem.W.Frag} {H H' : Hp} {a : Addr} {xs : List V} (h : SqT K H a xs) (e : TK H H') : SqT K H' a xs := by
  rcases h with (h | ⟨o, h⟩) | h
  · exact .inl (.inl (e.1 _ _ h))
  · exact .inl (.inr ⟨o, e.2 _ _ _ h⟩)
  · exact .inr h
mutual
theorem Rp.tk {K : PySem.W.Frag} {H H' : Hp} (e : TK H H') : ∀ (d : PyData) (v : V), Rp K H d v → Rp K H' d v
  | .none, _, h => h
  | .bool _, _, h => h
  | .int _, _, h => h
  | .str _, _, h => h
  | .tuple ds, v, h => by
    unfold Rp at h ⊢
    obtain ⟨a, xs, rfl, hs, hl⟩ := h
    exact ⟨a, xs, rfl, SqT.tk hs e, RpL.tk e ds xs hl⟩
  | .list _, _, h => h
  | .dict _, _, h => h
theorem RpL.tk {K : PySem.W.Frag} {H H' : Hp} (e : TK H H') : ∀ (ds : List PyData) (xs : List V), RpL K H ds xs → RpL K H' ds xs
  | [], _, h => h
  | d :: ds, xs, h => by
    unfold RpL at h ⊢
    obtain ⟨v, r, rfl, h1, h2⟩ := h
    exact ⟨v, r, rfl, Rp.tk e d v h1, RpL.tk e ds r h2⟩
end
theorem RpL.len {K : PySem.W.Frag} {H : Hp} : ∀ (ds : List PyData) (xs : List V), RpL K H ds xs → xs.length = ds.length
  | [], xs, h => by
    unfold RpL at h
    rw [h]
    rfl
  | d :: ds, xs, h => by
    unfold RpL at h
    obtain ⟨v, r, rfl, h1, h2⟩ := h
    rw [List.length_cons, List.length_cons, RpL.len ds r h2]
theorem RpL.get {K : PySem.W.Frag} {H : Hp} : ∀ (ds : List PyData) (xs : List V), RpL K H ds xs → ∀ (i : Nat) (d : PyData), ds[i]? = some d → ∃ v, xs[i]? = some v ∧ Rp K H d v
  | [], xs, h, i, d, e => by cases e
  | d :: ds, xs, h, i, d', e => by
    unfold RpL at h
    obtain ⟨v, r, rfl, h1, h2⟩ := h
    cases i with
    | zero =>
      simp only [List.getElem?_cons_zero, Option.some.injEq] at e
      exact ⟨v, rfl, e ▸ h1⟩
    | succ i =>
      simp only [List.getElem?_cons_succ] at e ⊢
      exact RpL.get ds r h2 i d' e
theorem RpL.of {K : PySem.W.Frag} {H : Hp} : ∀ (ds : List PyData) (xs : List V), xs.length = ds.length → (∀ (i : Nat) (d : PyData) (v : V), ds[i]? = some d → xs[i]? = some v → Rp K H d v) → RpL K H ds xs
  | [], xs, h, _ => by
    unfold RpL
    exact List.length_eq_zero_iff.mp h
  | d :: ds, [], h, _ => by cases h
  | d :: ds, v :: r, h, k => by
    unfold RpL
    refine ⟨v, r, rfl, k 0 d v rfl rfl, RpL.of ds r (by simpa using h) fun i d' v' h1 h2 => k (i + 1) d' v' ?_ ?_⟩
    · simpa using h1
    · simpa using h2
theorem RpL.snoc {K : PySem.W.Frag} {H : Hp} {d : PyData} {v : V} (h : Rp K H d v) : ∀ (ds : List PyData) (xs : List V), RpL K H ds xs → RpL K H (ds ++ [d]) (xs ++ [v])
  | [], xs, q => by
    unfold RpL at q
    subst q
    show RpL K H [d] [v]
    unfold RpL
    exact ⟨v, [], rfl, h, by unfold RpL; rfl⟩
  | d' :: ds, xs, q => by
    unfold RpL at q
    obtain ⟨v', r, rfl, h1, h2⟩ := q
    show RpL K H (d' :: (ds ++ [d])) (v' :: (r ++ [v]))
    unfold RpL
    exact ⟨_, _, rfl, h1, RpL.snoc h ds r h2⟩
theorem dep_get : ∀ (ds : List PyData) (i : Nat) (d : PyData), ds[i]? = some d → dep d ≤ deps ds
  | [], i, d, e => by cases e
  | x :: xs, 0, d, e => by
    simp only [List.getElem?_cons_zero, Option.some.injEq] at e
    unfold deps
    rw [e]
    exact Nat.le_max_left _ _
  | x :: xs, i + 1, d, e => by
    simp only [List.getElem?_cons_succ] at e
    unfold deps
    exact Nat.le_trans (dep_get xs i d e) (Nat.le_max_right _ _)
theorem sz_get : ∀ (ds : List PyData) (i : Nat) (d : PyData), ds[i]? = some d → sz d ≤ szs ds
  | [], i, d, e => by cases e
  | x :: xs, 0, d, e => by
    simp only [List.getElem?_cons_zero, Option.some.injEq] at e
    unfold szs
    rw [e]
    exact Nat.le_add_right _ _
  | x :: xs, i + 1, d, e => by
    simp only [List.getElem?_cons_succ] at e
    unfold szs
    exact Nat.le_trans (sz_get xs i d e) (Nat.le_add_left _ _)
theorem sz_pos : ∀ d : PyData, 1 ≤ sz d
  | .tuple xs => by unfold sz; omega
  | .none | .bool _ | .int _ | .str _ | .list _ | .dict _ => by unfold sz; exact Nat.le_refl _
theorem szs_len : ∀ ds : List PyData, ds.length ≤ szs ds
  | [] => Nat.zero_le _
  | x :: xs => by
    have := szs_len xs
    have := sz_pos x
    unfold szs
    rw [List.length_cons]
    omega
/-- the type of such a thing -/
theorem ty_tup {K : PySem.W.Frag} {H : Hp} {a : Addr} {xs : List V} (h : SqT K H a xs) : TyX K H (.ref a) (.type "tuple") := by
  rcases h with (h | ⟨o, h⟩) | ⟨o, its, n, h, c, _⟩
  · exact .base (.tup h)
  · exact .fTuple h
  · exact .kTuple h c
/-- the same data handed in twice, of depth below n: True -/
def spSame (K : PySem.W.Frag) (n : Nat) : Sp := fun vs H Q _ => ∃ (x y : V) (d : PyData), vs = [x, y] ∧ Rp K H d x ∧ Rp K H d y ∧ dep d < n ∧ sz d ≤ 1000000 ∧ ∀ H', Same H H' → Q (.bl true) H'
end Wn

namespace Wn
open PySem L2
theorem fld1 {f : Str} {v : V} : ([(f, v)] : List (Str × V)).lookup f = some v := by
  show (match f == f with | true => some v | false => _) = some v
  rw [beq_self_eq_true]
theorem fld1_ne {f g : Str} {v : V} (h : (g == f) = false) : ([(f, v)] : List (Str × V)).lookup g = none := by
  show (match g == f with | true => some v | false => _) = none
  rw [h]
  rfl
theorem putF1 {f : Str} {v u : V} : putF f u [(f, v)] = [(f, u)] := by
  show (if f = f then (f, u) :: [] else _) = _
  rw [if_pos rfl]
/-! ### dicts by whole numbers, their values data -/
section
variable {α : Type}
def lookA (m : List (Int × α)) (k : Int) : Option α := (m.find? fun p => decide (p.1 = k)).map (·.2)
def putA (m : List (Int × α)) (k : Int) (v : α) : List (Int × α) :=
  if (m.any fun kv => decide (kv.1 = k)) = true then m.map (fun kv => if kv.1 = k then (kv.1, v) else kv) else m ++ [(k, v)]
def dropA (m : List (Int × α)) (k : Int) : List (Int × α) := m.filter fun kv => decide (kv.1 ≠ k)
theorem putA_len (m : List (Int × α)) (k : Int) (v : α) : (putA m k v).length ≤ m.length + 1 := by
  unfold putA
  split
  · rw [List.length_map]
    omega
  · rw [List.length_append, List.length_singleton]
    exact Nat.le_refl _
theorem dropA_len (m : List (Int × α)) (k : Int) : (dropA m k).length ≤ m.length := List.length_filter_le _ _
def RpD (enc : α → PyData) (K : PySem.W.Frag) (H : Hp) : List (Int × α) → List (Key × V) → Prop
  | [], kvs => kvs = []
  | p :: m, kvs => ∃ v r, kvs = (Sum.inl p.1, v) :: r ∧ Rp K H (enc p.2) v ∧ RpD enc K H m r
variable {enc : α → PyData} {K : PySem.W.Frag} {H H' : Hp}
theorem RpD.tk (e : TK H H') : ∀ {m : List (Int × α)} {kvs : List (Key × V)}, RpD enc K H m kvs → RpD enc K H' m kvs
  | [], _, h => h
  | p :: m, kvs, h => by
    obtain ⟨v, r, rfl, h1, h2⟩ := h
    exact ⟨v, r, rfl, Rp.tk e _ _ h1, RpD.tk e h2⟩
theorem RpD.len : ∀ {m : List (Int × α)} {kvs : List (Key × V)}, RpD enc K H m kvs → kvs.length = m.length
  | [], kvs, h => by rw [show kvs = [] from h]; rfl
  | p :: m, kvs, h => by
    obtain ⟨v, r, rfl, h1, h2⟩ := h
    rw [List.length_cons, List.length_cons, RpD.len h2]
theorem RpD.keys : ∀ {m : List (Int × α)} {kvs : List (Key × V)}, RpD enc K H m kvs → (kvs.map fun kv => kV kv.1) = (m.map (·.1)).map V.int
  | [], kvs, h => by rw [show kvs = [] from h]; rfl
  | p :: m, kvs, h => by
    obtain ⟨v, r, rfl, h1, h2⟩ := h
    rw [List.map_cons, List.map_cons, List.map_cons, RpD.keys h2]
    rfl
theorem inl_iff {a b : Int} : ((Sum.inl a : Key) = Sum.inl b) ↔ a = b := ⟨fun h => by cases h; rfl, fun h => by rw [h]⟩
theorem RpD.val {k : Int} : ∀ {m : List (Int × α)} {kvs : List (Key × V)}, RpD enc K H m kvs → (lookA m k = none ∧ valV kvs (Sum.inl k) = none) ∨ ∃ x v, lookA m k = some x ∧ valV kvs (Sum.inl k) = some v ∧ Rp K H (enc x) v
  | [], kvs, h => by
    rw [show kvs = [] from h]
    exact .inl ⟨rfl, rfl⟩
  | p :: m, kvs, h => by
    obtain ⟨v, r, rfl, h1, h2⟩ := h
    by_cases e : p.1 = k
    · refine .inr ⟨p.2, v, ?_, valV_pos (by rw [e]), h1⟩
      simp [lookA, List.find?_cons, e]
    · have e1 : lookA (p :: m) k = lookA m k := by simp [lookA, List.find?_cons, e]
      rw [e1, valV_neg (p := (Sum.inl p.1, v)) (fun z => e (inl_iff.mp z))]
      exact RpD.val h2
theorem RpD.any {k : Int} : ∀ {m : List (Int × α)} {kvs : List (Key × V)}, RpD enc K H m kvs → (kvs.any fun kv => decide (kv.1 = Sum.inl k)) = (m.any fun kv => decide (kv.1 = k))
  | [], kvs, h => by rw [show kvs = [] from h]; rfl
  | p :: m, kvs, h => by
    obtain ⟨v, r, rfl, h1, h2⟩ := h
    rw [List.any_cons, List.any_cons, RpD.any h2]
    congr 1
    exact decide_eq_decide.mpr inl_iff
theorem RpD.snoc {k : Int} {x : α} {v : V} (hv : Rp K H (enc x) v) : ∀ {m : List (Int × α)} {kvs : List (Key × V)}, RpD enc K H m kvs → RpD enc K H (m ++ [(k, x)]) (kvs ++ [(Sum.inl k, v)])
  | [], kvs, h => by
    rw [show kvs = [] from h]
    exact ⟨v, [], rfl, hv, rfl⟩
  | p :: m, kvs, h => by
    obtain ⟨u, r, rfl, h1, h2⟩ := h
    exact ⟨u, _, rfl, h1, RpD.snoc hv h2⟩
theorem RpD.map {k : Int} {x : α} {v : V} (hv : Rp K H (enc x) v) : ∀ {m : List (Int × α)} {kvs : List (Key × V)}, RpD enc K H m kvs → RpD enc K H (m.map fun kv => if kv.1 = k then (kv.1, x) else kv) (kvs.map fun kv => if kv.1 = Sum.inl k then (kv.1, v) else kv)
  | [], kvs, h => by rw [show kvs = [] from h]; rfl
  | p :: m, kvs, h => by
    obtain ⟨u, r, rfl, h1, h2⟩ := h
    have h3 := RpD.map (k := k) hv h2
    rw [List.map_cons, List.map_cons]
    by_cases e : p.1 = k
    · rw [if_pos e, if_pos (inl_iff.mpr e)]
      exact ⟨v, _, rfl, hv, h3⟩
    · rw [if_neg e, if_neg (fun z => e (inl_iff.mp z))]
      exact ⟨u, _, rfl, h1, h3⟩
theorem RpD.put {k : Int} {x : α} {v : V} {m : List (Int × α)} {kvs : List (Key × V)} (h : RpD enc K H m kvs) (hv : Rp K H (enc x) v) : RpD enc K H (putA m k x) (putK kvs (Sum.inl k) v) := by
  unfold putA putK
  rw [h.any]
  split
  · exact h.map hv
  · exact h.snoc hv
theorem RpD.drop {k : Int} : ∀ {m : List (Int × α)} {kvs : List (Key × V)}, RpD enc K H m kvs → RpD enc K H (dropA m k) (dropK kvs (Sum.inl k))
  | [], kvs, h => by rw [show kvs = [] from h]; rfl
  | p :: m, kvs, h => by
    obtain ⟨u, r, rfl, h1, h2⟩ := h
    have h3 := RpD.drop (k := k) h2
    unfold dropA dropK at *
    by_cases e : p.1 = k
    · rw [List.filter_cons_of_neg (by simp [e]), List.filter_cons_of_neg (by simp [e])]
      exact h3
    · rw [List.filter_cons_of_pos (by simp [e]), List.filter_cons_of_pos (by simp [inl_iff, e])]
      exact ⟨u, _, rfl, h1, h3⟩
/-- a dict at q that stands for m -/
def DictAt (enc : α → PyData) (K : PySem.W.Frag) (H : Hp) (q : Addr) (m : List (Int × α)) : Prop := ∃ kvs, H q = some (.dK kvs) ∧ RpD enc K H m kvs
theorem DictAt.kp {M : List Addr} {q : Addr} {m : List (Int × α)} (h : DictAt enc K H q m) (k : Kp M H H') (t : TK H H') (n : q ∉ M) : DictAt enc K H' q m := by
  obtain ⟨kvs, a, b⟩ := h
  exact ⟨kvs, k _ _ n a, b.tk t⟩
def sortI (ns : List Int) : List Int := ns.mergeSort (fun a b => decide (a ≤ b))
theorem sortI_perm (ns : List Int) : (sortI ns).Perm ns := List.mergeSort_perm _ _
theorem sortI_sorted (ns : List Int) : (sortI ns).Pairwise (· ≤ ·) := by
  have h := List.pairwise_mergeSort (le := fun a b : Int => decide (a ≤ b)) (fun a b c h1 h2 => by simp only [decide_eq_true_eq] at *; omega) (fun a b => by simp only [Bool.or_eq_true, decide_eq_true_eq]; omega) ns
  exact h.imp fun h => of_decide_eq_true h
theorem sortI_eq {ns ms : List Int} (p : ms.Perm ns) (s : ms.Pairwise (· ≤ ·)) : ms = sortI ns :=
  PySem.W.ksm_same (p.trans (sortI_perm ns).symm) s (sortI_sorted ns)
/-- rows by hands: (hand,) and what stands there -/
def rowsD (encL : α → List PyData) (m : List (Int × α)) : PyData := .tuple ((sortI (m.map (·.1))).map fun k => .tuple (.int k :: ((lookA m k).map encL).getD []))
theorem lookA_mem {m : List (Int × α)} {k : Int} (h : k ∈ m.map (·.1)) : ∃ x, lookA m k = some x ∧ (k, x) ∈ m := by
  obtain ⟨p, hp, rfl⟩ := List.mem_map.mp h
  unfold lookA
  cases e : m.find? fun q => decide (q.1 = p.1) with
  | none =>
    have := List.find?_eq_none.mp e p hp
    simp at this
  | some q =>
    have h1 := List.find?_some e
    have h2 := List.mem_of_find?_eq_some e
    simp only [decide_eq_true_eq] at h1
    exact ⟨q.2, rfl, by rw [← h1]; exact h2⟩
theorem szs_map_le {β : Type} {f : β → PyData} {c : Nat} : ∀ (l : List β), (∀ x ∈ l, sz (f x) ≤ c) → szs (l.map f) ≤ c * l.length
  | [], _ => Nat.zero_le _
  | x :: l, h => by
    have h1 := szs_map_le l fun y hy => h y (List.mem_cons_of_mem _ hy)
    have h2 := h x List.mem_cons_self
    rw [List.map_cons, List.length_cons]
    unfold szs
    rw [Nat.mul_succ]
    omega
theorem deps_map_le {β : Type} {f : β → PyData} {c : Nat} : ∀ (l : List β), (∀ x ∈ l, dep (f x) ≤ c) → deps (l.map f) ≤ c
  | [], _ => Nat.zero_le _
  | x :: l, h => by
    have h1 := deps_map_le l fun y hy => h y (List.mem_cons_of_mem _ hy)
    have h2 := h x List.mem_cons_self
    rw [List.map_cons]
    unfold deps
    omega
theorem Rp.tup {ds : List PyData} {a : Addr} {xs : List V} (h : H a = some (.tup xs)) (r : RpL K H ds xs) : Rp K H (.tuple ds) (.ref a) := by
  unfold Rp
  exact ⟨a, xs, rfl, SqT.of h, r⟩
theorem Rp.tupS {ds : List PyData} {a : Addr} {xs : List V} (h : SqT K H a xs) (r : RpL K H ds xs) : Rp K H (.tuple ds) (.ref a) := by
  unfold Rp
  exact ⟨a, xs, rfl, h, r⟩
theorem RpL.cons {d : PyData} {ds : List PyData} {v : V} {xs : List V} (h : Rp K H d v) (r : RpL K H ds xs) : RpL K H (d :: ds) (v :: xs) := by
  unfold RpL
  exact ⟨v, xs, rfl, h, r⟩
theorem RpL.nil : RpL K H [] [] := by
  unfold RpL
  rfl
theorem Rp.int {i : Int} : Rp K H (.int i) (.int i) := by
  unfold Rp
  rfl
theorem Rp.none : Rp K H .none .non := by
  unfold Rp
  rfl
theorem Rp.str {z : Str} : Rp K H (.str z) (.str z) := by
  unfold Rp
  rfl
end
end Wn

namespace Wn
open PySem L2
theorem tYes_t {σ : L2.St} {H : Hp} {F : Bool → Hp → Prop} (h : F true H) : tYes σ H F := h
theorem rows_lc {α : Type} {encL : α → List PyData} {K : PySem.W.Frag} {td : TE} {i : Nat} {σ : L2.St} {H2 : Hp} {S D q : Addr} {ns : List Int} {m : List (Int × α)} {kvs : List (Key × V)} {Qd : Hp → Prop}
    (hS : H2 S = some (.lst (ns.map V.int))) (hq : H2 q = some (.dK kvs)) (hm : RpD (fun x => .tuple (encL x)) K H2 m kvs) (hns : ∀ k ∈ ns, k ∈ m.map (·.1)) (hz : ∀ x, (encL x).length ≤ 100) (hln : ns.length ≤ 1000000)
    (htd : ∀ (σ' : L2.St) (H' : Hp) (Q : VK), wipe σ' [i] = wipe σ [i] → Same H2 H' → Q (.ref q) H' → td σ' H' Q) (hD : H2 D = none) (hσ : i < σ.length)
    (hd : ∀ (H' : Hp) (xs : List V), Same H2 H' → H' D = some (.lst xs) → RpL K H' (ns.map fun k => .tuple (.int k :: ((lookA m k).map encL).getD [])) xs → Qd H') :
    ∃ W : Nat → Nat → Hp → Prop, (∃ m, W 0 m (upd H2 D (.lst []))) ∧ ∀ j m H, W j m H →
      ((Itl K S).stop j H ∧ Qd H) ∨ ((Itl K S).go j H ∧ ∃ Nx : Hp → Prop, (∀ H', Nx H' → ∃ m', m' < m ∧ W (j + 1) m' H') ∧ ∀ x H', (Itl K S).yld j H x H' → gName i x (wipe σ [i]) H' fun σ2 H2 => wipe σ2 [i] = wipe σ [i] ∧ tYes σ2 H2 fun b H3 =>
        if b = true then tOp (rCatT K) (tTup (tCons (tVar i) tNil)) (tDGet td (tVar i)) σ2 H3 fun y H4 => ∃ acc, H4 D = some (.lst acc) ∧ acc.length < sizeLine ∧ Nx (upd H4 D (.lst (acc ++ [y]))) else Nx H3) := by
  have nSD : S ≠ D := ne_of_none hS hD
  refine lc_list (K := K) (a := S) (xs := ns.map V.int) (fun j H => ∃ xs, Same H2 H ∧ H D = some (.lst xs) ∧ RpL K H ((ns.take j).map fun k => .tuple (.int k :: ((lookA m k).map encL).getD [])) xs)
    ⟨[], (L2.Same.refl H2).new hD, upd_same, RpL.nil⟩ (fun j H _ ⟨xs, s, _, _⟩ => SqL.of (s _ _ hS)) ?_ ?_
  · rintro j x H3 hx ⟨xs, s3, hD3, hr⟩
    have hj : j < ns.length := by
      have q := (List.getElem?_eq_some_iff.mp hx).1
      rw [List.length_map] at q
      exact q
    obtain rfl : x = V.int ns[j] := by
      rw [List.getElem?_map, List.getElem?_eq_getElem hj] at hx
      exact (Option.some.inj hx).symm
    have hmem : ns[j] ∈ m.map (·.1) := hns _ (List.getElem_mem hj)
    have eσ : (((wipe σ [i]).set i (some (V.int ns[j]))))[i]? = some (some (V.int ns[j])) := by
      rw [List.getElem?_set_self]
      rw [wipe_length]
      exact hσ
    have ew : wipe ((wipe σ [i]).set i (some (V.int ns[j]))) [i] = wipe σ [i] := by
      show ((σ.set i none).set i (some (V.int ns[j]))).set i none = σ.set i none
      rw [List.set_set, List.set_set]
    refine ⟨ew, ?_⟩
    refine tYes_t (iteT ?_)
    have hlx : xs.length < sizeLine := by
      have := RpL.len _ _ hr
      rw [List.length_map, List.length_take] at this
      exact Nat.lt_of_le_of_lt (show xs.length ≤ 1000000 by omega) (by decide)
    refine ⟨_, eσ, (by show 1 ≤ sizeLine; decide), fun t ht => ?_⟩
    have s4 := s3.new (o := .tup [V.int ns[j]]) ht
    have t4 := TK.of s4
    refine htd _ _ _ ew s4 ⟨_, eσ, ?_⟩
    rcases hm.val (k := ns[j]) with ⟨e1, e2⟩ | ⟨y, v, e1, e2, r⟩
    · obtain ⟨z, e3, _⟩ := lookA_mem hmem
      rw [e1] at e3
      cases e3
    · have r4 := Rp.tk t4 _ _ r
      unfold Rp at r4
      obtain ⟨b, ys, rfl, hb, hl⟩ := r4
      have hly := RpL.len _ _ hl
      refine ⟨q, .ref b, rfl, by rw [← e2]; exact DGet.k (k := Sum.inl ns[j]) (s4 _ _ hq), ?_⟩
      have hD4 : (upd H3 t (.tup [V.int ns[j]])) D = some (.lst xs) := by
        rw [upd_ne (ne_of_none hD3 ht)]
        exact hD3
      have etk : (ns.take (j + 1)).map (fun k => PyData.tuple (.int k :: ((lookA m k).map encL).getD [])) = (ns.take j).map (fun k => PyData.tuple (.int k :: ((lookA m k).map encL).getD [])) ++ [PyData.tuple (.int ns[j] :: encL y)] := by
        rw [List.take_succ_eq_append_getElem hj, List.map_append, List.map_singleton, e1]
        rfl
      have s34 : TK H3 (upd H3 t (.tup [V.int ns[j]])) := (TK.refl _).new ht
      refine ⟨t, b, _, ys, rfl, rfl, SqT.of upd_same, hb, List.cons_ne_nil _ _, ?_, fun ey => ?_, fun _ p hp => ?_⟩
      · have := hz y
        rw [hly, List.length_singleton]
        exact Nat.le_trans (show 1 + (encL y).length ≤ 1000 by omega) (by decide)
      · refine ⟨xs, hD4, hlx, _, s4.wrn hD, upd_same, ?_⟩
        rw [etk]
        have tE : TK (upd H3 t (.tup [V.int ns[j]])) (upd (upd H3 t (.tup [V.int ns[j]])) D (.lst (xs ++ [V.ref t]))) := (TK.refl _).wr hD4 rfl
        refine RpL.snoc (Rp.tk tE _ _ (Rp.tup upd_same ?_)) _ _ (RpL.tk (s34.trans tE) _ _ hr)
        have e0 : encL y = [] := List.length_eq_zero_iff.mp (by rw [← hly, ey]; rfl)
        rw [e0]
        exact RpL.cons Rp.int RpL.nil
      · have s5 := s4.new (o := .tup ([V.int ns[j]] ++ ys)) hp
        have hD5 : upd (upd H3 t (.tup [V.int ns[j]])) p (.tup ([V.int ns[j]] ++ ys)) D = some (.lst xs) := by
          rw [upd_ne (ne_of_none hD4 hp)]
          exact hD4
        have tE : TK (upd (upd H3 t (.tup [V.int ns[j]])) p (.tup ([V.int ns[j]] ++ ys))) (upd (upd (upd H3 t (.tup [V.int ns[j]])) p (.tup ([V.int ns[j]] ++ ys))) D (.lst (xs ++ [V.ref p]))) := (TK.refl _).wr hD5 rfl
        have s45 : TK (upd H3 t (.tup [V.int ns[j]])) (upd (upd H3 t (.tup [V.int ns[j]])) p (.tup ([V.int ns[j]] ++ ys))) := (TK.refl _).new hp
        refine ⟨xs, hD5, hlx, _, s5.wrn hD, upd_same, ?_⟩
        rw [etk]
        refine RpL.snoc (Rp.tk tE _ _ (Rp.tup upd_same ?_)) _ _ (RpL.tk ((s34.trans s45).trans tE) _ _ hr)
        exact RpL.cons Rp.int (RpL.tk s45 _ _ hl)
  · rintro H3 ⟨xs, s3, hD3, hr⟩
    rw [List.length_map, List.take_length] at hr
    exact hd H3 xs s3 hD3 hr
end Wn

namespace Wn
open PySem L2
section
variable {X : Cx} {K : PySem.W.Frag}
theorem ixL (hK : X.K = K) : IxR X (rIxL K) := hK ▸ ix_list
theorem ixT (hK : X.K = K) : IxR X (rIxT K) := hK ▸ ix_tup
theorem opCatT (hK : X.K = K) : OpR X (binaryOp .Add) (rCatT K) := hK ▸ op_catT
theorem slL (hK : X.K = K) : SlR X (rSlL K) := hK ▸ sl_list
theorem slT (hK : X.K = K) : SlR X (rSlT K) := hK ▸ sl_tup
theorem fldK {e : Expr} {ta : TE} {f : Str} {pos : Pos} (hK : X.K = K) (he : PE X e ta) (hb : attributeBase e f X.env (eval e X.env) = eval e X.env) : PE X (.Attribute e f pos) (tFld K ta f) := hK ▸ pe_fld he hb
theorem lenK (hK : X.K = K) : CallR X (.builtin "len") (fun xs H Q => ∃ x n, xs = [x] ∧ LenV K x H n ∧ Q (.int n) H) := hK ▸ call_len
theorem crMaxK (hK : X.K = K) (hc : X.calm = true) : CallR X (.builtin "max") (rMax K) := hK ▸ cr_max hc
theorem crMinK (hK : X.K = K) (hc : X.calm = true) : CallR X (.builtin "min") (rMin K) := hK ▸ cr_min hc
theorem crAllK (hK : X.K = K) (hc : X.calm = true) : CallR X (.builtin "all") (rAll K) := hK ▸ cr_all hc
theorem crAnyK (hK : X.K = K) (hc : X.calm = true) : CallR X (.builtin "any") (rAny K) := hK ▸ cr_any hc
theorem isiK (hK : X.K = K) : CallR X (.builtin "isinstance") (rIsi K) := hK ▸ call_isi
theorem tupOfK (hK : X.K = K) : CallR X (.type "tuple") (fun xs H Q => ∃ p ys, xs = [.ref p] ∧ ((SqL K H p ys ∧ ∀ l, H l = none → Q (.ref l) (upd H l (.tup ys))) ∨ (SqT K H p ys ∧ Q (.ref p) H))) := hK ▸ call_tuple_of
theorem lstOfK (hK : X.K = K) : CallR X (.type "list") (fun xs H Q => ∃ p ys, xs = [.ref p] ∧ (SqL K H p ys ∨ SqT K H p ys) ∧ ∀ l, H l = none → Q (.ref l) (upd H l (.lst ys))) := hK ▸ call_list_of
theorem sortIK (hK : X.K = K) : CallR X (.builtin "sorted") (rSortedI K) := hK ▸ cr_sortedI
theorem inSeqK (hK : X.K = K) : OpR X (compareOp .In) (rIn K false) := hK ▸ op_in_seq
theorem notInSeqK (hK : X.K = K) : OpR X (compareOp .NotIn) (rIn K true) := hK ▸ op_notIn_seq
theorem eqDK (hK : X.K = K) (hu : X.A.units + 64 < cLine) : OpR X (compareOp .Eq) (rEqD K) := hK ▸ op_eqD hu
theorem neDK (hK : X.K = K) (hu : X.A.units + 64 < cLine) : OpR X (compareOp .NotEq) (rNeD K) := hK ▸ op_neD hu
end
end Wn

namespace Wn
open PySem L2
theorem Deck.kp {M : List Addr} {H H' : Hp} {d f : Addr} {n : Int} (h : Deck H d f n) (k : Kp M H H') (n1 : d ∉ M) (n2 : f ∉ M) : Deck H' d f n := by
  obtain ⟨a, wh, xs, h1, h2, h3⟩ := h
  exact ⟨a, wh, xs, k _ _ n1 h1, k _ _ n2 h2, h3⟩
theorem Deck.mono {H : Hp} {d f : Addr} {n m : Int} (h : Deck H d f n) (hm : n ≤ m) : Deck H d f m := by
  obtain ⟨a, wh, xs, h1, h2, h3, h4, h5⟩ := h
  exact ⟨a, wh, xs, h1, h2, h3, by omega, h5⟩
theorem Deck.lst {H : Hp} {d f : Addr} {n : Int} (h : Deck H d f n) : ∃ zs, H d = some (.lst zs) := by
  obtain ⟨a, wh, xs, h1, h2, h3⟩ := h
  exact ⟨_, h1⟩
theorem Deck.lst2 {H : Hp} {d f : Addr} {n : Int} (h : Deck H d f n) : ∃ zs, H f = some (.lst zs) := by
  obtain ⟨a, wh, xs, h1, h2, h3⟩ := h
  exact ⟨_, h2⟩
theorem seq_have {t u : TS} {D : Ends} {σ : L2.St} {H : Hp} (Mid : L2.St → Hp → Prop) (h2 : ∀ σ' H', Mid σ' H' → u D σ' H') (h1 : (∀ σ' H', Mid σ' H' → u D σ' H') → t { D with nx := u D } σ H) : tSeq t u D σ H := h1 h2
theorem seq_if {c : TT} {t1 t2 u : TS} {D : Ends} {σ : L2.St} {H : Hp} (Mid : L2.St → Hp → Prop) (h2 : ∀ σ' H', Mid σ' H' → u D σ' H') (h1 : (∀ σ' H', Mid σ' H' → u D σ' H') → tIfS c t1 t2 { D with nx := u D } σ H) : tSeq (tIfS c t1 t2) u D σ H := h1 h2
theorem nin1 {a b : Addr} (h : a ≠ b) : a ∉ [b] := fun z => h (List.mem_singleton.mp z)
theorem nin2 {a b c : Addr} (h : a ≠ b) (h' : a ≠ c) : a ∉ [b, c] := fun z => by
  rcases List.mem_cons.mp z with z | z
  · exact h z
  · exact h' (List.mem_singleton.mp z)
section
variable {α : Type}
/-- an object at p whose dict by_hand stands at q -/
def HoldAt (enc : α → PyData) (K : PySem.W.Frag) (C : Addr) (H : Hp) (p q : Addr) (m : List (Int × α)) : Prop :=
  (∃ dx, H p = some (.ins C dx [("by_hand", .ref q)])) ∧ DictAt enc K H q m
variable {enc : α → PyData} {K : PySem.W.Frag} {C : Addr} {H H' : Hp}
theorem HoldAt.kp {M : List Addr} {p q : Addr} {m : List (Int × α)} (h : HoldAt enc K C H p q m) (k : Kp M H H') (t : TK H H') (n1 : p ∉ M) (n2 : q ∉ M) : HoldAt enc K C H' p q m := by
  obtain ⟨⟨dx, a⟩, b⟩ := h
  exact ⟨⟨dx, k _ _ n1 a⟩, b.kp k t n2⟩
/-- n objects and n dicts, in two lists -/
structure Rack (enc : α → PyData) (K : PySem.W.Frag) (C : Addr) (H : Hp) (L1 L2 : Addr) (n : Nat) (p q md : Nat → Addr) (m m' : Nat → List (Int × α)) : Prop where
  l1 : H L1 = some (.lst ((List.range n).map fun j => V.ref (p j)))
  l2 : H L2 = some (.lst ((List.range n).map fun j => V.ref (md j)))
  ok : ∀ j, j < n → HoldAt enc K C H (p j) (q j) (m j)
  mo : ∀ j, j < n → DictAt enc K H (md j) (m' j)
  dq : ∀ i j, i < n → j < n → i ≠ j → q i ≠ q j
  dm : ∀ i j, i < n → j < n → i ≠ j → md i ≠ md j
  dx : ∀ i j, i < n → j < n → q i ≠ md j
variable {L1 L2 : Addr} {n : Nat} {p q md : Nat → Addr} {m m' : Nat → List (Int × α)}
theorem Rack.kp {M : List Addr} (R : Rack enc K C H L1 L2 n p q md m m') (k : Kp M H H') (t : TK H H') (h : ∀ x ∈ M, x ≠ L1 ∧ x ≠ L2 ∧ ∀ j, j < n → x ≠ p j ∧ x ≠ q j ∧ x ≠ md j) : Rack enc K C H' L1 L2 n p q md m m' where
  l1 := k _ _ (fun z => (h _ z).1 rfl) R.l1
  l2 := k _ _ (fun z => (h _ z).2.1 rfl) R.l2
  ok := fun j hj => (R.ok j hj).kp k t (fun z => ((h _ z).2.2 j hj).1 rfl) (fun z => ((h _ z).2.2 j hj).2.1 rfl)
  mo := fun j hj => (R.mo j hj).kp k t (fun z => ((h _ z).2.2 j hj).2.2 rfl)
  dq := R.dq
  dm := R.dm
  dx := R.dx
/-- a list beside was written -/
theorem Rack.lst {d : Addr} {zs : List V} (R : Rack enc K C H L1 L2 n p q md m m') (k : Kp [d] H H') (t : TK H H') (hd : H d = some (.lst zs)) (n1 : d ≠ L1) (n2 : d ≠ L2) : Rack enc K C H' L1 L2 n p q md m m' :=
  R.kp k t fun x hx => by
    rw [List.mem_singleton] at hx
    subst hx
    refine ⟨n1, n2, fun j hj => ?_⟩
    obtain ⟨⟨dx, a⟩, kvs, b, _⟩ := R.ok j hj
    obtain ⟨kvs', c, _⟩ := R.mo j hj
    exact ⟨ne_of hd a (by intro z; cases z), ne_of hd b (by intro z; cases z), ne_of hd c (by intro z; cases z)⟩
theorem Rack.same (R : Rack enc K C H L1 L2 n p q md m m') (s : Same H H') : Rack enc K C H' L1 L2 n p q md m m' :=
  R.kp (M := []) (Kp.of s) (TK.of s) fun x hx => by cases hx
/-- the k-th object's dict is another one -/
theorem Rack.setq {i : Nat} {mn : List (Int × α)} (R : Rack enc K C H L1 L2 n p q md m m') (hi : i < n) (k : Kp [q i] H H') (t : TK H H') (h : HoldAt enc K C H' (p i) (q i) mn) :
    Rack enc K C H' L1 L2 n p q md (fun j => if j = i then mn else m j) m' := by
  obtain ⟨_, kvq, hq, _⟩ := R.ok i hi
  refine ⟨k _ _ (nin1 (ne_of R.l1 hq (by intro z; cases z))) R.l1, k _ _ (nin1 (ne_of R.l2 hq (by intro z; cases z))) R.l2, fun j hj => ?_, fun j hj => ?_, R.dq, R.dm, R.dx⟩
  · by_cases e : j = i
    · subst e
      simp only [if_true]
      exact h
    · simp only [if_neg e]
      obtain ⟨⟨dx, a⟩, _⟩ := R.ok j hj
      exact (R.ok j hj).kp k t (nin1 (ne_of a hq (by intro z; cases z))) (nin1 (R.dq j i hj hi e))
  · exact (R.mo j hj).kp k t (nin1 (fun z => R.dx i j hi hj z.symm))
theorem Rack.setm {i : Nat} {mn : List (Int × α)} (R : Rack enc K C H L1 L2 n p q md m m') (hi : i < n) (k : Kp [md i] H H') (t : TK H H') (h : DictAt enc K H' (md i) mn) :
    Rack enc K C H' L1 L2 n p q md m (fun j => if j = i then mn else m' j) := by
  obtain ⟨kvq, hq, _⟩ := R.mo i hi
  refine ⟨k _ _ (nin1 (ne_of R.l1 hq (by intro z; cases z))) R.l1, k _ _ (nin1 (ne_of R.l2 hq (by intro z; cases z))) R.l2, fun j hj => ?_, fun j hj => ?_, R.dq, R.dm, R.dx⟩
  · obtain ⟨⟨dx, a⟩, _⟩ := R.ok j hj
    exact (R.ok j hj).kp k t (nin1 (ne_of a hq (by intro z; cases z))) (nin1 (R.dx j i hj hi))
  · by_cases e : j = i
    · subst e
      simp only [if_true]
      exact h
    · simp only [if_neg e]
      exact (R.mo j hj).kp k t (nin1 (R.dm j i hj hi e))
/-- one more -/
theorem Rack.push {pn qn mdn : Addr} {mn : List (Int × α)} (R : Rack enc K C H L1 L2 n p q md m m') (k : Kp [L1, L2] H H') (t : TK H H') (h1 : H' L1 = some (.lst (((List.range n).map fun j => V.ref (p j)) ++ [V.ref pn]))) (h2 : H' L2 = some (.lst (((List.range n).map fun j => V.ref (md j)) ++ [V.ref mdn])))
    (hp : HoldAt enc K C H' pn qn mn) (hm : DictAt enc K H' mdn mn) (nq : H qn = none) (nm : H mdn = none) (nqm : qn ≠ mdn) :
    Rack enc K C H' L1 L2 (n + 1) (fun j => if j = n then pn else p j) (fun j => if j = n then qn else q j) (fun j => if j = n then mdn else md j) (fun j => if j = n then mn else m j) (fun j => if j = n then mn else m' j) := by
  have e1 : ∀ (f : Nat → Addr) (x : Addr), (List.range (n + 1)).map (fun j => V.ref (if j = n then x else f j)) = ((List.range n).map fun j => V.ref (f j)) ++ [V.ref x] := fun f x => by
    rw [List.range_succ, List.map_append, List.map_singleton, if_pos rfl]
    congr 1
    refine List.map_congr_left fun j hj => ?_
    rw [List.mem_range] at hj
    rw [if_neg (by omega)]
  have hq : ∀ j, j < n → q j ≠ qn ∧ q j ≠ mdn := fun j hj => by
    obtain ⟨_, kv, a, _⟩ := R.ok j hj
    exact ⟨ne_of_none a nq, ne_of_none a nm⟩
  have hmd : ∀ j, j < n → md j ≠ qn ∧ md j ≠ mdn := fun j hj => by
    obtain ⟨kv, a, _⟩ := R.mo j hj
    exact ⟨ne_of_none a nq, ne_of_none a nm⟩
  refine ⟨by rw [e1]; exact h1, by rw [e1]; exact h2, fun j hj => ?_, fun j hj => ?_, fun i j hi hj e => ?_, fun i j hi hj e => ?_, fun i j hi hj => ?_⟩
  · by_cases e : j = n
    · simp only [if_pos e]
      exact hp
    · simp only [if_neg e]
      obtain ⟨⟨dx, a⟩, kv, b, _⟩ := R.ok j (by omega)
      exact (R.ok j (by omega)).kp k t (nin2 (ne_of a R.l1 (by intro z; cases z)) (ne_of a R.l2 (by intro z; cases z))) (nin2 (ne_of b R.l1 (by intro z; cases z)) (ne_of b R.l2 (by intro z; cases z)))
  · by_cases e : j = n
    · simp only [if_pos e]
      exact hm
    · simp only [if_neg e]
      obtain ⟨kv, b, _⟩ := R.mo j (by omega)
      exact (R.mo j (by omega)).kp k t (nin2 (ne_of b R.l1 (by intro z; cases z)) (ne_of b R.l2 (by intro z; cases z)))
  · by_cases ei : i = n
    · have ej : ¬ j = n := by omega
      simp only [if_pos ei, if_neg ej]
      exact (hq j (by omega)).1.symm
    · by_cases ej : j = n
      · simp only [if_neg ei, if_pos ej]
        exact (hq i (by omega)).1
      · simp only [if_neg ei, if_neg ej]
        exact R.dq i j (by omega) (by omega) e
  · by_cases ei : i = n
    · have ej : ¬ j = n := by omega
      simp only [if_pos ei, if_neg ej]
      exact (hmd j (by omega)).2.symm
    · by_cases ej : j = n
      · simp only [if_neg ei, if_pos ej]
        exact (hmd i (by omega)).2
      · simp only [if_neg ei, if_neg ej]
        exact R.dm i j (by omega) (by omega) e
  · by_cases ei : i = n
    · by_cases ej : j = n
      · simp only [if_pos ei, if_pos ej]
        exact nqm
      · simp only [if_pos ei, if_neg ej]
        exact (hmd j (by omega)).1.symm
    · by_cases ej : j = n
      · simp only [if_neg ei, if_pos ej]
        exact (hq i (by omega)).2
      · simp only [if_neg ei, if_neg ej]
        exact R.dx i j (by omega) (by omega)
end
section
variable {α : Type} {enc : α → PyData} {K : PySem.W.Frag} {C : Addr} {H H' : Hp}
theorem HoldAt.lst {d p q : Addr} {zs : List V} {m : List (Int × α)} (h : HoldAt enc K C H p q m) (k : Kp [d] H H') (t : TK H H') (hd : H d = some (.lst zs)) : HoldAt enc K C H' p q m := by
  obtain ⟨⟨dx, a⟩, kv, b, _⟩ := id h
  exact h.kp k t (nin1 (ne_of a hd (by intro z; cases z))) (nin1 (ne_of b hd (by intro z; cases z)))
theorem HoldAt.same {p q : Addr} {m : List (Int × α)} (h : HoldAt enc K C H p q m) (s : Same H H') : HoldAt enc K C H' p q m :=
  h.kp (M := []) (Kp.of s) (TK.of s) (by simp) (by simp)
theorem DictAt.lst {d q : Addr} {zs : List V} {m : List (Int × α)} (h : DictAt enc K H q m) (k : Kp [d] H H') (t : TK H H') (hd : H d = some (.lst zs)) : DictAt enc K H' q m := by
  obtain ⟨kv, b, _⟩ := id h
  exact h.kp k t (nin1 (ne_of b hd (by intro z; cases z)))
theorem DictAt.same {q : Addr} {m : List (Int × α)} (h : DictAt enc K H q m) (s : Same H H') : DictAt enc K H' q m :=
  h.kp (M := []) (Kp.of s) (TK.of s) (by simp)
theorem Deck.same {d f : Addr} {n : Int} (h : Deck H d f n) (s : Same H H') : Deck H' d f n := h.kp (M := []) (Kp.of s) (by simp) (by simp)
/-- a dict beside was written -/
theorem Deck.dict {d f q : Addr} {n : Int} {m : List (Int × α)} (h : Deck H d f n) (k : Kp [q] H H') (hq : DictAt enc K H q m) : Deck H' d f n := by
  obtain ⟨kv, b, _⟩ := hq
  obtain ⟨zs, h1⟩ := h.lst
  obtain ⟨zf, h2⟩ := h.lst2
  exact h.kp k (nin1 (ne_of h1 b (by intro z; cases z))) (nin1 (ne_of h2 b (by intro z; cases z)))
variable {La Lb : Addr} {n : Nat} {p q md : Nat → Addr} {m m' : Nat → List (Int × α)}
/-- the k-th object's dict, the k-th dict and a list beside are others -/
theorem Rack.set2 {d : Addr} {zs : List V} {i : Nat} {mn mn' : List (Int × α)} (R : Rack enc K C H La Lb n p q md m m') (hi : i < n) (k : Kp [d, q i, md i] H H') (t : TK H H') (hd : H d = some (.lst zs)) (n1 : d ≠ La) (n2 : d ≠ Lb)
    (h : HoldAt enc K C H' (p i) (q i) mn) (h' : DictAt enc K H' (md i) mn') :
    Rack enc K C H' La Lb n p q md (fun j => if j = i then mn else m j) (fun j => if j = i then mn' else m' j) := by
  obtain ⟨_, kvq, hq, _⟩ := R.ok i hi
  obtain ⟨kvm, hm, _⟩ := R.mo i hi
  have nin : ∀ {x : Addr}, x ≠ d → x ≠ q i → x ≠ md i → x ∉ [d, q i, md i] := fun a b c z => by
    rcases List.mem_cons.mp z with z | z
    · exact a z
    · exact nin2 b c z
  refine ⟨k _ _ (nin n1.symm (ne_of R.l1 hq (by intro z; cases z)) (ne_of R.l1 hm (by intro z; cases z))) R.l1, k _ _ (nin n2.symm (ne_of R.l2 hq (by intro z; cases z)) (ne_of R.l2 hm (by intro z; cases z))) R.l2, fun j hj => ?_, fun j hj => ?_, R.dq, R.dm, R.dx⟩
  · by_cases e : j = i
    · subst e
      simp only [if_true]
      exact h
    · simp only [if_neg e]
      obtain ⟨⟨dx, a⟩, kv, b, _⟩ := R.ok j hj
      exact (R.ok j hj).kp k t (nin (ne_of a hd (by intro z; cases z)) (ne_of a hq (by intro z; cases z)) (ne_of a hm (by intro z; cases z))) (nin (ne_of b hd (by intro z; cases z)) (R.dq j i hj hi e) (R.dx j i hj hi))
  · by_cases e : j = i
    · subst e
      simp only [if_true]
      exact h'
    · simp only [if_neg e]
      obtain ⟨kv, b, _⟩ := R.mo j hj
      exact (R.mo j hj).kp k t (nin (ne_of b hd (by intro z; cases z)) (fun z => R.dx i j hi hj z.symm) (R.dm j i hj hi e))
end
theorem at3 {x y z : V} {r : Int} (h0 : 0 ≤ r) (h1 : r < 3) : ∃ v, atI [x, y, z] r = some v ∧ (v = x ∨ v = y ∨ v = z) := by
  have h : r = 0 ∨ r = 1 ∨ r = 2 := by omega
  rcases h with rfl | rfl | rfl
  · exact ⟨x, rfl, .inl rfl⟩
  · exact ⟨y, rfl, .inr (.inl rfl)⟩
  · exact ⟨z, rfl, .inr (.inr rfl)⟩
theorem at5 {a b c d e : Int} {r : Int} (h0 : 0 ≤ r) (h1 : r < 5) : ∃ v : Int, atI [V.int a, .int b, .int c, .int d, .int e] r = some (.int v) := by
  have h : r = 0 ∨ r = 1 ∨ r = 2 ∨ r = 3 ∨ r = 4 := by omega
  rcases h with rfl | rfl | rfl | rfl | rfl <;> exact ⟨_, rfl⟩
theorem atR {n : Nat} {f : Nat → Addr} {r : Int} (h0 : 0 ≤ r) (h1 : r < n) : atI ((List.range n).map fun j => V.ref (f j)) r = some (.ref (f r.toNat)) := by
  have e : ((r.toNat : Nat) : Int) = r := by omega
  have := atI_nat (xs := (List.range n).map fun j => V.ref (f j)) (j := r.toNat) (v := .ref (f r.toNat)) (by
    rw [List.getElem?_map, List.getElem?_range (by omega)]
    rfl)
  rw [e] at this
  exact this
def spLaw (K : PySem.W.Frag) : Sp := fun vs H Q _ => ∃ (a : Addr) (ns : List Int), vs = [.ref a] ∧ SqL K H a (ns.map V.int) ∧ ns.length ≤ 63 ∧ ∀ H', Q (.bl true) H'
/-! ### lists of data -/
def LstAt (K : PySem.W.Frag) (H : Hp) (a : Addr) (ds : List PyData) : Prop := ∃ xs, H a = some (.lst xs) ∧ RpL K H ds xs
section
variable {K : PySem.W.Frag} {H H' : Hp}
theorem LstAt.kp {M : List Addr} {a : Addr} {ds : List PyData} (h : LstAt K H a ds) (k : Kp M H H') (t : TK H H') (n : a ∉ M) : LstAt K H' a ds := by
  obtain ⟨xs, h1, h2⟩ := h
  exact ⟨xs, k _ _ n h1, RpL.tk t _ _ h2⟩
theorem LstAt.same {a : Addr} {ds : List PyData} (h : LstAt K H a ds) (s : Same H H') : LstAt K H' a ds := h.kp (M := []) (Kp.of s) (TK.of s) (by simp)
theorem LstAt.lst {a : Addr} {ds : List PyData} (h : LstAt K H a ds) : ∃ zs, H a = some (.lst zs) := ⟨_, h.choose_spec.1⟩
theorem RpL.app : ∀ {ds es : List PyData} {xs ys : List V}, RpL K H ds xs → RpL K H es ys → RpL K H (ds ++ es) (xs ++ ys)
  | [], es, xs, ys, h1, h2 => by
    unfold RpL at h1
    subst h1
    exact h2
  | d :: ds, es, xs, ys, h1, h2 => by
    unfold RpL at h1
    obtain ⟨v, r, rfl, a, b⟩ := h1
    show RpL K H (d :: (ds ++ es)) (v :: (r ++ ys))
    exact RpL.cons a (RpL.app b h2)
theorem RpL.take : ∀ (k : Nat) {ds : List PyData} {xs : List V}, RpL K H ds xs → RpL K H (ds.take k) (xs.take k)
  | 0, ds, xs, _ => by
    rw [List.take_zero, List.take_zero]
    exact RpL.nil
  | k + 1, [], xs, h => by
    unfold RpL at h
    subst h
    exact RpL.nil
  | k + 1, d :: ds, xs, h => by
    unfold RpL at h
    obtain ⟨v, r, rfl, a, b⟩ := h
    exact RpL.cons a (RpL.take k b)
theorem RpL.drop : ∀ (k : Nat) {ds : List PyData} {xs : List V}, RpL K H ds xs → RpL K H (ds.drop k) (xs.drop k)
  | 0, ds, xs, h => h
  | k + 1, [], xs, h => by
    unfold RpL at h
    subst h
    exact RpL.nil
  | k + 1, d :: ds, xs, h => by
    unfold RpL at h
    obtain ⟨v, r, rfl, a, b⟩ := h
    exact RpL.drop k b
theorem inV_int {k : Int} : ∀ ns : List Int, inV (.int k) (ns.map V.int) = decide (k ∈ ns)
  | [] => by simp [inV]
  | n :: ns => by
    have h := inV_int (k := k) ns
    unfold inV at h ⊢
    rw [List.map_cons, List.any_cons, h]
    show ((n == k) || _) = _
    by_cases e : n = k
    · simp [e]
    · have e2 : ¬ k = n := fun z => e z.symm
      simp [e, e2]
theorem flat_ints (ns : List Int) : (ns.map V.int).all flatV = true := by
  rw [List.all_eq_true]
  intro x hx
  obtain ⟨n, _, rfl⟩ := List.mem_map.mp hx
  rfl
theorem set_wipe {σ : L2.St} {i : Nat} {x : Option V} : (wipe σ [i]).set i x = σ.set i x := by
  show (σ.set i none).set i x = _
  rw [List.set_set]
theorem wipe_set {σ : L2.St} {i : Nat} {x : Option V} : wipe (σ.set i x) [i] = wipe σ [i] := by
  show (σ.set i x).set i none = σ.set i none
  rw [List.set_set]
/-- [x for x in xs if test] -/
theorem filt_lc {β : Type} {enc : β → PyData} {tt : TT} {i : Nat} {σ : L2.St} {H2 : Hp} {S D : Addr} {xs : List V} {L : List β} {Qd : Hp → Prop} (p : β → Bool) (hS : H2 S = some (.lst xs)) (hr : RpL K H2 (L.map enc) xs) (hD : H2 D = none) (hσ : i < σ.length) (hl : L.length ≤ 1000000)
    (htt : ∀ (b : β) (x : V) (H' : Hp) (Q : Bool → Hp → Prop), b ∈ L → Rp K H' (enc b) x → Same H2 H' → Q (p b) H' → tt (σ.set i (some x)) H' Q)
    (hd : ∀ (H' : Hp) (ys : List V), Same H2 H' → H' D = some (.lst ys) → RpL K H' ((L.filter p).map enc) ys → Qd H') :
    ∃ W : Nat → Nat → Hp → Prop, (∃ m, W 0 m (upd H2 D (.lst []))) ∧ ∀ j m H, W j m H →
      ((Itl K S).stop j H ∧ Qd H) ∨ ((Itl K S).go j H ∧ ∃ Nx : Hp → Prop, (∀ H', Nx H' → ∃ m', m' < m ∧ W (j + 1) m' H') ∧ ∀ x H', (Itl K S).yld j H x H' → gName i x (wipe σ [i]) H' fun σ2 H2 => wipe σ2 [i] = wipe σ [i] ∧ tt σ2 H2 fun b H3 =>
        if b = true then tVar i σ2 H3 fun y H4 => ∃ acc, H4 D = some (.lst acc) ∧ acc.length < sizeLine ∧ Nx (upd H4 D (.lst (acc ++ [y]))) else Nx H3) := by
  refine lc_list (K := K) (a := S) (xs := xs) (fun j H => ∃ ys, Same H2 H ∧ H D = some (.lst ys) ∧ RpL K H (((L.take j).filter p).map enc) ys)
    ⟨[], (L2.Same.refl H2).new hD, upd_same, RpL.nil⟩ (fun j H _ ⟨ys, s, _, _⟩ => SqL.of (s _ _ hS)) ?_ ?_
  · rintro j x H3 hx ⟨ys, s3, hD3, hr3⟩
    have hlen := RpL.len _ _ hr
    have hj : j < L.length := by
      have q := (List.getElem?_eq_some_iff.mp hx).1
      rw [hlen, List.length_map] at q
      exact q
    obtain ⟨v, ev, rv⟩ := RpL.get _ _ hr j (enc L[j]) (by rw [List.getElem?_map, List.getElem?_eq_getElem hj]; rfl)
    have ex : v = x := Option.some.inj (ev.symm.trans hx)
    rw [ex] at rv
    have rx := Rp.tk (TK.of s3) _ _ rv
    show wipe ((wipe σ [i]).set i (some x)) [i] = wipe σ [i] ∧ _
    rw [set_wipe]
    refine ⟨wipe_set, ?_⟩
    have hly : ys.length < sizeLine := by
      have := RpL.len _ _ hr3
      rw [List.length_map] at this
      have h2 := List.length_filter_le p (L.take j)
      rw [List.length_take] at h2
      exact Nat.lt_of_le_of_lt (show ys.length ≤ 1000000 by omega) (by decide)
    refine htt L[j] x H3 _ (List.getElem_mem hj) rx s3 ?_
    have et : L.take (j + 1) = L.take j ++ [L[j]] := List.take_succ_eq_append_getElem hj
    cases e : p L[j] with
    | false =>
      refine iteF ⟨ys, s3, hD3, ?_⟩
      rw [et, List.filter_append, List.filter_cons, e]
      simpa using hr3
    | true =>
      refine iteT ⟨x, ?_, ys, hD3, hly, ys ++ [x], s3.wrn hD, upd_same, ?_⟩
      · rw [List.getElem?_set_self hσ]
      · have tE : TK H3 (upd H3 D (.lst (ys ++ [x]))) := (TK.refl _).wr hD3 rfl
        rw [et, List.filter_append, List.filter_cons, e, List.map_append]
        exact RpL.app (RpL.tk tE _ _ hr3) (RpL.cons (Rp.tk tE _ _ rx) RpL.nil)
  · rintro H3 ⟨ys, s3, hD3, hr3⟩
    have hlen := RpL.len _ _ hr
    rw [hlen, List.length_map, List.take_length] at hr3
    exact hd H3 ys s3 hD3 hr3
/-- [number of x for x in xs] -/
theorem mapI_lc {β : Type} {enc : β → PyData} {te : TE} {i : Nat} {σ : L2.St} {H2 : Hp} {S D : Addr} {xs : List V} {L : List β} {Qd : Hp → Prop} (f : β → Int) (hS : H2 S = some (.lst xs)) (hr : RpL K H2 (L.map enc) xs) (hD : H2 D = none) (hl : L.length ≤ 1000000)
    (hte : ∀ (b : β) (x : V) (H' : Hp) (Q : VK), b ∈ L → Rp K H' (enc b) x → Same H2 H' → Q (.int (f b)) H' → te (σ.set i (some x)) H' Q)
    (hd : ∀ (H' : Hp), Same H2 H' → H' D = some (.lst ((L.map f).map V.int)) → Qd H') :
    ∃ W : Nat → Nat → Hp → Prop, (∃ m, W 0 m (upd H2 D (.lst []))) ∧ ∀ j m H, W j m H →
      ((Itl K S).stop j H ∧ Qd H) ∨ ((Itl K S).go j H ∧ ∃ Nx : Hp → Prop, (∀ H', Nx H' → ∃ m', m' < m ∧ W (j + 1) m' H') ∧ ∀ x H', (Itl K S).yld j H x H' → gName i x (wipe σ [i]) H' fun σ2 H2 => wipe σ2 [i] = wipe σ [i] ∧ tYes σ2 H2 fun b H3 =>
        if b = true then te σ2 H3 fun y H4 => ∃ acc, H4 D = some (.lst acc) ∧ acc.length < sizeLine ∧ Nx (upd H4 D (.lst (acc ++ [y]))) else Nx H3) := by
  refine lc_list (K := K) (a := S) (xs := xs) (fun j H => Same H2 H ∧ H D = some (.lst (((L.take j).map f).map V.int)))
    ⟨(L2.Same.refl H2).new hD, upd_same⟩ (fun j H _ ⟨s, _⟩ => SqL.of (s _ _ hS)) ?_ ?_
  · rintro j x H3 hx ⟨s3, hD3⟩
    have hlen := RpL.len _ _ hr
    have hj : j < L.length := by
      have q := (List.getElem?_eq_some_iff.mp hx).1
      rw [hlen, List.length_map] at q
      exact q
    obtain ⟨v, ev, rv⟩ := RpL.get _ _ hr j (enc L[j]) (by rw [List.getElem?_map, List.getElem?_eq_getElem hj]; rfl)
    have ex : v = x := Option.some.inj (ev.symm.trans hx)
    rw [ex] at rv
    have rx := Rp.tk (TK.of s3) _ _ rv
    show wipe ((wipe σ [i]).set i (some x)) [i] = wipe σ [i] ∧ _
    rw [set_wipe]
    refine ⟨wipe_set, tYes_t (iteT ?_)⟩
    refine hte L[j] x H3 _ (List.getElem_mem hj) rx s3 ⟨_, hD3, ?_, s3.wrn hD, ?_⟩
    · rw [List.length_map, List.length_map, List.length_take]
      exact Nat.lt_of_le_of_lt (show min j L.length ≤ 1000000 by omega) (by decide)
    · rw [upd_same, List.take_succ_eq_append_getElem hj, List.map_append, List.map_append]
      rfl
  · rintro H3 ⟨s3, hD3⟩
    have hlen := RpL.len _ _ hr
    rw [hlen, List.length_map, List.take_length] at hD3
    exact hd H3 s3 hD3
end
section
variable {K : PySem.W.Frag} {H H' : Hp}
/-- [e for x in xs], each e data -/
theorem mapD_it {J : It} {G : Hp → Prop} {β : Type} {enc : β → PyData} {te : TE} {i : Nat} {σ : L2.St} {H2 : Hp} {D : Addr} {xs : List V} {L : List β} {Qd : Hp → Prop} (w : Walk J xs.length G (YAt xs)) (hG : ∀ H', Same H2 H' → G H') (g : β → PyData) (hr : RpL K H2 (L.map enc) xs) (hD : H2 D = none) (hl : L.length ≤ 1000000)
    (hte : ∀ (b : β) (x : V) (H' : Hp) (Q : VK), b ∈ L → Rp K H' (enc b) x → Same H2 H' → (∀ (H'' : Hp) (y : V), Same H' H'' → Rp K H'' (g b) y → Q y H'') → te (σ.set i (some x)) H' Q)
    (hd : ∀ (H' : Hp) (ys : List V), Same H2 H' → H' D = some (.lst ys) → RpL K H' (L.map g) ys → Qd H') :
    ∃ W : Nat → Nat → Hp → Prop, (∃ m, W 0 m (upd H2 D (.lst []))) ∧ ∀ j m H, W j m H →
      (J.stop j H ∧ Qd H) ∨ (J.go j H ∧ ∃ Nx : Hp → Prop, (∀ H', Nx H' → ∃ m', m' < m ∧ W (j + 1) m' H') ∧ ∀ x H', J.yld j H x H' → gName i x (wipe σ [i]) H' fun σ2 H2 => wipe σ2 [i] = wipe σ [i] ∧ tYes σ2 H2 fun b H3 =>
        if b = true then te σ2 H3 fun y H4 => ∃ acc, H4 D = some (.lst acc) ∧ acc.length < sizeLine ∧ Nx (upd H4 D (.lst (acc ++ [y]))) else Nx H3) := by
  refine lc_it w (fun j H => ∃ ys, Same H2 H ∧ H D = some (.lst ys) ∧ RpL K H ((L.take j).map g) ys)
    ⟨[], (L2.Same.refl H2).new hD, upd_same, RpL.nil⟩ (fun j H _ ⟨ys, s, _⟩ => hG H s) ?_ ?_
  · rintro j x H3 H3' hj ⟨ys, s3, hD3, hr3⟩ ⟨rfl, hx⟩
    have hlen := RpL.len _ _ hr
    rw [List.length_map] at hlen
    have hj : j < L.length := by omega
    obtain ⟨v, ev, rv⟩ := RpL.get _ _ hr j (enc L[j]) (by rw [List.getElem?_map, List.getElem?_eq_getElem hj]; rfl)
    have ex : v = x := Option.some.inj (ev.symm.trans hx)
    rw [ex] at rv
    have rx := Rp.tk (TK.of s3) _ _ rv
    show wipe ((wipe σ [i]).set i (some x)) [i] = wipe σ [i] ∧ _
    rw [set_wipe]
    refine ⟨wipe_set, tYes_t (iteT ?_)⟩
    refine hte L[j] x H3' _ (List.getElem_mem hj) rx s3 fun H4 y s4 ry => ⟨ys, s4 _ _ hD3, ?_, ys ++ [y], (s3.trans s4).wrn hD, upd_same, ?_⟩
    · have := RpL.len _ _ hr3
      rw [List.length_map, List.length_take] at this
      exact Nat.lt_of_le_of_lt (show ys.length ≤ 1000000 by omega) (by decide)
    · have tE : TK H4 (upd H4 D (.lst (ys ++ [y]))) := (TK.refl _).wr (s4 _ _ hD3) rfl
      rw [List.take_succ_eq_append_getElem hj, List.map_append]
      exact RpL.app (RpL.tk ((TK.of s4).trans tE) _ _ hr3) (RpL.cons (Rp.tk tE _ _ ry) RpL.nil)
  · rintro H3 ⟨ys, s3, hD3, hr3⟩
    have hlen := RpL.len _ _ hr
    rw [hlen, List.length_map, List.take_length] at hr3
    exact hd H3 ys s3 hD3 hr3
theorem RpL.ints : ∀ {ns : List Int} {ys : List V}, RpL K H (ns.map PyData.int) ys → ys = ns.map V.int
  | [], ys, h => by
    unfold List.map RpL at h
    exact h
  | n :: ns, ys, h => by
    rw [List.map_cons] at h
    unfold RpL at h
    obtain ⟨v, r, rfl, h1, h2⟩ := h
    unfold Rp at h1
    rw [RpL.ints h2, h1]
    rfl
theorem dp_ints : ∀ (ns : List Int), DpAll K H (ns.map V.int) (ns.map PyData.int)
  | [] => .nil
  | n :: ns => .cons (.int n) (dp_ints ns)
theorem LstAt.dict {α : Type} {enc : α → PyData} {a q : Addr} {ds : List PyData} {m : List (Int × α)} (h : LstAt K H a ds) (k : Kp [q] H H') (t : TK H H') (hq : DictAt enc K H q m) : LstAt K H' a ds := by
  obtain ⟨xs, h1, _⟩ := id h
  obtain ⟨kv, h2, _⟩ := hq
  exact h.kp k t (nin1 (ne_of h1 h2 (by intro z; cases z)))
theorem dep_ints (ns : List Int) : dep (.tuple (ns.map PyData.int)) ≤ 1 := by
  unfold dep
  have := deps_map_le (c := 0) (f := PyData.int) ns fun x _ => Nat.le_refl _
  omega
end
section
variable {K : PySem.W.Frag} {H H' : Hp}
/-- [e for i in range(..)], each e data -/
theorem mapR_it {J : It} {n : Nat} {fv : Nat → V} {te : TE} {i : Nat} {σ : L2.St} {H2 : Hp} {D : Addr} {Qd : Hp → Prop} (w : Walk J n (fun _ => True) (YFn fv)) (g : Nat → PyData) (hD : H2 D = none) (hl : n ≤ 1000000)
    (hte : ∀ (j : Nat) (H' : Hp) (Q : VK), j < n → Same H2 H' → (∀ (H'' : Hp) (y : V), Same H' H'' → Rp K H'' (g j) y → Q y H'') → te (σ.set i (some (fv j))) H' Q)
    (hd : ∀ (H' : Hp) (ys : List V), Same H2 H' → H' D = some (.lst ys) → RpL K H' ((List.range n).map g) ys → Qd H') :
    ∃ W : Nat → Nat → Hp → Prop, (∃ m, W 0 m (upd H2 D (.lst []))) ∧ ∀ j m H, W j m H →
      (J.stop j H ∧ Qd H) ∨ (J.go j H ∧ ∃ Nx : Hp → Prop, (∀ H', Nx H' → ∃ m', m' < m ∧ W (j + 1) m' H') ∧ ∀ x H', J.yld j H x H' → gName i x (wipe σ [i]) H' fun σ2 H2 => wipe σ2 [i] = wipe σ [i] ∧ tYes σ2 H2 fun b H3 =>
        if b = true then te σ2 H3 fun y H4 => ∃ acc, H4 D = some (.lst acc) ∧ acc.length < sizeLine ∧ Nx (upd H4 D (.lst (acc ++ [y]))) else Nx H3) := by
  refine lc_it w (fun j H => ∃ ys, Same H2 H ∧ H D = some (.lst ys) ∧ RpL K H ((List.range j).map g) ys)
    ⟨[], (L2.Same.refl H2).new hD, upd_same, RpL.nil⟩ (fun j H _ _ => trivial) ?_ ?_
  · rintro j x H3 H3' hj ⟨ys, s3, hD3, hr3⟩ ⟨rfl, rfl⟩
    show wipe ((wipe σ [i]).set i (some (fv j))) [i] = wipe σ [i] ∧ _
    rw [set_wipe]
    refine ⟨wipe_set, tYes_t (iteT ?_)⟩
    refine hte j H3' _ hj s3 fun H4 y s4 ry => ⟨ys, s4 _ _ hD3, ?_, ys ++ [y], (s3.trans s4).wrn hD, upd_same, ?_⟩
    · have := RpL.len _ _ hr3
      rw [List.length_map, List.length_range] at this
      exact Nat.lt_of_le_of_lt (show ys.length ≤ 1000000 by omega) (by decide)
    · have tE : TK H4 (upd H4 D (.lst (ys ++ [y]))) := (TK.refl _).wr (s4 _ _ hD3) rfl
      rw [List.range_succ, List.map_append]
      exact RpL.app (RpL.tk ((TK.of s4).trans tE) _ _ hr3) (RpL.cons (Rp.tk tE _ _ ry) RpL.nil)
  · rintro H3 ⟨ys, s3, hD3, hr3⟩
    exact hd H3 ys s3 hD3 hr3
end
end Wn

namespace Wn
open PySem L2
/-- a new tuple is appended to a list of data -/
theorem push_tup {K : PySem.W.Frag} {G : Hp} {t fa : Addr} {zs vs : List V} {U ds : List PyData} (hG : G fa = some (.lst zs)) (rG : RpL K G U zs) (nt : G t = none) (rv : RpL K G ds vs) :
    upd G t (.tup vs) fa = some (.lst zs) ∧ LstAt K (upd (upd G t (.tup vs)) fa (.lst (zs ++ [.ref t]))) fa (U ++ [.tuple ds]) ∧ TK G (upd (upd G t (.tup vs)) fa (.lst (zs ++ [.ref t]))) ∧ Kp [fa] G (upd (upd G t (.tup vs)) fa (.lst (zs ++ [.ref t]))) := by
  have s6 : Same G (upd G t (.tup vs)) := (L2.Same.refl _).new nt
  have rt : Rp K (upd G t (.tup vs)) (.tuple ds) (.ref t) := Rp.tup upd_same (RpL.tk (TK.of s6) _ _ rv)
  have tE : TK (upd G t (.tup vs)) (upd (upd G t (.tup vs)) fa (.lst (zs ++ [.ref t]))) := (TK.refl _).wr (s6 _ _ hG) rfl
  exact ⟨s6 _ _ hG, ⟨_, upd_same, RpL.tk tE _ _ (RpL.app (RpL.tk (TK.of s6) _ _ rG) (RpL.cons rt RpL.nil))⟩, (TK.of s6).trans tE, (Kp.of s6).wr (List.mem_singleton.mpr rfl)⟩
/-- a thing that stands is appended -/
theorem push_old {K : PySem.W.Frag} {G : Hp} {fa : Addr} {zs : List V} {v : V} {U : List PyData} {d : PyData} (hG : G fa = some (.lst zs)) (rG : RpL K G U zs) (rv : Rp K G d v) :
    LstAt K (upd G fa (.lst (zs ++ [v]))) fa (U ++ [d]) ∧ TK G (upd G fa (.lst (zs ++ [v]))) ∧ Kp [fa] G (upd G fa (.lst (zs ++ [v]))) := by
  have tE : TK G (upd G fa (.lst (zs ++ [v]))) := (TK.refl _).wr hG rfl
  exact ⟨⟨_, upd_same, RpL.tk tE _ _ (RpL.app rG (RpL.cons rv RpL.nil))⟩, tE, (Kp.refl _ _).wr (List.mem_singleton.mpr rfl)⟩
/-- flat data: the very values -/
theorem RpL.flat {β : Type} {K : PySem.W.Frag} {H : Hp} {f : β → PyData} {g : β → V} (h : ∀ b v, Rp K H (f b) v → v = g b) : ∀ {L : List β} {ys : List V}, RpL K H (L.map f) ys → ys = L.map g
  | [], ys, r => by
    rw [List.map_nil] at r
    unfold RpL at r
    exact r
  | b :: L, ys, r => by
    rw [List.map_cons] at r
    unfold RpL at r
    obtain ⟨v, t, rfl, h1, h2⟩ := r
    rw [h b v h1, RpL.flat h h2]
    rfl
theorem Rp.bool_eq {K : PySem.W.Frag} {H : Hp} {b : Bool} {v : V} (r : Rp K H (.bool b) v) : v = .bl b := by
  unfold Rp at r
  exact r
theorem Rp.str_eq {K : PySem.W.Frag} {H : Hp} {z : Str} {v : V} (r : Rp K H (.str z) v) : v = .str z := by
  unfold Rp at r
  exact r
theorem Rp.int_eq {K : PySem.W.Frag} {H : Hp} {i : Int} {v : V} (r : Rp K H (.int i) v) : v = .int i := by
  unfold Rp at r
  exact r
theorem Rp.bool {K : PySem.W.Frag} {H : Hp} {b : Bool} : Rp K H (.bool b) (.bl b) := by
  unfold Rp
  rfl
mutual
theorem Rp.dp {K : PySem.W.Frag} {H : Hp} : ∀ (d : PyData) (v : V), Rp K H d v → Dp K H v d
  | .none, _, h => by
    unfold Rp at h
    subst h
    exact .non
  | .bool b, _, h => by
    unfold Rp at h
    subst h
    exact .bl b
  | .int i, _, h => by
    unfold Rp at h
    subst h
    exact .int i
  | .str s, _, h => by
    unfold Rp at h
    subst h
    exact .str s
  | .tuple ds, v, h => by
    unfold Rp at h
    obtain ⟨a, xs, rfl, hs, hl⟩ := h
    exact .tup hs (RpL.dp ds xs hl)
  | .list _, _, h => by
    unfold Rp at h
    exact h.elim
  | .dict _, _, h => by
    unfold Rp at h
    exact h.elim
theorem RpL.dp {K : PySem.W.Frag} {H : Hp} : ∀ (ds : List PyData) (xs : List V), RpL K H ds xs → DpAll K H xs ds
  | [], xs, h => by
    unfold RpL at h
    subst h
    exact .nil
  | d :: ds, xs, h => by
    unfold RpL at h
    obtain ⟨v, r, rfl, h1, h2⟩ := h
    exact .cons (Rp.dp d v h1) (RpL.dp ds r h2)
end
end Wn

namespace Wn
open PySem L2
/-! ### backward steps over heaps: used by the macros of tools/auto.txt -/
section
variable {K : PySem.W.Frag} {H H' G : Hp} {a b : Addr} {o u : HO} {M : List Addr}
theorem g_same (s : Same H H') (h : H a = some o) : H' a = some o := s _ _ h
theorem g_kp (k : Kp M H H') (n : a ∉ M) (h : H a = some o) : H' a = some o := k _ _ n h
theorem g_tk {xs : List V} (t : TK H H') (h : H a = some (.tup xs)) : H' a = some (.tup xs) := t.1 _ _ h
theorem g_upd (n : b ≠ a) (h : H b = some u) : upd H a o b = some u := (upd_ne n).trans h
theorem n_same (s : Same H H') (h : H' a = none) : H a = none := by
  cases e : H a with
  | none => rfl
  | some o =>
    rw [s _ _ e] at h
    cases h
theorem n_kp (k : Kp M H H') (n : a ∉ M) (h : H' a = none) : H a = none := by
  cases e : H a with
  | none => rfl
  | some o =>
    rw [k _ _ n e] at h
    cases h
theorem n_upd (h : upd H a o b = none) : H b = none := by
  unfold upd at h
  split at h
  · cases h
  · exact h
theorem ne_fr (h : H b = none) (h' : H a = some o) : a ≠ b := ne_of_none h' h
theorem ne_fr' (h : H a = none) (h' : H b = some o) : a ≠ b := (ne_of_none h' h).symm
theorem ne_kd (h : H a = some o) (h' : H b = some u) (d : o ≠ u) : a ≠ b := ne_of h h' d
theorem ne_upd (h : upd H a o b = none) : b ≠ a := by
  intro e
  subst e
  rw [upd_same] at h
  cases h
theorem t_tk (b : TK G H') (a : TK H G) : TK H H' := a.trans b
theorem t_same (b : Same G H') (a : TK H G) : TK H H' := a.trans (TK.of b)
theorem t_new (hp : G a = none) (t : TK H G) : TK H (upd G a o) := t.new hp
theorem t_wr (hp : G a = some u) (hu : Wrt u = true) (t : TK H G) : TK H (upd G a o) := t.wr hp hu
theorem s_same (b : Same G H') (a : Same H G) : Same H H' := a.trans b
theorem s_new (hp : G a = none) (s : Same H G) : Same H (upd G a o) := s.new hp
theorem s_wrn (hp : H a = none) (s : Same H G) : Same H (upd G a o) := s.wrn hp
theorem k_kp (b : Kp M G H') (a : Kp M H G) : Kp M H H' := a.trans b
theorem k_kpm {M' : List Addr} (b : Kp M' G H') (h : ∀ x ∈ M', x ∈ M ∨ H x = none) (a : Kp M H G) : Kp M H H' := fun c o hc e => b c o (fun z => (h c z).elim hc fun n => by rw [n] at e; cases e) (a c o hc e)
theorem k_same (b : Same G H') (a : Kp M H G) : Kp M H H' := a.trans (Kp.of b)
theorem k_new (hp : G a = none) (s : Kp M H G) : Kp M H (upd G a o) := s.new hp
theorem k_wr (hp : a ∈ M) (s : Kp M H G) : Kp M H (upd G a o) := s.wr hp
theorem k_wrn (hp : H a = none) (s : Kp M H G) : Kp M H (upd G a o) := s.wrn hp
theorem am0 : ∀ x ∈ ([] : List Addr), x ∈ M ∨ H x = none := fun x h => by cases h
theorem am1 {N : List Addr} (h : a ∈ M ∨ H a = none) (r : ∀ x ∈ N, x ∈ M ∨ H x = none) : ∀ x ∈ a :: N, x ∈ M ∨ H x = none := fun x z => by
  rcases List.mem_cons.mp z with rfl | z
  · exact h
  · exact r x z
theorem Rp.tk' {d : PyData} {v : V} (h : Rp K H d v) (e : TK H H') : Rp K H' d v := Rp.tk e d v h
theorem RpL.tk' {ds : List PyData} {xs : List V} (h : RpL K H ds xs) (e : TK H H') : RpL K H' ds xs := RpL.tk e ds xs h
theorem nin0 : a ∉ ([] : List Addr) := fun z => by cases z
theorem ninc {N : List Addr} (h : a ≠ b) (r : a ∉ N) : a ∉ b :: N := fun z => by
  rcases List.mem_cons.mp z with z | z
  · exact h z
  · exact r z
/-! ### tests -/
theorem iteP {p : Prop} [Decidable p] {A B : Prop} (h1 : p → A) (h2 : ¬ p → B) : if decide p = true then A else B := by
  by_cases h : p
  · rw [if_pos (decide_eq_true h)]
    exact h1 h
  · rw [if_neg (by rw [decide_eq_false h]; exact Bool.false_ne_true)]
    exact h2 h
theorem iteNP {p : Prop} [Decidable p] {A B : Prop} (h1 : ¬ p → A) (h2 : p → B) : if (!decide p) = true then A else B := by
  by_cases h : p
  · rw [decide_eq_true h]
    exact h2 h
  · rw [decide_eq_false h]
    exact h1 h
theorem iteI {i j : Int} {A B : Prop} (h1 : i = j → A) (h2 : i ≠ j → B) : if decide (V.int i = V.int j) = true then A else B :=
  iteP (fun h => h1 (by injection h)) fun h => h2 fun z => h (by rw [z])
theorem iteNI {i j : Int} {A B : Prop} (h1 : i ≠ j → A) (h2 : i = j → B) : if (!decide (V.int i = V.int j)) = true then A else B :=
  iteNP (fun h => h1 fun z => h (by rw [z])) fun h => h2 (by injection h)
theorem iteS {i j : Str} {A B : Prop} (h1 : i = j → A) (h2 : i ≠ j → B) : if decide (V.str i = V.str j) = true then A else B :=
  iteP (fun h => h1 (by injection h)) fun h => h2 fun z => h (by rw [z])
theorem iteNS' {i j : Str} {A B : Prop} (h1 : i ≠ j → A) (h2 : i = j → B) : if (!decide (V.str i = V.str j)) = true then A else B :=
  iteNP (fun h => h1 fun z => h (by rw [z])) fun h => h2 (by injection h)
theorem iteB {b : Bool} {A B : Prop} (h1 : b = true → A) (h2 : b = false → B) : if b = true then A else B := by
  cases b with
  | true => exact h1 rfl
  | false => exact h2 rfl
theorem dV_int {i j : Int} : decide (V.int i = V.int j) = decide (i = j) := decide_eq_decide.mpr ⟨fun h => by injection h, fun h => by rw [h]⟩
theorem dV_str {i j : Str} : decide (V.str i = V.str j) = decide (i = j) := decide_eq_decide.mpr ⟨fun h => by injection h, fun h => by rw [h]⟩
/-- the item of a list at a number that was drawn -/
theorem at_of {xs : List V} {r : Int} (h0 : 0 ≤ r) (h1 : r < xs.length) : ∃ v, atI xs r = some v ∧ xs[r.toNat]? = some v := by
  have hj : r.toNat < xs.length := by omega
  have e : ((r.toNat : Nat) : Int) = r := by omega
  refine ⟨xs[r.toNat], ?_, List.getElem?_eq_getElem hj⟩
  have := atI_nat (xs := xs) (j := r.toNat) (v := xs[r.toNat]) (List.getElem?_eq_getElem hj)
  rw [e] at this
  exact this
end
end Wn
namespace Wn
open PySem L2
/-- a new thing: the heap behind it by a letter -/
theorem new_any {H : Hp} {p : Addr} {o : HO} (np : H p = none) : ∃ H', H' = upd H p o ∧ Same H H' ∧ H' p = some o := ⟨_, rfl, (L2.Same.refl _).new np, upd_same⟩
/-- a thing is written -/
theorem wr_any {H : Hp} {a : Addr} {o u : HO} (h : H a = some u) (hu : Wrt u = true) : ∃ H', H' = upd H a o ∧ Kp [a] H H' ∧ TK H H' ∧ H' a = some o := ⟨_, rfl, (Kp.refl _ _).wr (List.mem_singleton.mpr rfl), (TK.refl _).wr h hu, upd_same⟩
end Wn
namespace Wn
open PySem L2
/-- if a or b: the body once -/
theorem seq_or {c : TT} {t1 t2 u : TS} {D : Ends} {σ : L2.St} {H : Hp} (R : Hp → Prop) (body : ∀ H', R H' → t1 { D with nx := u D } σ H')
    (h1 : (∀ H', R H' → t1 { D with nx := u D } σ H') → c σ H fun b H1 => if b = true then t1 { D with nx := u D } σ H1 else t2 { D with nx := u D } σ H1) : tSeq (tIfS c t1 t2) u D σ H := h1 body
theorem new_tup {K : PySem.W.Frag} {H H' : Hp} {p : Addr} {vs : List V} {ds : List PyData} (np : H p = none) (e : upd H p (.tup vs) = H') (r : RpL K H ds vs) : Same H H' ∧ Rp K H' (.tuple ds) (.ref p) :=
  have s : Same H (upd H p (.tup vs)) := (L2.Same.refl _).new np
  e ▸ ⟨s, Rp.tup upd_same (RpL.tk (TK.of s) _ _ r)⟩
end Wn
namespace Wn
open PySem L2
/-! the same words under names that the macros' searches don't take -/
def SmB (H H' : Hp) : Prop := Same H H'
def TKB (H H' : Hp) : Prop := TK H H'
def KpB (M : List Addr) (H H' : Hp) : Prop := Kp M H H'
end Wn
namespace Wn
open PySem L2
theorem seq_set {te : TE} {g : TG} {u : TS} {D : Ends} {σ : L2.St} {H : Hp} (h : te σ H fun x H1 => g x σ H1 (u D)) : tSeq (tAsg te g) u D σ H := h
end Wn
namespace Wn
theorem iteYes {p : Prop} [Decidable p] {A B : Prop} (h : p) (a : A) : if decide p = true then A else B := by
  rw [if_pos (decide_eq_true h)]
  exact a
theorem iteNo {p : Prop} [Decidable p] {A B : Prop} (h : ¬ p) (b : B) : if decide p = true then A else B := by
  rw [if_neg (by rw [decide_eq_false h]; exact Bool.false_ne_true)]
  exact b
end Wn
namespace Wn
open PySem L2
theorem while_w {c : TT} {tb : TS} {D : Ends} {σ : L2.St} {H : Hp} (W : Nat → L2.St → Hp → Prop) (h0 : ∃ m, W m σ H)
    (hs : ∀ m σ H, W m σ H → c σ H fun b H1 => if b = true then ∃ N : L2.St → Hp → Prop, (∀ σ' H', N σ' H' → ∃ m', m' < m ∧ W m' σ' H') ∧ tb { D with nx := N, ct := N, bk := D.nx } σ H1 else D.nx σ H1) : tWhile c tb D σ H := ⟨W, h0, hs⟩
end Wn

namespace Wn
open PySem L2 PySem.Spec PyProof.Rows
/-! ### repr of data asks that no repr is under way: a promise of the law's own def, called as the claim calls it -/
section
variable {X : Cx} {K : PySem.W.Frag}
def rReprD (K : PySem.W.Frag) : List V → Hp → VK → Prop := fun xs H Q => ∃ (x : V) (d : PyData), xs = [x] ∧ Dp K H x d ∧ d.showable = true ∧ d.hasDict = false ∧ d.depth ≤ 60 ∧ d.shown.length ≤ sizeLine ∧ Q (.str d.shown) H
theorem call_reprD (hg : X.A.guards = some []) (hu : X.A.units + 64 < cLine) : CallR X (.builtin "repr") (rReprD X.K) := by
  intro pins s σ H xs us Q I r h
  obtain ⟨x, d, rfl, hd, hs, hno, hdep, hsz, q⟩ := h
  obtain ⟨u, rfl, rx⟩ := vals1 r
  have fin : ∀ (h' : Heap) (t tk : Tok), (∀ b o, s.heap.get? b = some o → h'.get? b = some o) → EP X pins σ Q (.str d.shown t) { s with heap := h', toks := tk } := fun h' t tk hk => ⟨.str d.shown, H, I.kept hk, ⟨t, rfl⟩, q⟩
  obtain ⟨as, rd⟩ := Dp.reads I d x u hd rx
  have same : ∀ b o, s.heap.get? b = some o → s.heap.get? b = some o := fun _ _ e => e
  cases rd with
  | none => exact PySem.P.repr_of_none (fin s.heap _ _ same)
  | bool b => exact PySem.P.repr_of_bool (fin s.heap _ _ same)
  | int i t =>
    have hi : i.natAbs.log2 < 1920 := by simpa [PyData.showable] using hs
    exact PySem.P.repr_of_int hi (fin s.heap _ _ same)
  | str x t => exact PySem.P.repr_of_str (fin s.heap _ _ same) (hsz := hsz)
  | list h1 h2 h3 h4 => exact repr_of_reads' (.list h1 h2 h3 h4) hs (fun z => by rw [hno] at z; cases z) hg (by omega) same (fun h' t tk hk => fin h' t tk hk) (hsz := hsz)
  | tuple h1 h2 h3 h4 => exact repr_of_reads' (.tuple h1 h2 h3 h4) hs (fun z => by rw [hno] at z; cases z) hg (by omega) same (fun h' t tk hk => fin h' t tk hk) (hsz := hsz)
  | dict h1 h2 h3 h4 h5 => cases hno
theorem reprDK (hK : X.K = K) (hg : X.A.guards = some []) (hu : X.A.units + 64 < cLine) : CallR X (.builtin "repr") (rReprD K) := hK ▸ call_reprD hg hu
end
/-- the promise of the law's def where the claim's caller calls it -/
def LawOk (P : Program) (w : World) (K : PySem.W.Frag) (mg : Str → Option Value) (base : Heap) (f : Addr) (fd : FuncData) (ps : List Str) (sp : Sp) : Prop :=
  ∀ (s : Shared) (H : Hp) (args : Args) (us : List Value) (vs : List V) (Q : VK), Env0 P w K mg base callerA [] s H → BindsTo s fd args (ps.zip us) → Vals vs us → sp vs H Q E0 →
    codeAny (model P w) callerA (.call (.ref f) args) (CR CX0 [] P w H s Q E0) s
section
variable {P : Program} {w : World} {K : PySem.W.Frag} {mg : Str → Option Value} {base : Heap}
theorem law_ok {x qual : Str} {st : Stmt} {f : Addr} {fd : FuncData} {N ps : List Str} {k : Nat} {sp : Sp} (F : Fun K x qual st f fd) (S : FnScope N ps (defScope st)) (len : ∀ vs H Q E, sp vs H Q E → vs.length = ps.length) (hr : Room (k + 1) callerA)
    (hbody : ∀ (cdv : Value) (A : Around) (s : Shared) (H : Hp) (vs : List V) (Q : VK), A = callerA → Room k (A.deeper (envOfC qual (defScope st) s.heap.objs.size f cdv)) → sp vs H Q E0 →
      ∃ t, PSs (cxOf CX0 P w K mg base N qual (defScope st) f cdv A [] s H E0).nox (defBody st) t ∧ t { nx := fun _ H' => Q .non H', rt := Q } (start N vs) H) : LawOk P w K mg base f fd ps sp := by
  obtain ⟨oc, od, kV, doc, pm, an, cdv, ct, osl, rfl, lk, hcd⟩ := F.ex
  intro s H args us vs Q e0 hb r hsp
  have hl := len _ _ _ _ hsp
  obtain ⟨t, ht, hq⟩ := hbody cdv callerA s H vs Q rfl (hr.deeper _) hsp
  have kin : K.In s.heap := e0.mod.kin.keeps fun b o e => (e0.bs b o e).1
  have nolim : s.heap.NoLimit := e0.mod.nolimit.keeps fun b o e => (e0.bs b o e).1
  have knd : ∀ y ∈ ps.zip us, (defScope st).names.lookup y.1 = some .local ∨ ((defScope st).names.lookup y.1 = some .cell ∧ ((cellsFrom (s.heap.objs.size + 1) (defScope st).names []).lookup y.1).isSome = true) := by
    rintro ⟨n, v⟩ hy
    refine (S.par n (List.of_mem_zip hy).1).imp id fun q => ⟨q, PySem.W.cellsFrom_some _ _ _ (.inl q)⟩
  refine codeAny_call_function hr.depth (kin _ _ lk) rfl S.co S.gen rfl (PySem.W.codeRec_of kin hcd) (hb _ _ _ _ (wpAny_newFunctionEnv_cells S.kind knd fun env he s1 x => ?_))
  subst he
  refine ⟨nolim.keeps x.toInCall.keep, codeAny_func ?_⟩
  have I := inv_start (CX := CX0) (E := E0) S hr.hd e0 hl r x
  refine wpAny_mono (ht.nox.run [] s1 (start N vs) H _ I hq) (fun fl s' hs => ?_) fun e s' hs => hs
  cases fl with
  | ret u =>
    obtain ⟨v, σ', H', J, rv, q⟩ := hs
    exact ⟨v, H', J.os, J.bare, J.base, J.hok, rv, q⟩
  | next =>
    obtain ⟨σ', H', J, q⟩ := hs
    exact ⟨.non, H', J.os, J.bare, J.base, J.hok, rfl, q⟩
  | brk => exact False.elim hs.choose_spec.choose_spec.2
  | cont => exact False.elim hs.choose_spec.choose_spec.2
/-- the law's call, by such a promise: only the script is tracked, as it is -/
theorem law_callG {mb : Str → Option Value} {fa a : Addr} {fd : FuncData} {x : Str} {sp : Sp} {s₁ : Shared} {vs : List Value} {ns : List Int}
    (KX : K.In s₁.heap) (hns : s₁.heap.Ns mainGlobals mg) (hb : s₁.heap.Ns builtinsNs mb) (hbb : ∀ x : Str, x ≠ "__name__" → mb x = bootBuiltins x) (hlim : s₁.heap.NoLimit) (hg : s₁.gens = #[])
    (ha : s₁.heap.get? a = some { cls := .type "list", data := .seq vs.toArray }) (hi : IntsAre vs ns) (hl : ns.length ≤ sizeLine)
    (F : ∀ base : Heap, K.In base → base.Ns mainGlobals mg → LawOk P w K mg base fa fd [x] sp) (hbind : ∀ (s : Shared) (u : Value), BindsTo s fd ⟨[u], []⟩ [(x, u)])
    (hsp : ∀ H : Hp, SqL K H a (ns.map V.int) → sp [.ref a] H (fun v _ => v = .bl true) E0) :
    codeAny (model P w) callerA (.call (.ref fa) ⟨[.ref a], []⟩) (fun r s' => r = .ok (.ret (.bool true)) ∧ OldK s₁.heap s'.heap ∧ s'.os = s₁.os ∧ AllBare s'.gens) s₁ := by
  have rv : Vals (ns.map V.int) vs := vals_ints hi
  have hlen := hi.length
  obtain ⟨H, hS, hok, hT⟩ : ∃ H : Hp, SqL K H a (ns.map V.int) ∧ HOk P w H s₁.heap ∧ ∀ b u, H b = some u → b = a ∧ K.lookup a = none ∧ u = .frz { cls := .type "list", data := .seq vs.toArray } (.lst (ns.map V.int)) := by
    cases hk : K.lookup a with
    | some o =>
      have e := KX a o hk
      rw [ha] at e
      cases e
      exact ⟨fun _ => none, .inr ⟨_, vs.toArray, _, hk, rfl, rfl, rfl, by rw [List.size_toArray, hlen]; exact hl, by simpa using rv⟩, (fun b u z => by have z' : (none : Option HO) = some u := z; cases z'), (fun b u z => by have z' : (none : Option HO) = some u := z; cases z')⟩
    | none =>
      refine ⟨upd (fun _ => none) a (.frz { cls := .type "list", data := .seq vs.toArray } (.lst (ns.map V.int))), .inl (.inr ⟨_, upd_same⟩), fun b u z => ?_, fun b u z => ?_⟩
      · by_cases e : b = a
        · subst e
          rw [upd_same] at z
          cases z
          exact ⟨ha, by rw [List.length_map]; exact hl, vs, _, rv, ha⟩
        · rw [upd_ne e] at z
          cases z
      · by_cases e : b = a
        · subst e
          rw [upd_same] at z
          exact ⟨rfl, rfl, (Option.some.inj z).symm⟩
        · rw [upd_ne e] at z
          cases z
  have free : ∀ {b : Addr} {o : Obj} {es : Array DictEntry} {ep : Nat}, s₁.heap.get? b = some o → o.data = .dict es ep → H b = none := fun {b o es ep} e d => by
    cases q : H b with
    | none => rfl
    | some u =>
      obtain ⟨rfl, _, _⟩ := hT b u q
      rw [ha] at e
      cases e
      exact nomatch (show Data.seq vs.toArray _ = Data.dict es ep from d)
  have ns' : ∀ {b : Addr} {m : Str → Option Value}, s₁.heap.Ns b m → (hidT s₁.heap H).Ns b m := fun {b m} ⟨o, es, ep, e, d, r⟩ => ⟨o, es, ep, hidT_get e (free e d), d, r⟩
  have kin : K.In (hidT s₁.heap H) := fun b o e => hidT_get (KX b o e) (by
    cases q : H b with
    | none => rfl
    | some u =>
      obtain ⟨rfl, z, _⟩ := hT b u q
      rw [z] at e
      cases e)
  obtain ⟨mc, c1, c2⟩ := hlim
  have e0 : Env0 P w K mg (hidT s₁.heap H) callerA [] s₁ H := ⟨rfl, ⟨kin, ns' hns, ⟨mb, ns' hb, hbb⟩, ⟨mc, ns' c1, c2⟩⟩, fun b o e => of_hidT e, Nat.le_of_eq (hidT_size _ _), trivial, fun b hb => absurd hb (List.not_mem_nil), hok, .of_eq hg⟩
  refine codeAny_mono (F _ kin (ns' hns) s₁ H ⟨[.ref a], []⟩ [.ref a] [.ref a] _ e0 (hbind s₁ (.ref a)) (.cons rfl .nil) (hsp H hS)) fun r s' h => ?_
  rcases r with e | fl
  · exact h.elim
  · cases fl with
    | next => exact h.elim
    | brk => exact h.elim
    | cont => exact h.elim
    | ret u =>
      obtain ⟨v, H', os, bare, un, hok', r', rfl⟩ := h
      obtain rfl : u = Value.bool true := r'
      refine ⟨rfl, OldK.of_keep fun b o e => ?_, os, bare⟩
      cases q : H b with
      | none => exact un.keep b o e q (fun z => absurd z (List.not_mem_nil)) (List.not_mem_nil)
      | some u =>
        obtain ⟨rfl, _, rfl⟩ := hT b u q
        have z := (hok' _ _ (un.frzs _ _ _ q)).1
        rw [ha] at e
        cases e
        exact z
end
theorem walkG {l : PySem.W.OpenLaw} {n : Nat} {q : Program} {loose : List Str} {XP : (Str → Option Value) → Heap → Prop} {YP : World → Heap → Prop} {d : DefRec} {K : Params → PySem.W.Frag} {sp : World → Sp} {x : Str}
    (hn : l.most = some n) (hn2 : n ≤ sizeLine) (hdf : d.params.defaults = []) (hY : ∀ (w : World) (h : Heap), YP w h → (K w.params).In h)
    (F : ∀ (w : World) (mg : Str → Option Value) (fa : Addr) (h : Heap), (K w.params).In h → h.Ns mainGlobals mg → mg d.name = some (.ref fa) →
      ∃ fd : FuncData, (∀ (s : Shared) (u : Value), BindsTo s fd ⟨[u], []⟩ [(x, u)]) ∧ ∀ base : Heap, (K w.params).In base → base.Ns mainGlobals mg → LawOk l.prog w (K w.params) mg base fa fd [x] (sp w))
    (hsp : ∀ (w : World) (H : Hp) (a : Addr) (ns : List Int), ns.length ≤ n → SqL (K w.params) H a (ns.map V.int) → sp w [.ref a] H (fun v _ => v = .bl true) E0) :
    PySem.W.WalkO q loose XP YP l.row.toRowW d [] (fun f vs => PySem.call f vs) := by
  refine Att.attach_call hn hdf fun w s₀ s₁ mg mb fa o pm cd doc a vs ns G Y ho hd hcd hmg hobj hints hlen hg => ?_
  obtain ⟨fd, hb, hF⟩ := F w mg fa _ (hY w _ Y) G.T.g hmg
  exact law_callG (hY w _ Y) G.T.g G.T.b G.T.builtins G.T.nolimit hg hobj hints (Nat.le_trans hlen hn2) hF hb fun H hS => hsp w H a ns hlen hS
end Wn

namespace Wn
open PySem L2 PySem.Spec PyProof.Rows
/-! ### things of any kind: data with lists, and the empty dict -/
theorem SqL.sm' {K : PySem.W.Frag} {H H' : Hp} {a : Addr} {xs : List V} (h : SqL K H a xs) (e : Same H H') : SqL K H' a xs := by
  rcases h with (h | ⟨o, h⟩) | h
  · exact .inl (.inl (e _ _ h))
  · exact .inl (.inr ⟨o, e _ _ h⟩)
  · exact .inr h
mutual
theorem Dp.sm {K : PySem.W.Frag} {H H' : Hp} (e : Same H H') : ∀ {v : V} {d : PyData}, Dp K H v d → Dp K H' v d
  | _, _, .non => .non
  | _, _, .bl b => .bl b
  | _, _, .int i => .int i
  | _, _, .str x => .str x
  | _, _, .lst h1 h2 => .lst (SqL.sm' h1 e) (DpAll.sm e h2)
  | _, _, .tup h1 h2 => .tup (SqT.tk h1 (TK.of e)) (DpAll.sm e h2)
theorem DpAll.sm {K : PySem.W.Frag} {H H' : Hp} (e : Same H H') : ∀ {vs : List V} {ds : List PyData}, DpAll K H vs ds → DpAll K H' vs ds
  | _, _, .nil => .nil
  | _, _, .cons h1 h2 => .cons (Dp.sm e h1) (DpAll.sm e h2)
end
theorem DpAll.len {K : PySem.W.Frag} {H : Hp} : ∀ {vs : List V} {ds : List PyData}, DpAll K H vs ds → vs.length = ds.length
  | _, _, .nil => rfl
  | _, _, .cons _ h => by rw [List.length_cons, List.length_cons, DpAll.len h]
theorem DpAll.get {K : PySem.W.Frag} {H : Hp} : ∀ {vs : List V} {ds : List PyData}, DpAll K H vs ds → ∀ {i : Nat} {v : V}, vs[i]? = some v → ∃ d, ds[i]? = some d ∧ Dp K H v d
  | _, _, .cons h1 h2, 0, v, e => by
    have : _ = v := Option.some.inj e
    subst this
    exact ⟨_, rfl, h1⟩
  | _, _, .cons h1 h2, i + 1, v, e => DpAll.get h2 (i := i) (by simpa using e)
/-- the name of a thing's type -/
def tyN : PyData → String
  | .none => "NoneType"
  | .bool _ => "bool"
  | .int _ => "int"
  | .str _ => "str"
  | .list _ => "list"
  | .tuple _ => "tuple"
  | .dict _ => "dict"
theorem Dp.ty {K : PySem.W.Frag} {H : Hp} {v : V} {d : PyData} (h : Dp K H v d) : TyX K H v (.type (tyN d)) := by
  cases h with
  | non => exact .base .non
  | bl b => exact .base (.bl b)
  | int i => exact .base (.int i)
  | str x => exact .base (.str x)
  | lst h1 h2 =>
    rcases h1 with (h | ⟨o, h⟩) | ⟨o, its, n, h, c, _⟩
    · exact .base (.lst h)
    · exact .base (.frz h)
    · exact .kList h c
  | tup h1 h2 => exact ty_tup h1
def AnyAt (K : PySem.W.Frag) (H : Hp) (v : V) (d : PyData) : Prop := Dp K H v d ∨ (d = .dict [] ∧ ∃ a, v = .ref a ∧ H a = some (.dK []))
theorem AnyAt.sm {K : PySem.W.Frag} {H H' : Hp} {v : V} {d : PyData} (h : AnyAt K H v d) (e : Same H H') : AnyAt K H' v d := by
  rcases h with h | ⟨rfl, a, rfl, h⟩
  · exact .inl (Dp.sm e h)
  · exact .inr ⟨rfl, a, rfl, e _ _ h⟩
theorem AnyAt.ty {K : PySem.W.Frag} {H : Hp} {v : V} {d : PyData} (h : AnyAt K H v d) : TyX K H v (.type (tyN d)) := by
  rcases h with h | ⟨rfl, a, rfl, h⟩
  · exact Wn.Dp.ty h
  · exact .base (.dK h)
abbrev tyNames : List String := ["NoneType", "bool", "int", "str", "list", "tuple", "dict"]
theorem tyN_mem (d : PyData) : tyN d ∈ tyNames := by
  cases d <;> simp [tyN, tyNames]
theorem kitB_tuple : ∀ t ∈ tyNames, kitB t "tuple" = some (decide (t = "tuple")) := by decide +kernel
theorem kitB_str : ∀ t ∈ tyNames, kitB t "str" = some (decide (t = "str")) := by decide +kernel
theorem kitB_list : ∀ t ∈ tyNames, kitB t "list" = some (decide (t = "list")) := by decide +kernel
theorem kitB_int : ∀ t ∈ tyNames, kitB t "int" = some (decide (t = "int" ∨ t = "bool")) := by decide +kernel
theorem kitB_bool : ∀ t ∈ tyNames, kitB t "bool" = some (decide (t = "bool")) := by decide +kernel
theorem kit_tuple {K : PySem.W.Frag} (d : PyData) : PySem.W.kitOne K (.type (tyN d)) (.type "tuple") = some (decide (tyN d = "tuple")) := kit_ty (kitB_tuple _ (tyN_mem d))
theorem kit_str {K : PySem.W.Frag} (d : PyData) : PySem.W.kitOne K (.type (tyN d)) (.type "str") = some (decide (tyN d = "str")) := kit_ty (kitB_str _ (tyN_mem d))
theorem kit_list {K : PySem.W.Frag} (d : PyData) : PySem.W.kitOne K (.type (tyN d)) (.type "list") = some (decide (tyN d = "list")) := kit_ty (kitB_list _ (tyN_mem d))
theorem kit_int {K : PySem.W.Frag} (d : PyData) : PySem.W.kitOne K (.type (tyN d)) (.type "int") = some (decide (tyN d = "int" ∨ tyN d = "bool")) := kit_ty (kitB_int _ (tyN_mem d))
theorem kit_bool {K : PySem.W.Frag} (d : PyData) : PySem.W.kitOne K (.type (tyN d)) (.type "bool") = some (decide (tyN d = "bool")) := kit_ty (kitB_bool _ (tyN_mem d))
section
variable {X : Cx} {K : PySem.W.Frag}
def rReprA (K : PySem.W.Frag) : List V → Hp → VK → Prop := fun xs H Q => ∃ (x : V) (d : PyData), xs = [x] ∧ AnyAt K H x d ∧ d.showable = true ∧ (d = .dict [] ∨ d.hasDict = false) ∧ d.depth ≤ 60 ∧ d.shown.length ≤ sizeLine ∧ Q (.str d.shown) H
theorem call_reprA (hg : X.A.guards = some []) (hu : X.A.units + 64 < cLine) : CallR X (.builtin "repr") (rReprA X.K) := by
  intro pins s σ H xs us Q I r h
  obtain ⟨x, d, rfl, hd, hs, hno, hdep, hsz, q⟩ := h
  rcases hd with hd | ⟨rfl, a, rfl, hd⟩
  · have hno : d.hasDict = false := by
      rcases hno with rfl | h
      · cases hd
      · exact h
    exact call_reprD hg hu pins s σ H _ us Q I r ⟨x, d, rfl, hd, hs, hno, hdep, hsz, q⟩
  · obtain ⟨u, rfl, rx⟩ := vals1 r
    cases rx
    obtain ⟨z, lo, vs, rel, o, es, ep, h1, h2, h3, _, h4, _⟩ := (show ObjOk X.prog X.w H s.heap a (.dK []) from I.hok a _ hd)
    cases rel
    have e0 : es.toList = [] := by
      generalize es.toList = l at h4
      cases h4
      rfl
    refine repr_of_reads' (.dict (kvs := []) (as := []) (bs := []) h1 h2.1 h3 (by rw [e0]; exact .nil) (by rw [e0]; exact .nil)) hs (fun _ => ?_) hg (by show X.A.units + 2 < cLine; omega) (fun _ _ e => e) (fun h' t tk hk => ⟨.str _, H, I.kept hk, ⟨t, rfl⟩, q⟩) (hsz := hsz)
    simp only [List.append_nil, List.mem_singleton]
    exact fun z => (beq_eq_false_iff_ne.mp lo) z.symm
theorem reprAK (hK : X.K = K) (hg : X.A.guards = some []) (hu : X.A.units + 64 < cLine) : CallR X (.builtin "repr") (rReprA K) := hK ▸ call_reprA hg hu
end
end Wn

namespace Wn
open PySem L2
/-! ### things of any kind and depth that the law made itself: lists, tuples, dicts of texts -/
mutual
inductive Dq (H : Hp) : V → PyData → Prop
  | non : Dq H .non .none
  | bl (b : Bool) : Dq H (.bl b) (.bool b)
  | int (i : Int) : Dq H (.int i) (.int i)
  | str (x : Str) : Dq H (.str x) (.str x)
  | lst {a : Addr} {xs : List V} {ds : List PyData} : H a = some (.lst xs) → DqAll H xs ds → Dq H (.ref a) (.list ds)
  | tup {a : Addr} {xs : List V} {ds : List PyData} : H a = some (.tup xs) → DqAll H xs ds → Dq H (.ref a) (.tuple ds)
  | dct {a : Addr} {kvs : List (Key × V)} {ds : List (PyData × PyData)} : H a = some (.dK kvs) → DqKV H kvs ds → Dq H (.ref a) (.dict ds)
inductive DqAll (H : Hp) : List V → List PyData → Prop
  | nil : DqAll H [] []
  | cons {v : V} {vs : List V} {d : PyData} {ds : List PyData} : Dq H v d → DqAll H vs ds → DqAll H (v :: vs) (d :: ds)
inductive DqKV (H : Hp) : List (Key × V) → List (PyData × PyData) → Prop
  | nil : DqKV H [] []
  | cons {k : Str} {v : V} {kvs : List (Key × V)} {d : PyData} {ds : List (PyData × PyData)} : Dq H v d → DqKV H kvs ds → DqKV H ((.inr k, v) :: kvs) ((.str k, d) :: ds)
end
mutual
theorem Dq.sm {H H' : Hp} (e : Same H H') : ∀ {v : V} {d : PyData}, Dq H v d → Dq H' v d
  | _, _, .non => .non
  | _, _, .bl b => .bl b
  | _, _, .int i => .int i
  | _, _, .str x => .str x
  | _, _, .lst h1 h2 => .lst (e _ _ h1) (DqAll.sm e h2)
  | _, _, .tup h1 h2 => .tup (e _ _ h1) (DqAll.sm e h2)
  | _, _, .dct h1 h2 => .dct (e _ _ h1) (DqKV.sm e h2)
theorem DqAll.sm {H H' : Hp} (e : Same H H') : ∀ {vs : List V} {ds : List PyData}, DqAll H vs ds → DqAll H' vs ds
  | _, _, .nil => .nil
  | _, _, .cons h1 h2 => .cons (Dq.sm e h1) (DqAll.sm e h2)
theorem DqKV.sm {H H' : Hp} (e : Same H H') : ∀ {vs : List (Key × V)} {ds : List (PyData × PyData)}, DqKV H vs ds → DqKV H' vs ds
  | _, _, .nil => .nil
  | _, _, .cons h1 h2 => .cons (Dq.sm e h1) (DqKV.sm e h2)
end
theorem DqAll.len {H : Hp} : ∀ {vs : List V} {ds : List PyData}, DqAll H vs ds → vs.length = ds.length
  | _, _, .nil => rfl
  | _, _, .cons _ h => by rw [List.length_cons, List.length_cons, DqAll.len h]
theorem DqAll.get {H : Hp} : ∀ {vs : List V} {ds : List PyData}, DqAll H vs ds → ∀ {i : Nat} {d : PyData}, ds[i]? = some d → ∃ v, vs[i]? = some v ∧ Dq H v d
  | _, _, .cons h1 h2, 0, d, e => by
    have : _ = d := Option.some.inj e
    subst this
    exact ⟨_, rfl, h1⟩
  | _, _, .cons h1 h2, i + 1, d, e => DqAll.get h2 (i := i) (by simpa using e)
theorem DqAll.getV {H : Hp} : ∀ {vs : List V} {ds : List PyData}, DqAll H vs ds → ∀ {i : Nat} {v : V}, vs[i]? = some v → ∃ d, ds[i]? = some d ∧ Dq H v d
  | _, _, .cons h1 h2, 0, d, e => by
    have : _ = d := Option.some.inj e
    subst this
    exact ⟨_, rfl, h1⟩
  | _, _, .cons h1 h2, i + 1, d, e => DqAll.getV h2 (i := i) (by simpa using e)
theorem DqAll.app {H : Hp} : ∀ {xs : List V} {ds : List PyData}, DqAll H xs ds → ∀ {ys : List V} {es : List PyData}, DqAll H ys es → DqAll H (xs ++ ys) (ds ++ es)
  | _, _, .nil, _, _, h => h
  | _, _, .cons h1 h2, _, _, h => .cons h1 (DqAll.app h2 h)
theorem DqAll.take {H : Hp} : ∀ (k : Nat) {xs : List V} {ds : List PyData}, DqAll H xs ds → DqAll H (xs.take k) (ds.take k)
  | 0, _, _, _ => by rw [List.take_zero, List.take_zero]; exact .nil
  | k + 1, _, _, .nil => .nil
  | k + 1, _, _, .cons h1 h2 => .cons h1 (DqAll.take k h2)
theorem DqAll.drop {H : Hp} : ∀ (k : Nat) {xs : List V} {ds : List PyData}, DqAll H xs ds → DqAll H (xs.drop k) (ds.drop k)
  | 0, _, _, h => h
  | k + 1, _, _, .nil => .nil
  | k + 1, _, _, .cons h1 h2 => DqAll.drop k h2
theorem Dq.ty {K : PySem.W.Frag} {H : Hp} {v : V} {d : PyData} (h : Dq H v d) : TyX K H v (.type (tyN d)) := by
  cases h with
  | non => exact .base .non
  | bl b => exact .base (.bl b)
  | int i => exact .base (.int i)
  | str x => exact .base (.str x)
  | lst h1 h2 => exact .base (.lst h1)
  | tup h1 h2 => exact .base (.tup h1)
  | dct h1 h2 => exact .base (.dK h1)
theorem Dq.inv_tup {H : Hp} {v : V} {ds : List PyData} (h : Dq H v (.tuple ds)) : ∃ a xs, v = .ref a ∧ H a = some (.tup xs) ∧ DqAll H xs ds := by
  cases h with
  | tup h1 h2 => exact ⟨_, _, rfl, h1, h2⟩
theorem Dq.inv_lst {H : Hp} {v : V} {ds : List PyData} (h : Dq H v (.list ds)) : ∃ a xs, v = .ref a ∧ H a = some (.lst xs) ∧ DqAll H xs ds := by
  cases h with
  | lst h1 h2 => exact ⟨_, _, rfl, h1, h2⟩
theorem Dq.inv_str {H : Hp} {v : V} {x : Str} (h : Dq H v (.str x)) : v = .str x := by cases h; rfl
theorem Dq.inv_int {H : Hp} {v : V} {x : Int} (h : Dq H v (.int x)) : v = .int x := by cases h; rfl
theorem Dq.inv_none {H : Hp} {v : V} (h : Dq H v .none) : v = .non := by cases h; rfl
theorem Dq.inv_bool {H : Hp} {v : V} {b : Bool} (h : Dq H v (.bool b)) : v = .bl b := by cases h; rfl
theorem DqAll.inv_cons {H : Hp} {vs : List V} {d : PyData} {ds : List PyData} (h : DqAll H vs (d :: ds)) : ∃ v r, vs = v :: r ∧ Dq H v d ∧ DqAll H r ds := by
  cases h with
  | cons h1 h2 => exact ⟨_, _, rfl, h1, h2⟩
theorem DqAll.inv_nil {H : Hp} {vs : List V} (h : DqAll H vs []) : vs = [] := by cases h; rfl
end Wn

namespace Wn
open PySem L2
section
variable {α : Type}
theorem lookA_cons {p : Int × α} {m : List (Int × α)} {k : Int} : lookA (p :: m) k = if p.1 = k then some p.2 else lookA m k := by
  unfold lookA
  rw [List.find?_cons]
  by_cases e : p.1 = k <;> simp [e]
theorem lookA_map (k j : Int) (x : α) : ∀ m : List (Int × α), lookA (m.map fun kv => if kv.1 = k then (kv.1, x) else kv) j = (lookA m j).map fun y => if j = k then x else y
  | [] => rfl
  | p :: m => by
    rw [List.map_cons, lookA_cons, lookA_cons, lookA_map k j x m]
    by_cases e : p.1 = k
    · by_cases f : p.1 = j
      · simp [e, f, show j = k by omega]
      · simp only [e, if_true]
        rw [if_neg (by omega), if_neg (by omega)]
    · by_cases f : p.1 = j
      · simp [e, f, show ¬ j = k by omega]
      · simp [e, f]
theorem lookA_snoc (k j : Int) (x : α) : ∀ m : List (Int × α), lookA (m ++ [(k, x)]) j = match lookA m j with | some y => some y | none => if k = j then some x else none
  | [] => by
    show lookA [(k, x)] j = _
    rw [lookA_cons]
    rfl
  | p :: m => by
    show lookA (p :: (m ++ [(k, x)])) j = _
    rw [lookA_cons, lookA_cons, lookA_snoc k j x m]
    by_cases e : p.1 = j <;> simp [e]
theorem any_lookA (k : Int) : ∀ m : List (Int × α), (m.any fun kv => decide (kv.1 = k)) = (lookA m k).isSome
  | [] => rfl
  | p :: m => by
    rw [List.any_cons, lookA_cons, any_lookA k m]
    by_cases e : p.1 = k <;> simp [e]
theorem lookA_put (m : List (Int × α)) (k j : Int) (x : α) : lookA (putA m k x) j = if j = k then some x else lookA m j := by
  unfold putA
  rw [any_lookA]
  cases e : lookA m k with
  | none =>
    rw [if_neg (by simp), lookA_snoc]
    by_cases f : j = k
    · subst f
      simp [e]
    · rw [if_neg f]
      cases lookA m j with
      | none => simp [show ¬ k = j by omega]
      | some y => rfl
  | some z =>
    rw [if_pos (by simp), lookA_map]
    by_cases f : j = k
    · subst f
      rw [e]
      simp
    · rw [if_neg f]
      cases lookA m j with
      | none => rfl
      | some y => simp [f]
theorem mem_keys {k : Int} {m : List (Int × α)} : k ∈ m.map (·.1) ↔ (lookA m k).isSome = true := by
  constructor
  · intro h
    obtain ⟨x, e, _⟩ := lookA_mem h
    rw [e]
    rfl
  · intro h
    rw [← any_lookA, List.any_eq_true] at h
    obtain ⟨p, hp, e⟩ := h
    rw [decide_eq_true_eq] at e
    exact List.mem_map.mpr ⟨p, hp, e⟩
theorem keys_put_in {m : List (Int × α)} {k : Int} {x : α} (h : (lookA m k).isSome = true) : (putA m k x).map (·.1) = m.map (·.1) := by
  unfold putA
  rw [any_lookA, if_pos h, List.map_map]
  refine List.map_congr_left fun p _ => ?_
  show (if p.1 = k then (p.1, x) else p).1 = p.1
  split <;> rfl
theorem keys_put_new {m : List (Int × α)} {k : Int} {x : α} (h : lookA m k = none) : (putA m k x).map (·.1) = m.map (·.1) ++ [k] := by
  unfold putA
  rw [any_lookA, if_neg (by rw [h]; simp), List.map_append]
  rfl
theorem nodup_put {m : List (Int × α)} {k : Int} {x : α} (h : (m.map (·.1)).Nodup) : ((putA m k x).map (·.1)).Nodup := by
  cases e : lookA m k with
  | none =>
    rw [keys_put_new e, List.nodup_append]
    refine ⟨h, by simp, fun a ha b hb => ?_⟩
    rw [List.mem_singleton] at hb
    subst hb
    intro z
    subst z
    rw [mem_keys, e] at ha
    cases ha
  | some y =>
    rw [keys_put_in (by rw [e]; rfl)]
    exact h
end
theorem eq_of_lt : ∀ (a b : List Int), a.Pairwise (· < ·) → b.Pairwise (· < ·) → (∀ x, x ∈ a ↔ x ∈ b) → a = b
  | [], [], _, _, _ => rfl
  | [], y :: b, _, _, h => by
    have := (h y).mpr List.mem_cons_self
    cases this
  | x :: a, [], _, _, h => by
    have := (h x).mp List.mem_cons_self
    cases this
  | x :: a, y :: b, ha, hb, h => by
    rw [List.pairwise_cons] at ha hb
    have e : x = y := by
      have h1 := (h x).mp List.mem_cons_self
      have h2 := (h y).mpr List.mem_cons_self
      rcases List.mem_cons.mp h1 with h1 | h1
      · exact h1
      · rcases List.mem_cons.mp h2 with h2 | h2
        · exact h2.symm
        · have := ha.1 _ h2
          have := hb.1 _ h1
          omega
    subst e
    congr 1
    refine eq_of_lt a b ha.2 hb.2 fun z => ?_
    constructor
    · intro hz
      have h1 := (h z).mp (List.mem_cons_of_mem _ hz)
      rcases List.mem_cons.mp h1 with h1 | h1
      · have := ha.1 _ hz
        omega
      · exact h1
    · intro hz
      have h1 := (h z).mpr (List.mem_cons_of_mem _ hz)
      rcases List.mem_cons.mp h1 with h1 | h1
      · have := hb.1 _ hz
        omega
      · exact h1
theorem lt_of_nodup : ∀ {a : List Int}, a.Pairwise (· ≤ ·) → a.Nodup → a.Pairwise (· < ·)
  | [], _, _ => List.Pairwise.nil
  | x :: a, h, n => by
    rw [List.pairwise_cons] at h
    rw [List.nodup_cons] at n
    rw [List.pairwise_cons]
    refine ⟨fun y hy => ?_, lt_of_nodup h.2 n.2⟩
    have h1 := h.1 y hy
    have h2 : x ≠ y := fun z => n.1 (z ▸ hy)
    omega
end Wn

namespace Wn
open PySem L2
/-! ### the judge of plain nets, plain -/
inductive JK where | lo | on | tu
deriving DecidableEq
def jkS : JK → Str
  | .lo => "loose"
  | .on => "once"
  | .tu => "row"
inductive Rw where
  | come (h : Int) (s : Str)
  | go (h : Int)
  | send (a n : Int) (aim : Option Int) (t : Str)
  | hear (h a n : Int) (t : Str)
  | lose (a n : Int)
def aimV : Option Int → V
  | none => .non
  | some i => .int i
def aimD : Option Int → PyData
  | none => .none
  | some i => .int i
def rwW : Rw → Str
  | .come .. => "come"
  | .go .. => "go"
  | .send .. => "send"
  | .hear .. => "hear"
  | .lose .. => "lose"
def rwP : Rw → List V
  | .come h s => [.int h, .str s]
  | .go h => [.int h]
  | .send a n aim t => [.int a, .int n, aimV aim, .str t]
  | .hear h a n t => [.int h, .int a, .int n, .str t]
  | .lose a n => [.int a, .int n]
def rwV (r : Rw) : List V := .str (rwW r) :: rwP r
def rwPD : Rw → List PyData
  | .come h s => [.int h, .str s]
  | .go h => [.int h]
  | .send a n aim t => [.int a, .int n, aimD aim, .str t]
  | .hear h a n t => [.int h, .int a, .int n, .str t]
  | .lose a n => [.int a, .int n]
def rwD (r : Rw) : PyData := .tuple (.str (rwW r) :: rwPD r)
def aimOk : Option Int → Prop
  | none => True
  | some i => 0 ≤ i
instance (o : Option Int) : Decidable (aimOk o) := by cases o <;> unfold aimOk <;> infer_instance
def Rw.ok : Rw → Prop
  | .come h s => 0 ≤ h ∧ (s = ("hand" : Str) ∨ s = ("alias" : Str))
  | .go h => 0 ≤ h
  | .send a n aim _ => 0 ≤ a ∧ 0 ≤ n ∧ aimOk aim
  | .hear h a n _ => 0 ≤ h ∧ 0 ≤ a ∧ 0 ≤ n
  | .lose a n => 0 ≤ a ∧ 0 ≤ n
structure Po where
  aim : Option Int
  words : Str
  due : List Int
  ears : List Int
  lost : Bool
structure Jd where
  here : List (Int × Str)
  posts : List ((Int × Int) × Po)
  newest : List (Int × Int)
  hts : List ((Int × Int) × Int)
def Jd.nil : Jd := ⟨[], [], [], []⟩
section
variable {α : Type}
/-- by pairs -/
def lookP (m : List ((Int × Int) × α)) (k : Int × Int) : Option α := (m.find? fun p => decide (p.1 = k)).map (·.2)
def putP (m : List ((Int × Int) × α)) (k : Int × Int) (v : α) : List ((Int × Int) × α) :=
  if (m.any fun kv => decide (kv.1 = k)) = true then m.map (fun kv => if kv.1 = k then (kv.1, v) else kv) else m ++ [(k, v)]
end
def Jd.due (J : Jd) (a : Int) : Option Int → List Int
  | none => (J.here.filter fun e => decide (e.2 = ("hand" : Str)) && decide (e.1 ≠ a)).map (·.1)
  | some h => (J.here.filter fun e => decide (e.1 = h)).map (·.1)
def earPut (es : List Int) (h : Int) : List Int := if h ∈ es then es else es ++ [h]
/-- whether a letter is for a hand -/
def Jd.isFor (J : Jd) (p : Po) (h a : Int) : Bool := match p.aim with
  | none => decide (h ≠ a) && decide (lookA J.here h = some ("hand" : Str))
  | some i => decide (i = h)
def Jd.turn (κ : JK) (J : Jd) (p : Po) (h : Int) (key : Int × Int) : Bool := match κ with
  | .lo => true
  | .on => decide (h ∉ p.ears)
  | .tu => decide ((lookP J.hts (h, key.1)).getD (-1) < key.2)
/-- a row; none where it isn't right -/
def Jd.row (κ : JK) (J : Jd) : Rw → Option Jd
  | .come h s => if lookA J.here h = none then some { J with here := putA J.here h s } else none
  | .go h => if lookA J.here h = none then none else some { J with here := dropA J.here h }
  | .send a n aim t => if lookA J.here a = none ∨ n ≤ (lookA J.newest a).getD (-1) then none
    else some { J with newest := putA J.newest a n, posts := putP J.posts (a, n) ⟨aim, t, J.due a aim, [], false⟩ }
  | .hear h a n t => match lookP J.posts (a, n) with
    | none => none
    | some p => if lookA J.here h = none then none else if p.words ≠ t then none else if J.isFor p h a = false then none else if J.turn κ p h (a, n) = false then none
      else some { J with hts := (match κ with | .tu => putP J.hts (h, a) n | _ => J.hts), posts := putP J.posts (a, n) { p with ears := earPut p.ears h } }
  | .lose a n => match lookP J.posts (a, n) with
    | none => none
    | some p => some { J with posts := putP J.posts (a, n) { p with lost := true } }
def Po.done (p : Po) : Bool := p.lost || p.due.all fun h => decide (h ∈ p.ears)
def Jd.endOk (J : Jd) (ws : List (Int × Int)) : Bool := (ws.all fun k => (lookP J.posts k).isSome) && J.posts.all fun e => decide (e.1 ∈ ws) || e.2.done
/-- the first wrong row -/
def judge (κ : JK) : Jd → List Rw → Nat → Nat ⊕ Jd
  | J, [], _ => .inr J
  | J, r :: rs, i => match J.row κ r with
    | none => .inl i
    | some J' => judge κ J' rs (i + 1)
/-- the same with rows of any kind: the forms are looked at -/
def firstWrong (κ : JK) (rs : List Rw) (ws : List (Int × Int)) : Option Nat := match judge κ Jd.nil rs 0 with
  | .inl i => some i
  | .inr J => if J.endOk ws then none else some rs.length
/-! ### lemmas -/
section
variable {α : Type}
theorem lookP_cons {p : (Int × Int) × α} {m : List ((Int × Int) × α)} {k : Int × Int} : lookP (p :: m) k = if p.1 = k then some p.2 else lookP m k := by
  unfold lookP
  rw [List.find?_cons]
  by_cases e : p.1 = k <;> simp [e]
theorem lookP_map (k j : Int × Int) (x : α) : ∀ m : List ((Int × Int) × α), lookP (m.map fun kv => if kv.1 = k then (kv.1, x) else kv) j = (lookP m j).map fun y => if j = k then x else y
  | [] => rfl
  | p :: m => by
    rw [List.map_cons, lookP_cons, lookP_cons, lookP_map k j x m]
    by_cases e : p.1 = k
    · by_cases f : p.1 = j
      · have : j = k := f ▸ e
        simp [e, this]
      · have : ¬ k = j := fun z => f (e.trans z)
        simp only [e, if_true]
        rw [if_neg this, if_neg this]
    · by_cases f : p.1 = j
      · have : ¬ j = k := fun z => e (f.trans z)
        rw [if_neg e, if_pos f, if_pos f, Option.map_some, if_neg this]
      · rw [if_neg e, if_neg f, if_neg f]
theorem lookP_snoc (k j : Int × Int) (x : α) : ∀ m : List ((Int × Int) × α), lookP (m ++ [(k, x)]) j = match lookP m j with | some y => some y | none => if k = j then some x else none
  | [] => by
    show lookP [(k, x)] j = _
    rw [lookP_cons]
    rfl
  | p :: m => by
    show lookP (p :: (m ++ [(k, x)])) j = _
    rw [lookP_cons, lookP_cons, lookP_snoc k j x m]
    by_cases e : p.1 = j <;> simp [e]
theorem any_lookP (k : Int × Int) : ∀ m : List ((Int × Int) × α), (m.any fun kv => decide (kv.1 = k)) = (lookP m k).isSome
  | [] => rfl
  | p :: m => by
    rw [List.any_cons, lookP_cons, any_lookP k m]
    by_cases e : p.1 = k <;> simp [e]
theorem lookP_put {m : List ((Int × Int) × α)} {k j : Int × Int} {x : α} : lookP (putP m k x) j = if j = k then some x else lookP m j := by
  unfold putP
  rw [any_lookP]
  cases e : lookP m k with
  | none =>
    rw [if_neg (by simp), lookP_snoc]
    by_cases f : j = k
    · subst f
      simp [e]
    · rw [if_neg f]
      cases lookP m j with
      | none => exact if_neg fun z => f z.symm
      | some y => rfl
  | some z =>
    rw [if_pos (by simp), lookP_map]
    by_cases f : j = k
    · subst f
      rw [e]
      simp
    · rw [if_neg f]
      cases lookP m j with
      | none => rfl
      | some y => simp [f]
theorem keysP_put {m : List ((Int × Int) × α)} {k : Int × Int} {v : α} : (putP m k v).map (·.1) = if k ∈ m.map (·.1) then m.map (·.1) else m.map (·.1) ++ [k] := by
  unfold putP
  by_cases h : (m.any fun kv => decide (kv.1 = k)) = true
  · have hk : k ∈ m.map (·.1) := by
      obtain ⟨e, he, e1⟩ := List.any_eq_true.mp h
      exact List.mem_map.mpr ⟨e, he, of_decide_eq_true e1⟩
    rw [if_pos h, if_pos hk, List.map_map]
    refine List.map_congr_left fun kv _ => ?_
    show (if kv.1 = k then (kv.1, v) else kv).1 = kv.1
    split <;> rfl
  · have hk : k ∉ m.map (·.1) := fun z => by
      obtain ⟨e, he, e1⟩ := List.mem_map.mp z
      exact h (List.any_eq_true.mpr ⟨e, he, decide_eq_true e1⟩)
    rw [if_neg h, if_neg hk, List.map_append]
    rfl
theorem lookP_none {m : List ((Int × Int) × α)} {k : Int × Int} : lookP m k = none ↔ k ∉ m.map (·.1) := by
  unfold lookP
  rw [Option.map_eq_none_iff, List.find?_eq_none]
  constructor
  · intro h z
    obtain ⟨e, he, e1⟩ := List.mem_map.mp z
    exact h e he (decide_eq_true e1)
  · intro h x hx z
    exact h (List.mem_map.mpr ⟨x, hx, of_decide_eq_true z⟩)
theorem lookP_mem {m : List ((Int × Int) × α)} {k : Int × Int} {v : α} (h : lookP m k = some v) : (k, v) ∈ m := by
  unfold lookP at h
  obtain ⟨e, he, e1⟩ := Option.map_eq_some_iff.mp h
  have h1 := List.find?_some he
  have h2 := List.mem_of_find?_eq_some he
  have : e = (k, v) := Prod.ext (of_decide_eq_true h1) e1
  exact this ▸ h2
theorem lookP_of_mem {m : List ((Int × Int) × α)} {k : Int × Int} {v : α} (nd : (m.map (·.1)).Nodup) (h : (k, v) ∈ m) : lookP m k = some v := by
  induction m with
  | nil => cases h
  | cons e m ih =>
    rw [List.map_cons, List.nodup_cons] at nd
    unfold lookP
    rcases List.mem_cons.mp h with rfl | h
    · rw [List.find?_cons_of_pos (by simp)]; rfl
    · have ne : e.1 ≠ k := fun z => nd.1 (z ▸ List.mem_map.mpr ⟨_, h, rfl⟩)
      rw [List.find?_cons_of_neg (by simp [ne])]
      exact ih nd.2 h
theorem putP_len (m : List ((Int × Int) × α)) (k : Int × Int) (v : α) : (putP m k v).length ≤ m.length + 1 := by
  unfold putP
  split
  · rw [List.length_map]; omega
  · rw [List.length_append]; exact Nat.le_refl _
theorem mem_putP {m : List ((Int × Int) × α)} {k : Int × Int} {v : α} {e : (Int × Int) × α} (h : e ∈ putP m k v) : e = (k, v) ∨ e ∈ m ∧ e.1 ≠ k := by
  unfold putP at h
  split at h
  · obtain ⟨q, hq, e1⟩ := List.mem_map.mp h
    by_cases z : q.1 = k
    · rw [if_pos z] at e1
      exact .inl (e1 ▸ Prod.ext z rfl)
    · rw [if_neg z] at e1
      exact .inr (e1 ▸ ⟨hq, z⟩)
  · rename_i hn
    rcases List.mem_append.mp h with h | h
    · exact .inr ⟨h, fun z => hn (List.any_eq_true.mpr ⟨e, h, decide_eq_true z⟩)⟩
    · exact .inl (List.mem_singleton.mp h)
theorem nodup_putP {m : List ((Int × Int) × α)} {k : Int × Int} {v : α} (nd : (m.map (·.1)).Nodup) : ((putP m k v).map (·.1)).Nodup := by
  rw [keysP_put]
  split
  · exact nd
  · rename_i h
    exact List.nodup_append.mpr ⟨nd, by simp, fun a ha b hb e => h (by rw [List.mem_singleton.mp hb] at e; exact e ▸ ha)⟩
end
end Wn

namespace Wn
open PySem L2
/-! ### the laws' own judge of plain nets (k61, k62, k64), as plain data -/
structure Sd where
  there : List (Int × Str)
  posts : List ((Int × Int) × (Option Int × Str × List Int))
  heard : List ((Int × Int) × List Int)
  lost : List ((Int × Int) × Bool)
  newest : List (Int × Int)
def Sd.nil : Sd := ⟨[], [], [], [], []⟩
def dueS (there : List (Int × Str)) (a : Int) : Option Int → List Int
  | none => (there.filter fun e => decide (e.2 = ("hand" : Str)) && decide (e.1 ≠ a)).map (·.1)
  | some h => (there.filter fun e => decide (e.1 = h)).map (·.1)
def forS (there : List (Int × Str)) (aim : Option Int) (h a : Int) : Bool := match aim with
  | none => decide (h ≠ a) && decide (lookA there h = some ("hand" : Str))
  | some i => decide (i = h)
def Sd.before (S : Sd) (h a : Int) : List Int := (lookP S.heard (h, a)).getD []
def lateS (κ : JK) (bs : List Int) (n : Int) : Bool := match κ with
  | .lo => false
  | .on => decide (n ∈ bs)
  | .tu => bs.any fun m => decide (n ≤ m)
def Sd.row (κ : JK) (S : Sd) : Rw → Bool × Sd
  | .come h s => if lookA S.there h = none then (true, { S with there := putA S.there h s }) else (false, S)
  | .go h => if lookA S.there h = none then (false, S) else (true, { S with there := dropA S.there h })
  | .send a n aim t => if lookA S.there a = none ∨ n ≤ (lookA S.newest a).getD (-1) then (false, S)
    else (true, { S with newest := putA S.newest a n, posts := putP S.posts (a, n) (aim, t, dueS S.there a aim) })
  | .hear h a n t => match lookP S.posts (a, n) with
    | none => (false, S)
    | some p => if lookA S.there h = none ∨ p.2.1 ≠ t ∨ forS S.there p.1 h a = false ∨ lateS κ (S.before h a) n = true then (false, S)
      else (true, { S with heard := putP S.heard (h, a) (S.before h a ++ [n]) })
  | .lose a n => ((lookP S.posts (a, n)).isSome, { S with lost := putP S.lost (a, n) true })
def Sd.missing (S : Sd) (e : (Int × Int) × (Option Int × Str × List Int)) : List Int := e.2.2.2.filter fun h => decide (e.1.2 ∉ S.before h e.1.1)
def Sd.endOk (S : Sd) (ws : List (Int × Int)) : Bool := (ws.all fun k => (lookP S.posts k).isSome) && S.posts.all fun e => decide (S.missing e = []) || (lookP S.lost e.1).isSome || decide (e.1 ∈ ws)
def judgeS (κ : JK) : Sd → List Rw → Nat → Nat ⊕ Sd
  | S, [], _ => .inr S
  | S, r :: rs, i => if (S.row κ r).1 = true then judgeS κ (S.row κ r).2 rs (i + 1) else .inl i
def firstS (κ : JK) (rs : List Rw) (ws : List (Int × Int)) : Option Nat := match judgeS κ Sd.nil rs 0 with
  | .inl i => some i
  | .inr S => if S.endOk ws then none else some rs.length
/-- what both know -/
def poS (p : Po) : Option Int × Str × List Int := (p.aim, p.words, p.due)
structure RelS (κ : JK) (S : Sd) (J : Jd) : Prop where
  here : S.there = J.here
  newest : S.newest = J.newest
  posts : S.posts = J.posts.map fun e => (e.1, poS e.2)
  key : ∀ k p, lookP J.posts k = some p → ∃ q, lookA J.newest k.1 = some q ∧ k.2 ≤ q
  nd : (J.posts.map (·.1)).Nodup
  ears : ∀ k p h, lookP J.posts k = some p → (h ∈ p.ears ↔ k.2 ∈ S.before h k.1)
  hd : ∀ h a n, n ∈ S.before h a → (lookP J.posts (a, n)).isSome = true
  lost : ∀ k p, lookP J.posts k = some p → p.lost = (lookP S.lost k).isSome
  ls : ∀ k, (lookP S.lost k).isSome = true → (lookP J.posts k).isSome = true
  hts : κ = .tu → ∀ h a n, 0 ≤ n → (n ≤ (lookP J.hts (h, a)).getD (-1) ↔ ∃ m ∈ S.before h a, n ≤ m)
section
variable {κ : JK} {S : Sd} {J : Jd}
theorem lookP_poS {k : Int × Int} : ∀ {m : List ((Int × Int) × Po)}, lookP (m.map fun e => (e.1, poS e.2)) k = (lookP m k).map poS
  | [] => rfl
  | e :: m => by
    rw [List.map_cons, lookP_cons, lookP_cons, lookP_poS (m := m)]
    split <;> rfl
theorem putP_poS {k : Int × Int} {p : Po} {m : List ((Int × Int) × Po)} : (putP m k p).map (fun e => (e.1, poS e.2)) = putP (m.map fun e => (e.1, poS e.2)) k (poS p) := by
  unfold putP
  rw [List.any_map]
  by_cases h : (m.any fun kv => decide (kv.1 = k)) = true
  · rw [if_pos h, if_pos (show (m.any ((fun kv => decide (kv.1 = k)) ∘ fun e => (e.1, poS e.2))) = true from h), List.map_map, List.map_map]
    refine List.map_congr_left fun e _ => ?_
    show ((if e.1 = k then (e.1, p) else e).1, poS (if e.1 = k then (e.1, p) else e).2) = if e.1 = k then (e.1, poS p) else (e.1, poS e.2)
    split <;> rfl
  · rw [if_neg h, if_neg (show ¬ (m.any ((fun kv => decide (kv.1 = k)) ∘ fun e => (e.1, poS e.2))) = true from h), List.map_append]
    rfl
theorem putP_same {α : Type} {k : Int × Int} {p : α} {m : List ((Int × Int) × α)} (nd : (m.map (·.1)).Nodup) (h : lookP m k = some p) : putP m k p = m := by
  unfold putP
  rw [if_pos (by rw [any_lookP, h]; rfl)]
  conv => rhs; rw [← List.map_id m]
  refine List.map_congr_left fun e he => ?_
  by_cases c : e.1 = k
  · rw [if_pos c]
    have := lookP_of_mem nd (k := e.1) (v := e.2) he
    rw [c, h] at this
    injection this with this
    rw [this]
    rfl
  · rw [if_neg c]; rfl
theorem RelS.nil : RelS κ Sd.nil Jd.nil := ⟨rfl, rfl, rfl, (fun k p e => by cases e), List.nodup_nil, (fun k p h e => by cases e), (fun h a n e => by cases e), (fun k p e => by cases e), (fun k e => by cases e), fun _ h a n h0 => ⟨fun e => by (have : n ≤ -1 := e); omega, fun ⟨m, e, _⟩ => by cases e⟩⟩
theorem RelS.look (R : RelS κ S J) (k : Int × Int) : lookP S.posts k = (lookP J.posts k).map poS := by rw [R.posts, lookP_poS]
theorem before_put {hd : List ((Int × Int) × List Int)} {h a z b : Int} {xs : List Int} : ((lookP (putP hd (h, a) xs) (z, b)).getD []) = if z = h ∧ b = a then xs else (lookP hd (z, b)).getD [] := by
  rw [lookP_put]
  by_cases c : (z, b) = (h, a)
  · rw [if_pos c, if_pos ⟨congrArg Prod.fst c, congrArg Prod.snd c⟩]
    rfl
  · rw [if_neg c, if_neg (fun q => c (Prod.ext q.1 q.2))]
theorem RelS.late (R : RelS κ S J) {h a n : Int} (n0 : 0 ≤ n) {p : Po} (hp : lookP J.posts (a, n) = some p) : lateS κ (S.before h a) n = !J.turn κ p h (a, n) := by
  cases κ with
  | lo => rfl
  | on =>
    show decide (n ∈ S.before h a) = !decide (h ∉ p.ears)
    have e := R.ears (a, n) p h hp
    by_cases c : h ∈ p.ears
    · rw [decide_eq_true (e.mp c), decide_eq_false (fun z => z c)]; rfl
    · rw [decide_eq_false (fun z => c (e.mpr z)), decide_eq_true c]; rfl
  | tu =>
    show ((S.before h a).any fun m => decide (n ≤ m)) = !decide ((lookP J.hts (h, a)).getD (-1) < n)
    have e := R.hts rfl h a n n0
    by_cases c : n ≤ (lookP J.hts (h, a)).getD (-1)
    · obtain ⟨m, hm, le⟩ := e.mp c
      rw [List.any_eq_true.mpr ⟨m, hm, decide_eq_true le⟩, decide_eq_false (by omega)]; rfl
    · rw [List.any_eq_false.mpr fun m hm => by
        rw [decide_eq_true_eq]
        exact fun le => c (e.mpr ⟨m, hm, le⟩), decide_eq_true (by omega)]; rfl
theorem RelS.row (R : RelS κ S J) {r : Rw} (ok : r.ok) : match J.row κ r with
    | none => (S.row κ r).1 = false
    | some J' => (S.row κ r).1 = true ∧ RelS κ (S.row κ r).2 J' := by
  cases r with
  | come h s =>
    unfold Jd.row Sd.row
    dsimp only
    rw [R.here]
    by_cases c : lookA J.here h = none
    · rw [if_pos c, if_pos c]
      exact ⟨rfl, rfl, R.newest, R.posts, R.key, R.nd, R.ears, R.hd, R.lost, R.ls, R.hts⟩
    · rw [if_neg c, if_neg c]
  | go h =>
    unfold Jd.row Sd.row
    dsimp only
    rw [R.here]
    by_cases c : lookA J.here h = none
    · rw [if_pos c, if_pos c]
    · rw [if_neg c, if_neg c]
      exact ⟨rfl, rfl, R.newest, R.posts, R.key, R.nd, R.ears, R.hd, R.lost, R.ls, R.hts⟩
  | send a n aim t =>
    unfold Jd.row Sd.row
    dsimp only
    rw [R.here, R.newest]
    by_cases c : lookA J.here a = none ∨ n ≤ (lookA J.newest a).getD (-1)
    · rw [if_pos c, if_pos c]
    · rw [if_neg c, if_neg c]
      have hno : lookP J.posts (a, n) = none := by
        cases e : lookP J.posts (a, n) with
        | none => rfl
        | some p =>
          obtain ⟨q, hq, le⟩ := R.key _ _ e
          dsimp only at hq le
          refine absurd (.inr ?_) c
          rw [hq]
          exact le
      have nb : ∀ h, n ∉ S.before h a := fun h z => by
        have := R.hd h a n z
        rw [hno] at this
        cases this
      refine ⟨rfl, rfl, rfl, ?_, fun k p e => ?_, nodup_putP R.nd, fun k p h e => ?_, fun h b m hm => ?_, fun k p e => ?_, fun k hk => ?_, R.hts⟩
      · show putP S.posts (a, n) (aim, t, dueS J.here a aim) = _
        rw [R.posts, putP_poS]
        cases aim <;> rfl
      · rw [lookP_put] at e
        show ∃ q, lookA (putA J.newest a n) k.1 = some q ∧ k.2 ≤ q
        rw [lookA_put]
        by_cases ek : k = (a, n)
        · rw [ek, if_pos rfl]
          exact ⟨n, rfl, Int.le_refl _⟩
        · rw [if_neg ek] at e
          obtain ⟨q, hq, le⟩ := R.key k p e
          by_cases ea : k.1 = a
          · rw [if_pos ea]
            rw [ea] at hq
            rw [hq] at c
            have c2 : ¬ n ≤ q := fun z => c (.inr z)
            exact ⟨n, rfl, by omega⟩
          · rw [if_neg ea]
            exact ⟨q, hq, le⟩
      · rw [lookP_put] at e
        by_cases ek : k = (a, n)
        · rw [if_pos ek] at e
          cases e
          rw [ek]
          exact ⟨(fun z => by cases z), fun z => absurd z (nb h)⟩
        · rw [if_neg ek] at e
          exact R.ears k p h e
      · rw [lookP_put]
        split
        · rfl
        · exact R.hd h b m hm
      · rw [lookP_put] at e
        by_cases ek : k = (a, n)
        · rw [if_pos ek] at e
          cases e
          cases el : (lookP S.lost k).isSome with
          | false => rfl
          | true =>
            have := R.ls k el
            rw [ek, hno] at this
            cases this
        · rw [if_neg ek] at e
          exact R.lost k p e
      · rw [lookP_put]
        split
        · rfl
        · exact R.ls k hk
  | hear h a n t =>
    unfold Jd.row Sd.row
    dsimp only
    rw [R.look, R.here]
    cases hp : lookP J.posts (a, n) with
    | none => rfl
    | some p =>
      dsimp only [Option.map_some]
      have n0 : 0 ≤ n := ok.2.2
      have el := R.late (h := h) n0 hp
      have ef : forS J.here p.aim h a = J.isFor p h a := by
        unfold forS Jd.isFor
        rfl
      rw [show poS p = (p.aim, p.words, p.due) from rfl]
      dsimp only
      rw [ef, el]
      by_cases c1 : lookA J.here h = none
      · rw [if_pos c1, if_pos (.inl c1)]
      rw [if_neg c1]
      by_cases c2 : p.words ≠ t
      · rw [if_pos c2, if_pos (.inr (.inl c2))]
      rw [if_neg c2]
      by_cases c3 : J.isFor p h a = false
      · rw [if_pos c3, if_pos (.inr (.inr (.inl c3)))]
      rw [if_neg c3]
      by_cases c4 : J.turn κ p h (a, n) = false
      · rw [if_pos c4, if_pos (.inr (.inr (.inr (by rw [c4]; rfl))))]
      rw [if_neg c4, if_neg (fun z => z.elim c1 fun z => z.elim c2 fun z => z.elim c3 fun z => c4 (by
        cases e : J.turn κ p h (a, n) with
        | false => rfl
        | true => rw [e] at z; cases z))]
      have bf : ∀ z b, Sd.before { S with heard := putP S.heard (h, a) (S.before h a ++ [n]) } z b = if z = h ∧ b = a then S.before h a ++ [n] else S.before z b := fun z b => before_put
      refine ⟨rfl, rfl, R.newest, ?_, fun k q e => ?_, nodup_putP R.nd, fun k q z e => ?_, fun z b m hm => ?_, fun k q e => ?_, fun k hk => ?_, fun ek z b m m0 => ?_⟩
      · show S.posts = (putP J.posts (a, n) { p with ears := earPut p.ears h }).map fun e => (e.1, poS e.2)
        rw [putP_poS, ← R.posts]
        have e1 : lookP S.posts (a, n) = some (poS p) := by rw [R.look, hp]; rfl
        have nd : (S.posts.map (·.1)).Nodup := by
          rw [R.posts, List.map_map]
          exact R.nd
        exact (putP_same nd e1).symm
      · rw [lookP_put] at e
        by_cases ek : k = (a, n)
        · rw [ek]; exact R.key _ _ hp
        · rw [if_neg ek] at e; exact R.key k q e
      · rw [lookP_put] at e
        show z ∈ q.ears ↔ k.2 ∈ Sd.before { S with heard := putP S.heard (h, a) (S.before h a ++ [n]) } z k.1
        rw [bf]
        have em : z ∈ earPut p.ears h ↔ z ∈ p.ears ∨ z = h := by
          unfold earPut
          split
          · rename_i c
            exact ⟨.inl, fun q => q.elim id fun e => e ▸ c⟩
          · rw [List.mem_append, List.mem_singleton]
        by_cases ek : k = (a, n)
        · rw [if_pos ek] at e
          cases e
          rw [ek]
          show z ∈ earPut p.ears h ↔ n ∈ (if z = h ∧ a = a then S.before h a ++ [n] else S.before z a)
          rw [em]
          by_cases ez : z = h
          · rw [if_pos ⟨ez, rfl⟩]
            exact ⟨fun _ => List.mem_append.mpr (.inr (List.mem_singleton.mpr rfl)), fun _ => .inr ez⟩
          · rw [if_neg (fun q => ez q.1)]
            exact ⟨fun q => q.elim (fun q => (R.ears (a, n) p z hp).mp q) fun q => absurd q ez, fun q => .inl ((R.ears (a, n) p z hp).mpr q)⟩
        · rw [if_neg ek] at e
          rw [R.ears k q z e]
          by_cases ez : z = h ∧ k.1 = a
          · rw [if_pos ez, List.mem_append, List.mem_singleton, ez.1, ez.2]
            exact ⟨.inl, fun q => q.elim id fun q => absurd (Prod.ext ez.2 q) ek⟩
          · rw [if_neg ez]
      · have hm : m ∈ Sd.before { S with heard := putP S.heard (h, a) (S.before h a ++ [n]) } z b := hm
        rw [bf] at hm
        rw [lookP_put]
        split
        · rfl
        · rename_i ne
          by_cases ez : z = h ∧ b = a
          · rw [if_pos ez] at hm
            rcases List.mem_append.mp hm with hm | hm
            · rw [ez.2]; exact R.hd h a m hm
            · exact absurd (Prod.ext ez.2 (List.mem_singleton.mp hm)) ne
          · rw [if_neg ez] at hm
            exact R.hd z b m hm
      · rw [lookP_put] at e
        by_cases ek : k = (a, n)
        · rw [if_pos ek] at e
          cases e
          rw [ek]
          exact R.lost (a, n) p hp
        · rw [if_neg ek] at e
          exact R.lost k q e
      · rw [lookP_put]
        split
        · rfl
        · exact R.ls k hk
      · subst ek
        show m ≤ (lookP (putP J.hts (h, a) n) (z, b)).getD (-1) ↔ ∃ q ∈ Sd.before { S with heard := putP S.heard (h, a) (S.before h a ++ [n]) } z b, m ≤ q
        rw [bf, lookP_put]
        by_cases ez : z = h ∧ b = a
        · rw [if_pos ez, if_pos (Prod.ext ez.1 ez.2)]
          constructor
          · intro le
            exact ⟨n, List.mem_append.mpr (.inr (List.mem_singleton.mpr rfl)), le⟩
          · rintro ⟨q, hq, le⟩
            show m ≤ n
            rcases List.mem_append.mp hq with hq | hq
            · have l1 := (R.hts rfl h a m m0).mpr ⟨q, hq, le⟩
              have l2 : (lookP J.hts (h, a)).getD (-1) < n := by
                have : J.turn .tu p h (a, n) = true := by
                  cases e : J.turn .tu p h (a, n) with
                  | true => rfl
                  | false => exact absurd e c4
                exact of_decide_eq_true this
              omega
            · rw [← List.mem_singleton.mp hq]; exact le
        · rw [if_neg ez, if_neg (fun q => ez ⟨congrArg Prod.fst q, congrArg Prod.snd q⟩)]
          exact R.hts rfl z b m m0
  | lose a n =>
    unfold Jd.row Sd.row
    dsimp only
    rw [R.look]
    cases hp : lookP J.posts (a, n) with
    | none => rfl
    | some p =>
      dsimp only [Option.map_some]
      refine ⟨rfl, R.here, R.newest, ?_, fun k q e => ?_, nodup_putP R.nd, fun k q z e => ?_, fun z b m hm => ?_, fun k q e => ?_, fun k hk => ?_, R.hts⟩
      · show S.posts = (putP J.posts (a, n) { p with lost := true }).map fun e => (e.1, poS e.2)
        rw [putP_poS, ← R.posts]
        have e1 : lookP S.posts (a, n) = some (poS p) := by rw [R.look, hp]; rfl
        have nd : (S.posts.map (·.1)).Nodup := by
          rw [R.posts, List.map_map]
          exact R.nd
        exact (putP_same nd e1).symm
      · rw [lookP_put] at e
        by_cases ek : k = (a, n)
        · rw [ek]; exact R.key _ _ hp
        · rw [if_neg ek] at e; exact R.key k q e
      · rw [lookP_put] at e
        by_cases ek : k = (a, n)
        · rw [if_pos ek] at e
          cases e
          rw [ek]
          exact R.ears (a, n) p z hp
        · rw [if_neg ek] at e
          exact R.ears k q z e
      · rw [lookP_put]
        split
        · rfl
        · exact R.hd z b m hm
      · rw [lookP_put] at e
        show q.lost = (lookP (putP S.lost (a, n) true) k).isSome
        rw [lookP_put]
        by_cases ek : k = (a, n)
        · rw [if_pos ek] at e
          cases e
          rw [if_pos ek]
          rfl
        · rw [if_neg ek] at e
          rw [if_neg ek]
          exact R.lost k q e
      · have hk : (lookP (putP S.lost (a, n) true) k).isSome = true := hk
        rw [lookP_put] at hk ⊢
        by_cases ek : k = (a, n)
        · rw [if_pos ek]; rfl
        · rw [if_neg ek] at hk ⊢
          exact R.ls k hk
theorem RelS.judge : ∀ {rs : List Rw} {S : Sd} {J : Jd} {i : Nat}, RelS κ S J → (∀ r ∈ rs, r.ok) → match judge κ J rs i with
    | .inl j => judgeS κ S rs i = .inl j
    | .inr J' => ∃ S', judgeS κ S rs i = .inr S' ∧ RelS κ S' J'
  | [], S, J, i, R, _ => ⟨S, rfl, R⟩
  | r :: rs, S, J, i, R, ok => by
    have h := R.row (ok r List.mem_cons_self)
    unfold Wn.judge judgeS
    cases e : J.row κ r with
    | none =>
      rw [e] at h
      dsimp only at h ⊢
      rw [if_neg (by rw [h]; exact Bool.noConfusion)]
    | some J' =>
      rw [e] at h
      dsimp only at h ⊢
      rw [if_pos h.1]
      exact RelS.judge h.2 fun z hz => ok z (List.mem_cons_of_mem _ hz)
theorem RelS.endOk (R : RelS κ S J) (ws : List (Int × Int)) : S.endOk ws = J.endOk ws := by
  unfold Sd.endOk Jd.endOk
  have e1 : (ws.all fun k => (lookP S.posts k).isSome) = ws.all fun k => (lookP J.posts k).isSome := by
    refine congrArg (fun g => ws.all g) (funext fun k => ?_)
    rw [R.look, Option.isSome_map]
  rw [e1, R.posts, List.all_map]
  refine congrArg _ ?_
  rw [Bool.eq_iff_iff, List.all_eq_true, List.all_eq_true]
  have one : ∀ e ∈ J.posts, ((decide (S.missing (e.1, poS e.2) = []) || (lookP S.lost e.1).isSome || decide (e.1 ∈ ws)) = true ↔ (decide (e.1 ∈ ws) || e.2.done) = true) := fun e he => by
    have hp := lookP_of_mem R.nd (k := e.1) (v := e.2) he
    have el := R.lost e.1 e.2 hp
    have em : decide (S.missing (e.1, poS e.2) = []) = e.2.due.all fun h => decide (h ∈ e.2.ears) := by
      unfold Sd.missing
      rw [Bool.eq_iff_iff, decide_eq_true_eq, List.filter_eq_nil_iff, List.all_eq_true]
      constructor
      · intro h z hz
        have := h z hz
        rw [decide_eq_true_eq] at this ⊢
        exact (R.ears e.1 e.2 z hp).mpr (Decidable.of_not_not this)
      · intro h z hz
        have := h z hz
        rw [decide_eq_true_eq] at this ⊢
        exact fun q => q ((R.ears e.1 e.2 z hp).mp this)
    unfold Po.done
    rw [em, ← el]
    simp only [Bool.or_eq_true]
    constructor
    · rintro ((h | h) | h)
      · exact .inr (.inr h)
      · exact .inr (.inl h)
      · exact .inl h
    · rintro (h | h | h)
      · exact .inr h
      · exact .inl (.inr h)
      · exact .inl (.inl h)
  exact ⟨fun h e he => (one e he).mp (h e he), fun h e he => (one e he).mpr (h e he)⟩
/-- both judges say the same -/
theorem firstS_eq {rs : List Rw} {ws : List (Int × Int)} (ok : ∀ r ∈ rs, r.ok) : firstS κ rs ws = firstWrong κ rs ws := by
  have h := RelS.judge (κ := κ) (i := 0) RelS.nil ok
  unfold firstS firstWrong
  cases e : judge κ Jd.nil rs 0 with
  | inl j =>
    rw [e] at h
    dsimp only at h
    rw [h]
  | inr J =>
    rw [e] at h
    obtain ⟨S, e1, R⟩ := h
    rw [e1]
    dsimp only
    rw [R.endOk]
end
end Wn

namespace Wn
open PySem L2
/-! ### comprehensions whose elements are told values: any walk, any target, a test or none -/
theorem comp_ls {J : It} {G : Hp → Prop} {Y : Nat → Hp → V → Hp → Prop} {β : Type} {g : TG} {tt : TT} {te : TE} {is : List Nat} {σ : L2.St} {H2 : Hp} {D : Addr} {L : List β} {Qd : Hp → Prop} (w : Walk J L.length G Y) (hG : ∀ H', Same H2 H' → G H') (p : β → Bool) (f : β → V) (hD : H2 D = none) (hl : L.length ≤ 1000000)
    (hte : ∀ (j : Nat) (b : β) (x : V) (H' H'' : Hp) (Q : VK) (N : Hp → Prop), L[j]? = some b → Same H2 H' → Y j H' x H'' → (p b = true → ∀ (H3 : Hp), Same H' H3 → Q (f b) H3) → (p b = false → ∀ (H3 : Hp), Same H' H3 → N H3) →
      g x (wipe σ is) H'' fun σ2 H3 => wipe σ2 is = wipe σ is ∧ tt σ2 H3 fun b' H4 => if b' = true then te σ2 H4 Q else N H4)
    (hd : ∀ (H' : Hp), Same H2 H' → H' D = some (.lst ((L.filter p).map f)) → Qd H') :
    ∃ W : Nat → Nat → Hp → Prop, (∃ m, W 0 m (upd H2 D (.lst []))) ∧ ∀ j m H, W j m H →
      (J.stop j H ∧ Qd H) ∨ (J.go j H ∧ ∃ Nx : Hp → Prop, (∀ H', Nx H' → ∃ m', m' < m ∧ W (j + 1) m' H') ∧ ∀ x H', J.yld j H x H' → g x (wipe σ is) H' fun σ2 H2 => wipe σ2 is = wipe σ is ∧ tt σ2 H2 fun b H3 =>
        if b = true then te σ2 H3 fun y H4 => ∃ acc, H4 D = some (.lst acc) ∧ acc.length < sizeLine ∧ Nx (upd H4 D (.lst (acc ++ [y]))) else Nx H3) := by
  refine lc_it w (fun j H => Same H2 H ∧ H D = some (.lst (((L.take j).filter p).map f))) ⟨(L2.Same.refl H2).new hD, upd_same⟩ (fun j H _ ⟨s, _⟩ => hG H s) ?_ ?_
  · rintro j x H3 H3' hj ⟨s3, hD3⟩ hx
    have ej : L[j]? = some L[j] := List.getElem?_eq_getElem hj
    have et : L.take (j + 1) = L.take j ++ [L[j]] := List.take_succ_eq_append_getElem hj
    have ly : (((L.take j).filter p).map f).length < sizeLine := by
      rw [List.length_map]
      have h2 := List.length_filter_le p (L.take j)
      rw [List.length_take] at h2
      exact Nat.lt_of_le_of_lt (show ((L.take j).filter p).length ≤ 1000000 by omega) (by decide)
    refine hte j L[j] x H3 H3' _ _ ej s3 hx (fun hp H4 s4 => ⟨_, s4 _ _ hD3, ly, (s3.trans s4).wrn hD, ?_⟩) (fun hp H4 s4 => ⟨s3.trans s4, ?_⟩)
    · rw [upd_same, et, List.filter_append, List.filter_cons, hp, List.map_append]
      rfl
    · rw [et, List.filter_append, List.filter_cons, hp]
      simp only [Bool.false_eq_true, if_false, List.filter_nil, List.append_nil]
      exact s4 _ _ hD3
  · rintro H3 ⟨s3, hD3⟩
    rw [List.take_length] at hD3
    exact hd H3 s3 hD3
theorem _root_.L2.Walk.cast {J : It} {n m : Nat} {G : Hp → Prop} {Y : Nat → Hp → V → Hp → Prop} (w : Walk J n G Y) (e : n = m) : Walk J m G Y := e ▸ w
theorem filter_all {β : Type} (L : List β) : L.filter (fun _ => true) = L := List.filter_eq_self.mpr fun _ _ => rfl
end Wn

namespace Wn
open PySem L2
/-! ### where a judge lies -/
structure Pc where
  P : Addr
  J : JK → Addr
structure Ja where
  j : Addr
  dx : Addr
  p : Addr
  q : Addr
  n : Addr
  h : Addr
  po : Int × Int → Addr
  pd : Int × Int → Addr
  du : Int × Int → Addr
  ea : Int × Int → Addr
def pk (k : Int × Int) : List Key := [.inl k.1, .inl k.2]
theorem pk_iff {a b : Int × Int} : pk a = pk b ↔ a = b := by
  unfold pk
  constructor
  · intro h
    simp only [List.cons.injEq, Sum.inl.injEq, and_true] at h
    exact Prod.ext h.1 h.2
  · intro h; rw [h]
section
variable {α : Type}
def gK (g : α → V) (m : List (Int × α)) : List (Key × V) := m.map fun e => (.inl e.1, g e.2)
theorem valV_gK (g : α → V) (k : Int) : ∀ m : List (Int × α), valV (gK g m) (.inl k) = (lookA m k).map g
  | [] => rfl
  | e :: m => by
    show valV ((Sum.inl e.1, g e.2) :: gK g m) (.inl k) = _
    rw [lookA_cons]
    by_cases h : e.1 = k
    · rw [valV_pos (inl_iff.mpr h), if_pos h]; rfl
    · rw [valV_neg (fun z => h (inl_iff.mp z)), valV_gK g k m, if_neg h]
theorem putK_gK (g : α → V) (k : Int) (x : α) (m : List (Int × α)) : putK (gK g m) (.inl k) (g x) = gK g (putA m k x) := by
  unfold putK putA
  rw [valV_any, valV_gK, any_lookA, Option.isSome_map]
  split
  · unfold gK
    rw [List.map_map, List.map_map]
    refine List.map_congr_left fun e _ => ?_
    by_cases h : e.1 = k
    · simp [Function.comp, h]
    · simp [Function.comp, h, inl_iff]
  · unfold gK
    rw [List.map_append]
    rfl
theorem dropK_gK (g : α → V) (k : Int) (m : List (Int × α)) : dropK (gK g m) (.inl k) = gK g (dropA m k) := by
  unfold dropK dropA gK
  rw [List.filter_map]
  congr 1
  refine List.filter_congr fun e _ => ?_
  by_cases h : e.1 = k
  · simp [Function.comp, h]
  · simp [Function.comp, h, inl_iff]
/-- by pairs -/
def gP (g : Int × Int → α → V) (m : List ((Int × Int) × α)) : List (List Key × V) := m.map fun e => (pk e.1, g e.1 e.2)
theorem valV_gP (g : Int × Int → α → V) (k : Int × Int) : ∀ m : List ((Int × Int) × α), valV (gP g m) (pk k) = (lookP m k).map (g k)
  | [] => rfl
  | e :: m => by
    show valV ((pk e.1, g e.1 e.2) :: gP g m) (pk k) = _
    rw [lookP_cons]
    by_cases h : e.1 = k
    · rw [valV_pos (pk_iff.mpr h), if_pos h, h]; rfl
    · rw [valV_neg (fun z => h (pk_iff.mp z)), valV_gP g k m, if_neg h]
theorem putK_gP (g : Int × Int → α → V) (k : Int × Int) (x : α) (m : List ((Int × Int) × α)) : putK (gP g m) (pk k) (g k x) = gP g (putP m k x) := by
  unfold putK putP
  rw [valV_any, valV_gP, any_lookP, Option.isSome_map]
  split
  · unfold gP
    rw [List.map_map, List.map_map]
    refine List.map_congr_left fun e _ => ?_
    by_cases h : e.1 = k
    · simp [Function.comp, h]
    · simp [Function.comp, h, pk_iff]
  · unfold gP
    rw [List.map_append]
    rfl
theorem gP_congr {g g' : Int × Int → α → V} {m : List ((Int × Int) × α)} (h : ∀ e ∈ m, g e.1 e.2 = g' e.1 e.2) : gP g m = gP g' m :=
  List.map_congr_left fun e he => by rw [h e he]
theorem gK_len (g : α → V) (m : List (Int × α)) : (gK g m).length = m.length := List.length_map _
theorem gP_len (g : Int × Int → α → V) (m : List ((Int × Int) × α)) : (gP g m).length = m.length := List.length_map _
end
def earK (es : List Int) : List (Key × V) := es.map fun h => (.inl h, .bl true)
theorem valV_ear (k : Int) : ∀ es : List Int, valV (earK es) (.inl k) = if k ∈ es then some (.bl true) else none
  | [] => rfl
  | e :: es => by
    show valV ((Sum.inl e, V.bl true) :: earK es) (.inl k) = _
    by_cases h : e = k
    · rw [valV_pos (inl_iff.mpr h), if_pos (by rw [h]; exact List.mem_cons_self)]
    · rw [valV_neg (fun z => h (inl_iff.mp z)), valV_ear k es]
      have : k ∈ e :: es ↔ k ∈ es := by rw [List.mem_cons]; exact ⟨fun z => z.resolve_left fun q => h q.symm, .inr⟩
      simp only [this]
theorem putK_ear (k : Int) (es : List Int) : putK (earK es) (.inl k) (.bl true) = earK (earPut es k) := by
  unfold putK earPut
  rw [valV_any, valV_ear]
  by_cases h : k ∈ es
  · rw [if_pos h, if_pos h]
    simp only [Option.isSome_some, if_true]
    unfold earK
    rw [List.map_map]
    refine List.map_congr_left fun e _ => ?_
    by_cases z : e = k
    · simp [Function.comp, z]
    · simp [Function.comp, z, inl_iff]
  · rw [if_neg h, if_neg h]
    simp only [Option.isSome_none, Bool.false_eq_true, if_false]
    unfold earK
    rw [List.map_append]
    rfl
theorem earPut_len (es : List Int) (k : Int) : (earPut es k).length ≤ es.length + 1 := by
  unfold earPut
  split
  · omega
  · rw [List.length_append]; exact Nat.le_refl _
def poF (A : Ja) (k : Int × Int) (x : Po) : List (Str × V) := [("aim", aimV x.aim), ("words", .str x.words), ("due", .ref (A.du k)), ("ears", .ref (A.ea k)), ("is_lost", .bl x.lost)]
def jF (κ : JK) (A : Ja) : List (Str × V) := match κ with
  | .tu => [("present", .ref A.p), ("posts", .ref A.q), ("newest", .ref A.n), ("heights", .ref A.h)]
  | _ => [("present", .ref A.p), ("posts", .ref A.q), ("newest", .ref A.n)]
def poR (A : Ja) : Int × Int → Po → V := fun k _ => .ref (A.po k)
def PoAt (c : Pc) (H : Hp) (A : Ja) (k : Int × Int) (x : Po) : Prop := H (A.po k) = some (.ins c.P (A.pd k) (poF A k x)) ∧ H (A.du k) = some (.lst (x.due.map V.int)) ∧ H (A.ea k) = some (.dK (earK x.ears))
structure JdAt (c : Pc) (κ : JK) (H0 H : Hp) (A : Ja) (J : Jd) (N : Nat) : Prop where
  sm : Same H0 H
  o : H A.j = some (.ins (c.J κ) A.dx (jF κ A))
  here : H A.p = some (.dK (gK V.str J.here))
  posts : H A.q = some (.dT (gP (poR A) J.posts))
  newest : H A.n = some (.dK (gK V.int J.newest))
  hts : κ = .tu → H A.h = some (.dT (gP (fun _ => V.int) J.hts))
  po : ∀ k x, lookP J.posts k = some x → PoAt c H A k x
  pn : A.p ≠ A.n
  qh : κ = .tu → A.q ≠ A.h
  ep : ∀ k ∈ J.posts.map (·.1), A.ea k ≠ A.p ∧ A.ea k ≠ A.n
  ei : ∀ k ∈ J.posts.map (·.1), ∀ k' ∈ J.posts.map (·.1), A.ea k = A.ea k' → k = k'
  pi : ∀ k ∈ J.posts.map (·.1), ∀ k' ∈ J.posts.map (·.1), A.po k = A.po k' → k = k'
  nd : (J.posts.map (·.1)).Nodup
  fj : H0 A.j = none
  fp : H0 A.p = none
  fq : H0 A.q = none
  fn : H0 A.n = none
  fh : κ = .tu → H0 A.h = none
  fo : ∀ k ∈ J.posts.map (·.1), H0 (A.po k) = none ∧ H0 (A.ea k) = none
  nw : ∀ k ∈ J.posts.map (·.1), ∃ m, lookA J.newest k.1 = some m ∧ k.2 ≤ m
  hn : (J.here.map (·.1)).Nodup
  l1 : J.here.length ≤ N
  l2 : J.posts.length ≤ N
  l3 : J.newest.length ≤ N
  l4 : J.hts.length ≤ N
  l5 : ∀ k x, lookP J.posts k = some x → x.ears.length ≤ N ∧ x.due.length ≤ N
section
variable {c : Pc} {κ : JK} {H0 H H' : Hp} {A : Ja} {J : Jd} {N : Nat}
theorem PoAt.kp {M : List Addr} {k : Int × Int} {x : Po} (h : PoAt c H A k x) (kp : Kp M H H') (n1 : A.po k ∉ M) (n2 : A.du k ∉ M) (n3 : A.ea k ∉ M) : PoAt c H' A k x :=
  ⟨kp _ _ n1 h.1, kp _ _ n2 h.2.1, kp _ _ n3 h.2.2⟩
theorem jF_p : (jF κ A).lookup ("present" : Str) = some (.ref A.p) := by cases κ <;> rfl
theorem jF_q : (jF κ A).lookup ("posts" : Str) = some (.ref A.q) := by cases κ <;> rfl
theorem jF_n : (jF κ A).lookup ("newest" : Str) = some (.ref A.n) := by cases κ <;> rfl
theorem jF_no {f : Str} (h : f ≠ "present" ∧ f ≠ "posts" ∧ f ≠ "newest" ∧ f ≠ "heights") : (jF κ A).lookup f = none := by
  have b : ∀ x : Str, f ≠ x → (f == x) = false := fun x hx => beq_eq_false_iff_ne.mpr hx
  cases κ <;> simp only [jF, List.lookup, b _ h.1, b _ h.2.1, b _ h.2.2.1, b _ h.2.2.2]
theorem jF_len : (jF κ A).length ≠ 5 := by cases κ <;> (intro z; cases z)
theorem JdAt.mono {N' : Nat} (h : JdAt c κ H0 H A J N) (hN : N ≤ N') : JdAt c κ H0 H A J N' :=
  ⟨h.sm, h.o, h.here, h.posts, h.newest, h.hts, h.po, h.pn, h.qh, h.ep, h.ei, h.pi, h.nd, h.fj, h.fp, h.fq, h.fn, h.fh, h.fo, h.nw, h.hn, Nat.le_trans h.l1 hN, Nat.le_trans h.l2 hN, Nat.le_trans h.l3 hN, Nat.le_trans h.l4 hN, fun k x e => ⟨Nat.le_trans (h.l5 k x e).1 hN, Nat.le_trans (h.l5 k x e).2 hN⟩⟩
theorem JdAt.same (h : JdAt c κ H0 H A J N) (s : Same H H') : JdAt c κ H0 H' A J N :=
  ⟨h.sm.trans s, s _ _ h.o, s _ _ h.here, s _ _ h.posts, s _ _ h.newest, fun e => s _ _ (h.hts e), fun k x e => ⟨s _ _ (h.po k x e).1, s _ _ (h.po k x e).2.1, s _ _ (h.po k x e).2.2⟩, h.pn, h.qh, h.ep, h.ei, h.pi, h.nd, h.fj, h.fp, h.fq, h.fn, h.fh, h.fo, h.nw, h.hn, h.l1, h.l2, h.l3, h.l4, h.l5⟩
theorem lookA_of_mem {α : Type} {m : List (Int × α)} {k : Int} {v : α} (nd : (m.map (·.1)).Nodup) (h : (k, v) ∈ m) : lookA m k = some v := by
  induction m with
  | nil => cases h
  | cons e m ih =>
    rw [List.map_cons, List.nodup_cons] at nd
    rw [lookA_cons]
    rcases List.mem_cons.mp h with rfl | h
    · rw [if_pos rfl]
    · have ne : e.1 ≠ k := fun z => nd.1 (z ▸ List.mem_map.mpr ⟨_, h, rfl⟩)
      rw [if_neg ne]
      exact ih nd.2 h
theorem JdAt.hd (h : JdAt c κ H0 H A J N) : ∀ b ∈ J.here, lookA J.here b.1 = some b.2 := fun b hb => lookA_of_mem h.hn hb
theorem look_keys {k : Int × Int} {x : Po} (h : lookP J.posts k = some x) : k ∈ J.posts.map (·.1) := List.mem_map.mpr ⟨_, lookP_mem h, rfl⟩
/-- who is there is written -/
theorem JdAt.setHere {he : List (Int × Str)} (h : JdAt c κ H0 H A J N) (kp : Kp [A.p] H H') (e : H' A.p = some (.dK (gK V.str he))) (hnd : (he.map (·.1)).Nodup) (hl : he.length ≤ N + 1) : JdAt c κ H0 H' A { J with here := he } (N + 1) := by
  refine ⟨fun b o q => kp _ _ (nin1 (ne_of_none q h.fp)) (h.sm _ _ q), kp _ _ (nin1 (ne_of h.o h.here (by intro z; cases z))) h.o, e, kp _ _ (nin1 (ne_of h.posts h.here (by intro z; cases z))) h.posts, kp _ _ (nin1 h.pn.symm) h.newest, fun z => kp _ _ (nin1 (ne_of (h.hts z) h.here (by intro z; cases z))) (h.hts z),
    fun k x q => (h.po k x q).kp kp (nin1 (ne_of (h.po k x q).1 h.here (by intro z; cases z))) (nin1 (ne_of (h.po k x q).2.1 h.here (by intro z; cases z))) (nin1 (h.ep k (look_keys q)).1), h.pn, h.qh, h.ep, h.ei, h.pi, h.nd, h.fj, h.fp, h.fq, h.fn, h.fh, h.fo, h.nw, hnd, hl, Nat.le_succ_of_le h.l2, Nat.le_succ_of_le h.l3, Nat.le_succ_of_le h.l4, fun k x q => ⟨Nat.le_succ_of_le (h.l5 k x q).1, Nat.le_succ_of_le (h.l5 k x q).2⟩⟩
/-- the last numbers are written -/
theorem JdAt.setNew {nw : List (Int × Int)} (h : JdAt c κ H0 H A J N) (kp : Kp [A.n] H H') (e : H' A.n = some (.dK (gK V.int nw))) (hw : ∀ k ∈ J.posts.map (·.1), ∃ m, lookA nw k.1 = some m ∧ k.2 ≤ m) (hl : nw.length ≤ N + 1) : JdAt c κ H0 H' A { J with newest := nw } (N + 1) := by
  refine ⟨fun b o q => kp _ _ (nin1 (ne_of_none q h.fn)) (h.sm _ _ q), kp _ _ (nin1 (ne_of h.o h.newest (by intro z; cases z))) h.o, kp _ _ (nin1 h.pn) h.here, kp _ _ (nin1 (ne_of h.posts h.newest (by intro z; cases z))) h.posts, e, fun z => kp _ _ (nin1 (ne_of (h.hts z) h.newest (by intro z; cases z))) (h.hts z),
    fun k x q => (h.po k x q).kp kp (nin1 (ne_of (h.po k x q).1 h.newest (by intro z; cases z))) (nin1 (ne_of (h.po k x q).2.1 h.newest (by intro z; cases z))) (nin1 (h.ep k (look_keys q)).2), h.pn, h.qh, h.ep, h.ei, h.pi, h.nd, h.fj, h.fp, h.fq, h.fn, h.fh, h.fo, hw, h.hn, Nat.le_succ_of_le h.l1, Nat.le_succ_of_le h.l2, hl, Nat.le_succ_of_le h.l4, fun k x q => ⟨Nat.le_succ_of_le (h.l5 k x q).1, Nat.le_succ_of_le (h.l5 k x q).2⟩⟩
/-- the heights are written -/
theorem JdAt.setHts {hs : List ((Int × Int) × Int)} (h : JdAt c .tu H0 H A J N) (kp : Kp [A.h] H H') (e : H' A.h = some (.dT (gP (fun _ => V.int) hs))) (hl : hs.length ≤ N + 1) : JdAt c .tu H0 H' A { J with hts := hs } (N + 1) := by
  have hh := h.hts rfl
  refine ⟨fun b o q => kp _ _ (nin1 (ne_of_none q (h.fh rfl))) (h.sm _ _ q), kp _ _ (nin1 (ne_of h.o hh (by intro z; cases z))) h.o, kp _ _ (nin1 (ne_of h.here hh (by intro z; cases z))) h.here, kp _ _ (nin1 (h.qh rfl)) h.posts, kp _ _ (nin1 (ne_of h.newest hh (by intro z; cases z))) h.newest, fun _ => e,
    fun k x q => (h.po k x q).kp kp (nin1 (ne_of (h.po k x q).1 hh (by intro z; cases z))) (nin1 (ne_of (h.po k x q).2.1 hh (by intro z; cases z))) (nin1 (ne_of (h.po k x q).2.2 hh (by intro z; cases z))), h.pn, h.qh, h.ep, h.ei, h.pi, h.nd, h.fj, h.fp, h.fq, h.fn, h.fh, h.fo, h.nw, h.hn, Nat.le_succ_of_le h.l1, Nat.le_succ_of_le h.l2, Nat.le_succ_of_le h.l3, hl, fun k x q => ⟨Nat.le_succ_of_le (h.l5 k x q).1, Nat.le_succ_of_le (h.l5 k x q).2⟩⟩
theorem keys_same {k : Int × Int} {x y : Po} (h : lookP J.posts k = some x) : (putP J.posts k y).map (·.1) = J.posts.map (·.1) := by rw [keysP_put, if_pos (look_keys h)]
theorem gP_poR {k : Int × Int} {x y : Po} (h : lookP J.posts k = some x) : gP (poR A) (putP J.posts k y) = gP (poR A) J.posts := by
  have e : ∀ m : List ((Int × Int) × Po), gP (poR A) m = (m.map (·.1)).map fun k => (pk k, V.ref (A.po k)) := fun m => by unfold gP poR; rw [List.map_map]; rfl
  rw [e, e, keys_same h]
/-- the ears of a letter are written -/
theorem JdAt.setEars {k : Int × Int} {x : Po} {es : List Int} (h : JdAt c κ H0 H A J N) (hk : lookP J.posts k = some x) (kp : Kp [A.ea k] H H') (e : H' (A.ea k) = some (.dK (earK es))) (hl : es.length ≤ N + 1) : JdAt c κ H0 H' A { J with posts := putP J.posts k { x with ears := es } } (N + 1) := by
  have ks := keys_same (y := { x with ears := es }) hk
  have hm := look_keys hk
  obtain ⟨p1, p2, p3⟩ := h.po k x hk
  refine ⟨fun b o q => kp _ _ (nin1 (ne_of_none q (h.fo k hm).2)) (h.sm _ _ q), kp _ _ (nin1 (ne_of h.o p3 (by intro z; cases z))) h.o, kp _ _ (nin1 (h.ep k hm).1.symm) h.here, ?_, kp _ _ (nin1 (h.ep k hm).2.symm) h.newest, fun z => kp _ _ (nin1 (ne_of (h.hts z) p3 (by intro z; cases z))) (h.hts z),
    fun k' x' q => ?_, h.pn, h.qh, ?_, ?_, ?_, ?_, h.fj, h.fp, h.fq, h.fn, h.fh, ?_, ?_, h.hn, Nat.le_succ_of_le h.l1, Nat.le_trans (putP_len _ _ _) (Nat.succ_le_succ h.l2), Nat.le_succ_of_le h.l3, Nat.le_succ_of_le h.l4, fun k' x' q => ?_⟩
  · show H' A.q = some (.dT (gP (poR A) (putP J.posts k _)))
    rw [gP_poR hk]
    exact kp _ _ (nin1 (ne_of h.posts p3 (by intro z; cases z))) h.posts
  · rw [lookP_put] at q
    by_cases ek : k' = k
    · rw [if_pos ek] at q
      cases q
      subst ek
      exact ⟨kp _ _ (nin1 (ne_of p1 p3 (by intro z; cases z))) p1, kp _ _ (nin1 (ne_of p2 p3 (by intro z; cases z))) p2, e⟩
    · rw [if_neg ek] at q
      have r := h.po k' x' q
      exact r.kp kp (nin1 (ne_of r.1 p3 (by intro z; cases z))) (nin1 (ne_of r.2.1 p3 (by intro z; cases z))) (nin1 fun z => ek (h.ei _ (look_keys q) _ hm z))
  · dsimp only; rw [ks]; exact h.ep
  · dsimp only; rw [ks]; exact h.ei
  · dsimp only; rw [ks]; exact h.pi
  · dsimp only; rw [ks]; exact h.nd
  · dsimp only; rw [ks]; exact h.fo
  · dsimp only; rw [ks]; exact h.nw
  · rw [lookP_put] at q
    by_cases ek : k' = k
    · rw [if_pos ek] at q
      cases q
      exact ⟨hl, Nat.le_succ_of_le (h.l5 k x hk).2⟩
    · rw [if_neg ek] at q
      exact ⟨Nat.le_succ_of_le (h.l5 k' x' q).1, Nat.le_succ_of_le (h.l5 k' x' q).2⟩
/-- a letter's field is written -/
theorem JdAt.setPost {k : Int × Int} {x y : Po} (h : JdAt c κ H0 H A J N) (hk : lookP J.posts k = some x) (ey : y.due = x.due ∧ y.ears = x.ears) (kp : Kp [A.po k] H H') (e : H' (A.po k) = some (.ins c.P (A.pd k) (poF A k y))) : JdAt c κ H0 H' A { J with posts := putP J.posts k y } (N + 1) := by
  have ks := keys_same (y := y) hk
  have hm := look_keys hk
  obtain ⟨p1, p2, p3⟩ := h.po k x hk
  have nj : A.j ≠ A.po k := fun z => by
    have q := h.o
    rw [z, p1] at q
    have q := Option.some.inj q
    injection q with _ _ q
    exact jF_len (κ := κ) (A := A) (by rw [← q]; rfl)
  refine ⟨fun b o q => kp _ _ (nin1 (ne_of_none q (h.fo k hm).1)) (h.sm _ _ q), kp _ _ (nin1 nj) h.o, kp _ _ (nin1 (ne_of h.here p1 (by intro z; cases z))) h.here, ?_, kp _ _ (nin1 (ne_of h.newest p1 (by intro z; cases z))) h.newest, fun z => kp _ _ (nin1 (ne_of (h.hts z) p1 (by intro z; cases z))) (h.hts z),
    fun k' x' q => ?_, h.pn, h.qh, ?_, ?_, ?_, ?_, h.fj, h.fp, h.fq, h.fn, h.fh, ?_, ?_, h.hn, Nat.le_succ_of_le h.l1, Nat.le_trans (putP_len _ _ _) (Nat.succ_le_succ h.l2), Nat.le_succ_of_le h.l3, Nat.le_succ_of_le h.l4, fun k' x' q => ?_⟩
  · show H' A.q = some (.dT (gP (poR A) (putP J.posts k _)))
    rw [gP_poR hk]
    exact kp _ _ (nin1 (ne_of h.posts p1 (by intro z; cases z))) h.posts
  · rw [lookP_put] at q
    by_cases ek : k' = k
    · rw [if_pos ek] at q
      cases q
      subst ek
      exact ⟨e, by rw [ey.1]; exact kp _ _ (nin1 (ne_of p2 p1 (by intro z; cases z))) p2, by rw [ey.2]; exact kp _ _ (nin1 (ne_of p3 p1 (by intro z; cases z))) p3⟩
    · rw [if_neg ek] at q
      have r := h.po k' x' q
      exact r.kp kp (nin1 fun z => ek (h.pi _ (look_keys q) _ hm z)) (nin1 (ne_of r.2.1 p1 (by intro z; cases z))) (nin1 (ne_of r.2.2 p1 (by intro z; cases z)))
  · dsimp only; rw [ks]; exact h.ep
  · dsimp only; rw [ks]; exact h.ei
  · dsimp only; rw [ks]; exact h.pi
  · dsimp only; rw [ks]; exact h.nd
  · dsimp only; rw [ks]; exact h.fo
  · dsimp only; rw [ks]; exact h.nw
  · rw [lookP_put] at q
    by_cases ek : k' = k
    · rw [if_pos ek] at q
      cases q
      rw [ey.1, ey.2]
      exact ⟨Nat.le_succ_of_le (h.l5 k x hk).1, Nat.le_succ_of_le (h.l5 k x hk).2⟩
    · rw [if_neg ek] at q
      exact ⟨Nat.le_succ_of_le (h.l5 k' x' q).1, Nat.le_succ_of_le (h.l5 k' x' q).2⟩
/-- a new letter: its object at o, its dict at e, who is due at d -/
def Ja.add (A : Ja) (k : Int × Int) (o od d e : Addr) : Ja := { A with po := fun z => if z = k then o else A.po z, pd := fun z => if z = k then od else A.pd z, du := fun z => if z = k then d else A.du z, ea := fun z => if z = k then e else A.ea z }
theorem JdAt.addPost {k : Int × Int} {x : Po} {o od d e : Addr} {G : Hp} (h : JdAt c κ H0 H A J N) (hk : lookP J.posts k = none) (sG : Same H G) (no : H o = none) (ne : H e = none)
    (go : G o = some (.ins c.P od (poF (A.add k o od d e) k x))) (gd : G d = some (.lst (x.due.map V.int))) (ge : G e = some (.dK (earK x.ears))) (kp : Kp [A.q] G H') (hq : H' A.q = some (.dT (putK (gP (poR A) J.posts) (pk k) (.ref o)))) (hx : x.ears.length ≤ N + 1 ∧ x.due.length ≤ N + 1) (hw : ∃ m, lookA J.newest k.1 = some m ∧ k.2 ≤ m) :
    JdAt c κ H0 H' (A.add k o od d e) { J with posts := putP J.posts k x } (N + 1) := by
  have nk := lookP_none.mp hk
  have keys : (putP J.posts k x).map (·.1) = J.posts.map (·.1) ++ [k] := by rw [keysP_put, if_neg nk]
  have hG := h.same sG
  have old : ∀ z ∈ J.posts.map (·.1), z ≠ k := fun z hz q => nk (q ▸ hz)
  have ao : (A.add k o od d e).po k = o := if_pos rfl
  have ae : (A.add k o od d e).ea k = e := if_pos rfl
  have ad : (A.add k o od d e).du k = d := if_pos rfl
  have apd : (A.add k o od d e).pd k = od := if_pos rfl
  have bo : ∀ z, z ≠ k → (A.add k o od d e).po z = A.po z := fun z hz => if_neg hz
  have be : ∀ z, z ≠ k → (A.add k o od d e).ea z = A.ea z := fun z hz => if_neg hz
  have bd : ∀ z, z ≠ k → (A.add k o od d e).du z = A.du z := fun z hz => if_neg hz
  have bpd : ∀ z, z ≠ k → (A.add k o od d e).pd z = A.pd z := fun z hz => if_neg hz
  have nq : ∀ {b : Addr} {u : HO}, G b = some u → (∀ w, u ≠ .dT w) → b ∉ [A.q] := fun hb hu => nin1 (ne_of hb hG.posts (hu _))
  have jf : jF κ (A.add k o od d e) = jF κ A := by cases κ <;> rfl
  have pf : ∀ z y, z ≠ k → poF (A.add k o od d e) z y = poF A z y := fun z y hz => by unfold poF; rw [bd z hz, be z hz]
  have memk : ∀ z ∈ J.posts.map (·.1) ++ [k], z = k ∨ z ∈ J.posts.map (·.1) ∧ z ≠ k := fun z hz => by
    rcases List.mem_append.mp hz with hz | hz
    · exact .inr ⟨hz, old z hz⟩
    · exact .inl (List.mem_singleton.mp hz)
  have fre : ∀ {b : Addr}, H b = none → H0 b = none := fun {b} hb => by
    cases q : H0 b with
    | none => rfl
    | some u => rw [h.sm _ _ q] at hb; cases hb
  have poat : ∀ z y, lookP J.posts z = some y → PoAt c G A z y := hG.po
  refine ⟨fun b u q => kp _ _ (nin1 (ne_of_none q h.fq)) (hG.sm _ _ q), ?_, kp _ _ (nq hG.here (by intro w z; cases z)) hG.here, ?_, kp _ _ (nq hG.newest (by intro w z; cases z)) hG.newest, fun z => kp _ _ (nin1 (h.qh z).symm) (hG.hts z),
    fun k' x' q => ?_, h.pn, h.qh, ?_, ?_, ?_, ?_, h.fj, h.fp, h.fq, h.fn, h.fh, ?_, ?_, h.hn, Nat.le_succ_of_le h.l1, Nat.le_trans (putP_len _ _ _) (Nat.succ_le_succ h.l2), Nat.le_succ_of_le h.l3, Nat.le_succ_of_le h.l4, fun k' x' q => ?_⟩
  · show H' A.j = some (.ins (c.J κ) A.dx (jF κ (A.add k o od d e)))
    rw [jf]
    exact kp _ _ (nq hG.o (by intro w z; cases z)) hG.o
  · show H' A.q = some (.dT (gP (poR (A.add k o od d e)) (putP J.posts k x)))
    rw [hq]
    have e1 : gP (poR A) J.posts = gP (poR (A.add k o od d e)) J.posts := gP_congr fun z hz => by
      show V.ref (A.po z.1) = .ref ((A.add k o od d e).po z.1)
      rw [bo z.1 (old z.1 (List.mem_map.mpr ⟨z, hz, rfl⟩))]
    have e2 : V.ref o = poR (A.add k o od d e) k x := by show V.ref o = .ref ((A.add k o od d e).po k); rw [ao]
    rw [e1, e2, putK_gP]
  · rw [lookP_put] at q
    by_cases ek : k' = k
    · rw [if_pos ek] at q
      cases q
      subst ek
      refine ⟨?_, ?_, ?_⟩
      · rw [ao, apd]; exact kp _ _ (nq go (by intro w z; cases z)) go
      · rw [ad]; exact kp _ _ (nq gd (by intro w z; cases z)) gd
      · rw [ae]; exact kp _ _ (nq ge (by intro w z; cases z)) ge
    · rw [if_neg ek] at q
      obtain ⟨r1, r2, r3⟩ := poat k' x' q
      refine ⟨?_, ?_, ?_⟩
      · rw [bo k' ek, bpd k' ek, pf k' x' ek]; exact kp _ _ (nq r1 (by intro w z; cases z)) r1
      · rw [bd k' ek]; exact kp _ _ (nq r2 (by intro w z; cases z)) r2
      · rw [be k' ek]; exact kp _ _ (nq r3 (by intro w z; cases z)) r3
  · dsimp only
    rw [keys]
    intro z hz
    rcases memk z hz with rfl | ⟨hz, nz⟩
    · rw [ae]; exact ⟨fun q => (by rw [show e = A.p from q, h.here] at ne; cases ne), fun q => (by rw [show e = A.n from q, h.newest] at ne; cases ne)⟩
    · rw [be z nz]; exact h.ep z hz
  · dsimp only
    rw [keys]
    have one : ∀ z ∈ J.posts.map (·.1), A.ea z ≠ e := fun z hz q => by
      obtain ⟨y, hy⟩ : ∃ y, lookP J.posts z = some y := by
        cases w : lookP J.posts z with
        | none => exact absurd hz (lookP_none.mp w)
        | some y => exact ⟨y, rfl⟩
      rw [← q, (h.po z y hy).2.2] at ne
      cases ne
    intro z hz z' hz' q
    rcases memk z hz with rfl | ⟨hz1, nz⟩
    · rcases memk z' hz' with rfl | ⟨hz2, nz'⟩
      · rfl
      · rw [ae, be z' nz'] at q; exact absurd q.symm (one z' hz2)
    · rcases memk z' hz' with rfl | ⟨hz2, nz'⟩
      · rw [ae, be z nz] at q; exact absurd q (one z hz1)
      · rw [be z nz, be z' nz'] at q; exact h.ei z hz1 z' hz2 q
  · dsimp only
    rw [keys]
    have one : ∀ z ∈ J.posts.map (·.1), A.po z ≠ o := fun z hz q => by
      obtain ⟨y, hy⟩ : ∃ y, lookP J.posts z = some y := by
        cases w : lookP J.posts z with
        | none => exact absurd hz (lookP_none.mp w)
        | some y => exact ⟨y, rfl⟩
      rw [← q, (h.po z y hy).1] at no
      cases no
    intro z hz z' hz' q
    rcases memk z hz with rfl | ⟨hz1, nz⟩
    · rcases memk z' hz' with rfl | ⟨hz2, nz'⟩
      · rfl
      · rw [ao, bo z' nz'] at q; exact absurd q.symm (one z' hz2)
    · rcases memk z' hz' with rfl | ⟨hz2, nz'⟩
      · rw [ao, bo z nz] at q; exact absurd q (one z hz1)
      · rw [bo z nz, bo z' nz'] at q; exact h.pi z hz1 z' hz2 q
  · exact nodup_putP h.nd
  · dsimp only
    rw [keys]
    intro z hz
    rcases memk z hz with rfl | ⟨hz, nz⟩
    · rw [ao, ae]; exact ⟨fre no, fre ne⟩
    · rw [bo z nz, be z nz]; exact h.fo z hz
  · dsimp only
    rw [keys]
    intro z hz
    rcases memk z hz with rfl | ⟨hz, nz⟩
    · exact hw
    · exact h.nw z hz
  · rw [lookP_put] at q
    by_cases ek : k' = k
    · rw [if_pos ek] at q
      cases q
      exact hx
    · rw [if_neg ek] at q
      exact ⟨Nat.le_succ_of_le (h.l5 k' x' q).1, Nat.le_succ_of_le (h.l5 k' x' q).2⟩
end
theorem jmk_any {H : Hp} {x dx C : Addr} (n : H x = none) (nd : H dx = none) (ne : dx ≠ x) : ∃ H', upd (upd H dx (.own x)) x (.ins C dx []) = H' ∧ Same H H' ∧ H' x = some (.ins C dx []) := by
  refine ⟨_, rfl, fun c o e => ?_, upd_same⟩
  exact ((L2.Same.refl H).new nd).trans ((L2.Same.refl _).new (by rw [upd_ne ne.symm]; exact n)) c o e
theorem jmk_same {H H1 H2 : Hp} {x : Addr} (n : H x = none) (s : Same H H1) (k : Kp [x] H1 H2) : Same H H2 := fun c o e => k c o (nin1 (ne_of_none e n)) (s c o e)
theorem due_len (J : Jd) (a : Int) (aim : Option Int) : (J.due a aim).length ≤ J.here.length := by
  cases aim <;> (unfold Jd.due; rw [List.length_map]; exact List.length_filter_le _ _)
end Wn

namespace Wn
open PySem L2
section
variable {X : Cx} {ι : Type} {C f : ι → Addr} {fd : ι → FuncData} {sp : ι → Sp} {o e : Expr} {es : List Expr} {m : Str} {ta : TE} {t : TA} {CX : CXT} {k : Nat} {ps : List Str} {ds : List Value} {dvs : List V} {E : XK} {apos pos : Pos}
/-- o.m(..), o of one of some classes -/
def tMethI (C : ι → Addr) (m : Str) (sp : ι → Sp) (dvs : List V) (E : XK) (ta : TE) (t : TA) : TE := fun σ H Q => ta σ H fun x H1 => ∃ i a dx fs, x = .ref a ∧ H1 a = some (.ins (C i) dx fs) ∧ fs.lookup m = none ∧
  t σ H1 fun vs H2 => sp i (x :: (vs ++ dvs)) H2 Q E
theorem pe_methI {pl : Sem Bool} (he : PE X o ta) (c : ∀ i, Cls X.K (C i)) (hm : ∀ i, Meth X.K (C i) m (f i)) (F : ∀ i, FnOk X.prog X.w X.K X.mg X.base CX k (f i) (fd i) ps (sp i)) (hr : Room k X.A) (hb : ∀ i, Binds X.K (fd i) ps ds) (hd : Vals dvs ds) (hx : Passes CX X E) (ha : PA X (e :: es) t)
    (hst : starEach (e :: es) X.env = (false, eval e X.env) :: starEach es X.env := by rfl) (hpl : (backTo pos (starEach es X.env)).any (·.1) = false := by rfl)
    (ht : eval (.Call (.Attribute o m apos) (e :: es) [] pos) X.env = (do
      let ov ← eval o X.env
      standAt apos.atName
      let (f, first) ← holding [ov] (getMethod ov m pl)
      callWith pos f first (backTo pos (starEach (e :: es) X.env)) (backToKw pos (keywordEach [] X.env))) := by rfl) :
    PE X (.Call (.Attribute o m apos) (e :: es) [] pos) (tMethI C m sp dvs E ta t) := by
  refine ⟨fun pins s σ H Q I h => ?_⟩
  refine PySem.W.methodCall_KW (pl := pl) (thn (he.run pins s σ H _ I h) fun u s1 ⟨x, H1, I1, rx, i, a, dx, fs, ex, ea, l, q⟩ => ?_) ht
  subst ex
  obtain rfl : u = Value.ref a := rx
  refine getmeth_ok I1 ea (c i) (hm i) l ?_
  refine PySem.W.callWith_K (first := [.ref a]) (h₀ := X.base) I.ok.mod.kin (hm i).kp (thn (ha.run pos pins s1 σ H1 _ I1 q) fun us s2 ⟨vs, H2, I2, r, q2⟩ => ⟨I2.kIn, ?_⟩) hst hpl
  exact run_fn (us := .ref a :: us) (vs := .ref a :: vs) (F i) hr (hb i) hd hx I2 (.cons rfl r) q2
theorem pe_methI0 {pl : Sem Bool} (he : PE X o ta) (c : ∀ i, Cls X.K (C i)) (hm : ∀ i, Meth X.K (C i) m (f i)) (F : ∀ i, FnOk X.prog X.w X.K X.mg X.base CX k (f i) (fd i) ps (sp i)) (hr : Room k X.A) (hb : ∀ i, Binds X.K (fd i) ps ds) (hd : Vals dvs ds) (hx : Passes CX X E)
    (ht : eval (.Call (.Attribute o m apos) [] [] pos) X.env = (do
      let ov ← eval o X.env
      standAt apos.atName
      let (f, first) ← holding [ov] (getMethod ov m pl)
      callWith pos f first (backTo pos (starEach [] X.env)) (backToKw pos (keywordEach [] X.env))) := by rfl) :
    PE X (.Call (.Attribute o m apos) [] [] pos) (tMethI C m sp dvs E ta tNil) := by
  refine ⟨fun pins s σ H Q I h => ?_⟩
  refine PySem.W.methodCall_KW (pl := pl) (thn (he.run pins s σ H _ I h) fun u s1 ⟨x, H1, I1, rx, i, a, dx, fs, ex, ea, l, q⟩ => ?_) ht
  subst ex
  obtain rfl : u = Value.ref a := rx
  refine getmeth_ok I1 ea (c i) (hm i) l ?_
  exact PySem.W.callWith_K0 (first := [.ref a]) I1.kIn (hm i).kp (run_fn (us := [.ref a]) (vs := [.ref a]) (F i) hr (hb i) hd hx I1 (.cons rfl .nil) q)
end
section
variable {X : Cx} {K : PySem.W.Frag}
/-- len(s), s a set of tuples -/
def rLenSetT (K : PySem.W.Frag) (P : Program) (w : World) : List V → Hp → VK → Prop := fun xs H Q => ∃ a L, xs = [V.ref a] ∧ H a = some (SetTO P w a L) ∧ (∀ p ∈ L, SqT K H p.1 (p.2.map V.int)) ∧ ((L.map (·.2)).Nodup → Q (.int L.length) H)
theorem call_lenSetT : CallR X (.builtin "len") (rLenSetT X.K X.prog X.w) := by
  intro pins s σ H vs us Q I r h
  obtain ⟨a, L, rfl, ha, hk, q⟩ := h
  have R0 : SetT0 X.prog X.w s.heap a L := (I.hok a _ ha).1
  obtain ⟨es, ep, t, R⟩ := R0.full fun p hp => I.isT (hk p hp)
  rw [Vals.ref1 r]
  obtain ⟨o, ho, hex, hd⟩ := R.ob
  have hn := R.size
  have hf := R.few
  exact call_len_set ho hex hd R.fits (by omega) ⟨.int L.length, H, I.tok _, ⟨_, by rw [hn]⟩, q R.nd⟩
theorem lenSetTK {P : Program} {w : World} (hK : X.K = K) (hP : X.prog = P) (hw : X.w = w) : CallR X (.builtin "len") (rLenSetT K P w) := hK ▸ hP ▸ hw ▸ call_lenSetT
theorem setOfTK {P : Program} {w : World} (hK : X.K = K) (hP : X.prog = P) (hw : X.w = w) (hc : X.calm = true) (hu : X.A.units + 64 < cLine) : CallR X (.type "set") (rSetOfT K P w) := hK ▸ hP ▸ hw ▸ cr_setOfT hc hu
theorem sortedTK {P : Program} {w : World} (hK : X.K = K) (hP : X.prog = P) (hw : X.w = w) (hc : X.calm = true) : CallR X (.builtin "sorted") (rSortedT K P w) := hK ▸ hP ▸ hw ▸ cr_sortedT hc
theorem sortUK {d : Nat} {B : Int} (hK : X.K = K) (hd : 1 ≤ d) : CallR X (.builtin "sorted") (rSortU K d B) := hK ▸ cr_sortT hd
theorem inDK (hK : X.K = K) (hu : X.A.units + 65 < cLine) : OpR X (compareOp .In) (rInD K) := hK ▸ op_inD hu
theorem notInDK (hK : X.K = K) (hu : X.A.units + 65 < cLine) : OpR X (compareOp .NotIn) (rNotInD K) := hK ▸ op_notInD hu
end
end Wn
namespace Wn
open PySem L2
section
variable {X : Cx} {K : PySem.W.Frag}
theorem lenSetIK {a : Expr} {ta : TE} {p p2 q pos : Pos} (hK : X.K = K) (hc : X.calm = true) (hg : Gl X "len") (hm : X.mg "len" = none) (hg2 : Gl X "set") (hm2 : X.mg "set" = none) (ha : PE X a ta)
    (na : starEach [a] X.env = (false, eval a X.env) :: starEach [] X.env := by rfl) : PE X (.Call (.Name "len" p) [.Call (.Name "set" p2) [a] [] q] [] pos) (tLenSetI K ta) := hK ▸ pe_lenSetI hc hg hm hg2 hm2 ha na
end
end Wn

namespace Wn
open PySem PySem.Spec PyProof.Rows L2
section
variable {X : Cx} {e : Expr} {es : List Expr} {ta : TA} {p1 p2 pos : Pos} {CX : CXT} {k : Nat} {f : Addr} {fd : FuncData} {ps : List Str} {sp : Sp} {ds : List Value} {dvs : List V} {E : XK}
/-- C.m(x, ..), C an own class, m a def of it -/
theorem pe_clsfn {pl : Sem Bool} {x m : Str} {N : Addr} (hg : Gl X x) (hm : X.mg x = some (.ref N)) (hsp : PySem.W.specialIn X.K (.ref N) "__getattribute__" = some (some (.builtin "type.__getattribute__"))) (hrd : PySem.W.readsIn X.K N (.type "type") = true)
    (vV : PySem.W.findCls X.K (.ref N) (.type "type") m = some (.val (.ref f))) (hk : PySem.W.keepIn X.K (.ref f) = true) (F : FnOk X.prog X.w X.K X.mg X.base CX k f fd ps sp) (hr : Room k X.A) (hb : Binds X.K fd ps ds) (hd : Vals dvs ds) (hx : Passes CX X E) (ha : PA X (e :: es) ta)
    (hc : eval (.Call (.Attribute (.Name x p1) m p2) (e :: es) [] pos) X.env = (do
      let ov ← eval (.Name x p1) X.env
      standAt p2.atName
      let (f, first) ← holding [ov] (getMethod ov m pl)
      callWith pos f first (backTo pos (starEach (e :: es) X.env)) (backToKw pos (keywordEach [] X.env))) := by rfl)
    (hdb : (x == ("__debug__" : Str)) = false := by decide)
    (he : starEach (e :: es) X.env = (false, eval e X.env) :: starEach es X.env := by rfl) (hpl : (backTo pos (starEach es X.env)).any (·.1) = false := by rfl) :
    PE X (.Call (.Attribute (.Name x p1) m p2) (e :: es) [] pos) (tCall sp dvs E ta) := by
  refine ⟨fun pins s σ H Q I h => ?_⟩
  refine PySem.W.methodCall_KW (ld_glob I hg hm ?_ hdb) hc
  refine PySem.W.method_cls I.kIn hsp (PySem.W.cls_value I.kIn hrd vV rfl ?_)
  refine PySem.W.callWith_K (first := []) (h₀ := X.base) I.ok.mod.kin hk (thn (ha.run pos pins _ σ H _ (I.tok _) h) fun us s2 ⟨vs, H2, I2, r, q⟩ => ⟨I2.kIn, ?_⟩) he hpl
  exact run_fn F hr hb hd hx I2 r q
end
end Wn

namespace L2
open PySem PySem.Spec PyProof.Rows
/-! ### f(..) where f is any expression that gives one of some defs -/
def tCallE (S : Addr → Sp → Prop) (tf : TE) (t : TA) : TE := fun σ H Q => tf σ H fun x H1 => ∃ f sp, x = .ref f ∧ S f sp ∧ t σ H1 fun vs H2 => sp vs H2 Q (fun _ _ _ => False)
section
variable {X : Cx} {k : Nat} {fe e : Expr} {es : List Expr} {tf : TE} {t : TA} {pos : Pos}
theorem pe_callE {S : Addr → Sp → Prop} (A : ∀ f sp, S f sp → Held X.prog X.w X.K X.mg X.base k f sp) (hr : Room k X.A) (hf : PE X fe tf) (ha : PA X (e :: es) t)
    (heq : eval (.Call fe (e :: es) [] pos) X.env = (do
      let f ← eval fe X.env
      callWith pos f [] (backTo pos (starEach (e :: es) X.env)) (backToKw pos (keywordEach [] X.env))) := by rfl)
    (he : starEach (e :: es) X.env = (false, eval e X.env) :: starEach es X.env := by rfl) (hpl : (backTo pos (starEach es X.env)).any (·.1) = false := by rfl) : PE X (.Call fe (e :: es) [] pos) (tCallE S tf t) := by
  refine ⟨fun pins s σ H Q I h => ?_⟩
  rw [heq]
  refine wpAny_bind (thn (hf.run pins s σ H _ I h) fun u s1 ⟨x, H1, I1, rx, f, sp, ex, hS, ht⟩ => ?_)
  subst ex
  obtain rfl : u = Value.ref f := rx
  obtain ⟨fd, ps, F, hk, hb⟩ := (A f sp hS).ex
  refine PySem.W.callWith_K (h₀ := X.base) I1.ok.mod.kin hk (thn (ha.run pos pins s1 σ _ _ I1 ht) fun us s2 ⟨vs, H2, I2, r, q⟩ => ⟨I2.kIn, ?_⟩) he hpl
  have e0 : vs ++ ([] : List V) = vs := List.append_nil vs
  have e1 : us ++ ([] : List Value) = us := List.append_nil us
  refine run_fn (dvs := []) (ds := []) (E := fun _ _ _ => False) F hr hb .nil (fun _ _ _ _ _ _ _ z => z.elim) I2 r ?_
  rw [e0]
  exact q
end
end L2

namespace L2
open PySem PySem.Spec PyProof.Rows
/-! ### for k, v in d.items(): a dict with tuple keys, locked -/
def Itit (d : Addr) (o : Obj) (kvs : List (List Key × V)) : It :=
  ⟨fun i H => H d = some (.frz o (.dT kvs)) ∧ i < kvs.length, fun i H x H' => ∃ T k v q, kvs[i]? = some (k, v) ∧ x = .ref T ∧ H T = none ∧ H q = some (.tup (k.map kV)) ∧ H' = upd H T (.tup [.ref q, v]), fun i H => H d = some (.frz o (.dT kvs)) ∧ kvs.length ≤ i⟩
section
variable {X : Cx} {pins : List (Addr × Obj)} {σ : St} {H : Hp} {s : Shared} {d : Addr} {o : Obj}
theorem Inv.frzTV {kvs : List (List Key × V)} (I : Inv X pins σ H s) (h : H d = some (.frz o (.dT kvs))) :
    (d == sysModules) = false ∧ s.heap.get? d = some o ∧ o.ExactDict ∧ ∃ (es : Array DictEntry) (ep : Nat), o.data = .dict es ep ∧ es.size = kvs.length ∧
      ∀ (i : Nat) (k : List Key) (v : V), kvs[i]? = some (k, v) → ∃ (en : DictEntry) (q : Addr), es[i]? = some en ∧ en.key = .ref q ∧ H q = some (.tup (k.map kV)) ∧ RelV v en.val := by
  obtain ⟨hd, z, hs, xs, pr, o', es, ep, ho, hx, hdt, he, _⟩ := I.hok d _ h
  rw [hd] at ho
  cases ho
  refine ⟨hs, hd, hx, es, ep, hdt, ?_, fun i k v e => ?_⟩
  · have l1 : es.size = xs.length := size_of_entries he
    have l2 : kvs.length = xs.length := Paired.length pr
    omega
  · obtain ⟨b, hb, e1, e2, e3⟩ := paired_get pr e
    have q := entry_at he i
    rw [hb] at q
    exact ⟨_, b.2.1, q, rfl, e2, e3⟩
end
section
variable {P : Program} {w : World} {K : PySem.W.Frag} {tg : Expr} {d : Addr} {o : Obj} {es : Array DictEntry} {ep : Nat}
theorem turn_itemsT {kvs : List (List Key × V)} {elts : List Expr} {kk : Nat} {tpos : Pos} (it : Addr) (hod : o.data = .dict es ep) :
    Turn P w K (.Tuple elts kk tpos) (Itit d o kvs) [it] it (fun i h => ∃ ok ov, IsItemIter h it d i kvs.length ep ok ov) where
  mem := by simp
  obj := fun i h st b hb => by
    have e : b = it := by simpa using hb
    subst e
    obtain ⟨ok, ov, e⟩ := st
    exact ⟨_, e, fun v z => nomatch z⟩
  keep := fun i h h' st k => let ⟨ok, ov, e⟩ := st; ⟨ok, ov, k it (by simp) _ e⟩
  item := by
    intro X hP hw hK hc i pins s σ H E I hf st hg
    subst hP hw hK
    obtain ⟨hd, hi⟩ := hg
    obtain ⟨hs, hgd, hx, es', ep', hdt, hsz, ent⟩ := I.frzTV hd
    obtain ⟨rfl, rfl⟩ := dict_ep hod hdt
    obtain ⟨⟨k, v⟩, hkv⟩ : ∃ p, kvs[i]? = some p := ⟨kvs[i], List.getElem?_eq_getElem hi⟩
    obtain ⟨en, q, hen, hkey, hq, rv⟩ := ent i k v hkv
    obtain ⟨ok, ov, he⟩ := st
    rw [← hsz] at he
    have hlt : it < s.heap.objs.size := Heap.lt_size he
    have hi' : i < es'.size := by omega
    have een : es'[i] = en := by
      rw [Array.getElem?_eq_getElem hi'] at hen
      exact Option.some.inj hen
    refine DT.nextI he ⟨o, hgd, hx, hdt⟩ hi' fun h' ho hT hz hk => ?_
    rw [een] at ho hT
    refine ⟨_, rfl, wpAny_letOwnedTupleGo_items (s := { s with heap := h' }) ho fun h'' he' sb => ?_⟩
    have hT2 : h''.get? s.heap.objs.size = some { cls := .type "tuple", data := .seq #[en.key, en.val] } := (sb.2 _ (Nat.ne_of_gt hlt)).trans hT
    have new : ObjOk X.prog X.w (upd H s.heap.objs.size (.tup [.ref q, v])) h'' s.heap.objs.size (.tup [.ref q, v]) :=
      ⟨by show 2 ≤ sizeLine; decide, [en.key, en.val], .cons (by rw [hkey]; rfl) (.cons rv .nil), ⟨_, hT2, rfl, _, rfl⟩⟩
    have I1 : Inv X pins σ (upd H s.heap.objs.size (.tup [.ref q, v])) { s with heap := h'' } :=
      I.turnedNew (t' := s.toks) (ch := [it]) (fun b ob hb e => (sb.2 b (by simpa using hb)).trans (hk b ob (by simpa using hb) e)) hf (Nat.le_refl _) new
    refine ⟨.ref s.heap.objs.size, _, I1, rfl, ⟨_, k, v, q, hkv, rfl, I.hok.fresh (Nat.le_refl _), hq, rfl⟩, ⟨en.key, en.val, ?_⟩, fun b hb => ?_⟩
    · rw [← hsz]; exact he'
    · have e : b = it := by simpa using hb
      rw [e, upd_ne (Nat.ne_of_lt hlt)]
      exact (hf it (by simp)).1
  done := by
    intro X hP hw hK hc i pins s σ H E I hf st hg
    subst hP hw hK
    obtain ⟨hd, hi⟩ := hg
    obtain ⟨f0, f1, f2, f3, f4, f5⟩ := hf it (by simp)
    obtain ⟨hs, hgd, hx, es', ep', hdt, hsz, ent⟩ := I.frzTV hd
    obtain ⟨rfl, rfl⟩ := dict_ep hod hdt
    obtain ⟨ok, ov, he⟩ := st
    rw [← hsz] at he
    exact DT.endI (I.ok.hd hc) he ⟨o, hgd, hx, hdt⟩ (by omega) fun h' eb => ⟨rfl, I.turned (t' := s.toks) (fun b ob hb e => eb b ob hb e) f0 f1 f3 f4 f5⟩
  self := fun A i s Q E st h => let ⟨_, _, e⟩ := st; PySem.W.kcp_self e h
end
def iItemsT (td : TE) : TI := fun σ H R => td σ H fun x H1 => ∃ d o kvs, x = .ref d ∧ H1 d = some (.frz o (.dT kvs)) ∧ R (Itit d o kvs) H1
section
variable {X : Cx} {e : Expr} {td : TE} {apos cpos : Pos}
theorem pi_itemsT {elts : List Expr} {kk : Nat} {tpos : Pos} (he : PE X e td) (hbase : attributeBase e "items" X.env (eval e X.env) = eval e X.env := by rfl) (hline : (apos.endLine == cpos.line) = true := by rfl) :
    PI X (.Tuple elts kk tpos) (.Call (.Attribute e "items" apos) [] [] cpos) (iItemsT td) := by
  refine ⟨fun pins s σ H R I h => ?_⟩
  refine wpAny_Call_method (T := "dict") (id := "dict.items") hbase rfl hline F.plainAttrs_dict F.slot_dict_items F.type_dict_items (thn (he.run pins s σ H _ I h) fun u s1 ⟨x, H1, I1, rx, d, o, kvs, ex, hd, q⟩ => ?_)
  subst ex
  obtain rfl : u = Value.ref d := rx
  obtain ⟨hs, hgd, hx, es, ep, hdt, hsz, ent⟩ := I1.frzTV hd
  have hm : DT.Raw s1.heap d es ep := ⟨o, hgd, hx, hdt⟩
  refine ⟨hm.typeIs, fun a ea => by cases ea; exact ⟨o, hgd, hx.2.1⟩, ?_⟩
  have I2 : Inv X pins σ H1 { s1 with heap := s1.heap.push { cls := .type "dict_items", data := .fields #[.ref d] } } := I1.kept (t' := s1.toks) fun b ob q => Heap.get?_push_of_some _ q
  have fin : wpAny (model X.prog X.w) X.A (pyIter (.ref s1.heap.objs.size)) (PIE X pins σ (.Tuple elts kk tpos) R) X.xe { s1 with heap := s1.heap.push { cls := .type "dict_items", data := .fields #[.ref d] } } := by
    refine DT.iterI (d := d) ⟨_, Heap.get?_push_size _ rfl, rfl, rfl⟩ (hm.push _) (pi_one (tk := s1.toks) I2 _ (turn_itemsT _ hdt) ⟨.none, .none, ?_⟩ q)
    rw [← hsz]
    exact Heap.get?_push_size _ rfl
  show wpAny _ _ (callWith cpos (.builtin "dict.items") [.ref d] [] []) _ X.xe s1
  exact method_meetsIn F.slot_dict_items F.entry_dict_items rfl (PySem.evalArgs_none ⟨rfl, hm.typeIs, F.args_dict_items_1 _, _, DT.meetsItems (es := es) (ep := ep) hs, hm, fin⟩)
end
theorem walk_itemsT {d : Addr} {o : Obj} {kvs : List (List Key × V)} : Walk (Itit d o kvs) kvs.length (fun H => H d = some (.frz o (.dT kvs))) (fun i H x H' => ∃ T k v q, kvs[i]? = some (k, v) ∧ x = .ref T ∧ H T = none ∧ H q = some (.tup (k.map kV)) ∧ H' = upd H T (.tup [.ref q, v])) :=
  ⟨fun _ _ hi q => ⟨q, hi⟩, fun _ q => ⟨q, Nat.le_refl _⟩, fun _ _ _ _ _ _ y => y⟩
end L2

namespace Wn
open PySem L2
def top (i : Nat) : Stmt := PySem.Challenge.pw_wrapnets_k62_papers_or_not.main.body.getD i (.Pass ⟨0, 0, 0, 0⟩)
end Wn

namespace Wn
open PySem L2
/-! ### a comprehension within a comprehension: what it goes over -/
theorem piT {X : Cx} {K : PySem.W.Frag} {tg l : Expr} {tl : TE} (hK : X.K = K) (hl : PE X l tl) : PI X tg l (iTup K tl) := hK ▸ pi_tup hl
theorem piL {X : Cx} {K : PySem.W.Frag} {tg l : Expr} {tl : TE} (hK : X.K = K) (hl : PE X l tl) : PI X tg l (iList K tl) := hK ▸ pi_list hl
end Wn

namespace Wn
open PySem L2 PySem.Spec PyProof.Rows
section
variable {X : Cx} {K : PySem.W.Frag}
theorem slA (hK : X.K = K) : SlR X (rSlA K) := hK ▸ sl_tupA
theorem opCatA (hK : X.K = K) : OpR X (binaryOp .Add) (rCatA K) := hK ▸ op_catA
/-- x in a tuple of data -/
def rInDT (K : PySem.W.Frag) : R2 := fun x y H Q => ∃ d ds, Dp K H x d ∧ Dp K H y (.tuple ds) ∧ SeqAt.shaped d = true ∧ SeqAt.shaped (.tuple ds) = true ∧ Q (.bl (ds.any fun z => PyData.eqv z d)) H
def rNotInDT (K : PySem.W.Frag) : R2 := fun x y H Q => ∃ d ds, Dp K H x d ∧ Dp K H y (.tuple ds) ∧ SeqAt.shaped d = true ∧ SeqAt.shaped (.tuple ds) = true ∧ Q (.bl (!ds.any fun z => PyData.eqv z d)) H
theorem room_inT {A : Around} {d : PyData} {xs : List PyData} (h : SeqAt.shaped d = true) (hu : A.units + 65 < cLine) : A.units + 1 + min (PyData.depthAll xs) d.depth < cLine := by
  have h1 := SeqAt.depth_of_shaped h
  have h2 : min (PyData.depthAll xs) d.depth ≤ d.depth := Nat.min_le_right _ _
  omega
theorem op_inDT (hu : X.A.units + 65 < cLine) : OpR X (compareOp .In) (rInDT X.K) := by
  intro pins s σ H x y v u Q I rx ry h
  obtain ⟨d, ds, hd, he, sd, se, q⟩ := h
  obtain ⟨as, r1⟩ := Dp.reads I d x v hd rx
  obtain ⟨bs, r2⟩ := Dp.reads I (.tuple ds) y u he ry
  exact SeqAt.in_tuple_reads r2 r1 (SeqAt.canLay_of_shaped se) (SeqAt.canLay_of_shaped sd) (room_inT sd hu) ⟨.bl _, H, I, rfl, q⟩
theorem op_notInDT (hu : X.A.units + 65 < cLine) : OpR X (compareOp .NotIn) (rNotInDT X.K) := by
  intro pins s σ H x y v u Q I rx ry h
  obtain ⟨d, ds, hd, he, sd, se, q⟩ := h
  obtain ⟨as, r1⟩ := Dp.reads I d x v hd rx
  obtain ⟨bs, r2⟩ := Dp.reads I (.tuple ds) y u he ry
  exact SeqAt.notIn_tuple_reads r2 r1 (SeqAt.canLay_of_shaped se) (SeqAt.canLay_of_shaped sd) (room_inT sd hu) ⟨.bl _, H, I, rfl, q⟩
theorem inDTK (hK : X.K = K) (hu : X.A.units + 65 < cLine) : OpR X (compareOp .In) (rInDT K) := hK ▸ op_inDT hu
theorem notInDTK (hK : X.K = K) (hu : X.A.units + 65 < cLine) : OpR X (compareOp .NotIn) (rNotInDT K) := hK ▸ op_notInDT hu
theorem room65 {k : Nat} {A : Around} (r : Room k A) : A.units + 65 < cLine := by have := r.un; omega
end
end Wn

namespace Wn
open PySem L2 PySem.Spec PyProof.Rows HT
/-! ### t[::-1], t[i::-1] of a tuple -/
def revLen (n : Nat) : Option Int → Nat
  | none => n
  | some v => ((if v < 0 then max (v + (n : Int)) (-1) else min v ((n : Int) - 1)) + 1).toNat
theorem revLen_le (n : Nat) (lo : Option Int) : revLen n lo ≤ n := by
  cases lo with
  | none => exact Nat.le_refl _
  | some v =>
    show ((if v < 0 then max (v + (n : Int)) (-1) else min v ((n : Int) - 1)) + 1).toNat ≤ n
    split <;> omega
theorem fm_congr {α β : Type} {f g : α → Option β} : ∀ {l : List α}, (∀ x ∈ l, f x = g x) → l.filterMap f = l.filterMap g
  | [], _ => rfl
  | x :: l, h => by
    rw [List.filterMap_cons, List.filterMap_cons, h x List.mem_cons_self, fm_congr fun y hy => h y (List.mem_cons_of_mem _ hy)]
section
variable {prog : Program} {w : World} {A : Around} {E : Value → Shared → Prop} {s : Shared}
theorem rev_adjust (lo : Option Int) (n : Nat) : Builtin.Slice.sliceAdjust lo none (-1) (n : Int) = (((revLen n lo : Nat) : Int) - 1, -1) := by
  have h1 : ((-1 : Int) < 0) := by omega
  unfold Builtin.Slice.sliceAdjust
  simp only [h1, if_true]
  refine Prod.ext ?_ rfl
  cases lo with
  | none => rfl
  | some v =>
    show (if v < 0 then max (v + (n : Int)) (-1) else min v ((n : Int) - 1)) = (((((if v < 0 then max (v + (n : Int)) (-1) else min v ((n : Int) - 1)) + 1).toNat : Nat) : Int)) - 1
    split <;> omega
theorem rev_places (k : Nat) : Builtin.Slice.slicePlaces ((k : Int) - 1) (-1) (-1) = k := by
  unfold Builtin.Slice.slicePlaces
  have h1 : ¬ ((-1 : Int) > 0) := by omega
  rw [if_neg h1, show (- -1 : Int) = 1 by decide]
  simp only [Int.ediv_one]
  split <;> omega
theorem rev_applied {sl : Addr} {vl vs : Value} {lo : Option Int} {n : Nat} {Q : Int × Int × Nat → Shared → Prop} (hs : s.heap.IsSliceOf sl vl .none vs) (pl : IsPart vl lo) (ps : IsPart vs (some (-1)))
    (h : Q (((revLen n lo : Nat) : Int) - 1, -1, revLen n lo) s) : wpAny (model prog w) A (Builtin.Slice.sliceApplied (.ref sl) (pure (n : Int))) Q E s := by
  obtain ⟨os, hos, hcs, hds⟩ := id hs
  unfold Builtin.Slice.sliceApplied Builtin.Slice.sliceFields
  refine wpAny_bind (wpAny_bind (wpAny_field hos hds (x := vl) rfl (wpAny_bind (wpAny_field hos hds (x := .none) rfl (wpAny_bind (wpAny_field hos hds (x := vs) rfl (wpAny_pure ?_)))))))
  refine wpAny_bind (slicePart_ ps ?_)
  show wpAny _ _ (if ((-1 : Int) == 0) = true then _ else _) _ _ s
  rw [if_neg (by decide)]
  refine wpAny_bind (slicePart_ pl (wpAny_bind (slicePart_ .none (wpAny_bind (wpAny_pure ?_)))))
  show wpAny _ _ (match Builtin.Slice.sliceAdjust lo none (-1) (n : Int) with | (lo, hi) => pure (lo, (-1 : Int), Builtin.Slice.slicePlaces lo hi (-1))) _ _ s
  rw [rev_adjust lo n]
  show wpAny _ _ (pure (((revLen n lo : Nat) : Int) - 1, (-1 : Int), Builtin.Slice.slicePlaces (((revLen n lo : Nat) : Int) - 1) (-1) (-1))) _ _ s
  rw [rev_places]
  exact wpAny_pure h
theorem rev_pick (xs : Array Value) (k : Nat) (hk : k ≤ xs.size) : ((List.range k).filterMap fun (m : Nat) => xs[(((k : Int) - 1) + (m : Int) * (-1)).toNat]?).toArray = (xs.toList.take k).reverse.toArray := by
  congr 1
  have e : (List.range k).filterMap (fun (m : Nat) => xs[(((k : Int) - 1) + (m : Int) * (-1)).toNat]?) = ((List.range k).map fun m => k - 1 - m).filterMap (xs[·]?) := by
    rw [List.filterMap_map]
    refine fm_congr fun m hm => ?_
    have hm := List.mem_range.mp hm
    show xs[_]? = xs[k - 1 - m]?
    congr 1
    omega
  rw [e, PySem.W.krv_range, List.filterMap_reverse]
  congr 1
  have := pick_run xs 0 k
  rw [List.filterMap_map] at this
  have e2 : ((fun x => xs[x]?) ∘ fun x => 0 + x) = fun m => xs[m]? := by
    funext m
    show xs[0 + m]? = xs[m]?
    rw [Nat.zero_add]
  rw [e2, List.drop_zero] at this
  exact this
theorem getItem_tuple_rev {t sl : Addr} {items : Array Value} {vl vs : Value} {lo : Option Int} {Q : Value → Shared → Prop} (ht : IsTup s.heap t items) (hs : s.heap.IsSliceOf sl vl .none vs) (pl : IsPart vl lo) (ps : IsPart vs (some (-1)))
    (h : Q (.ref s.heap.objs.size) { s with heap := s.heap.push { cls := .type "tuple", data := .seq (items.toList.take (revLen items.size lo)).reverse.toArray } })
    (hsz : items.size ≤ sizeLine) : wpAny (model prog w) A (getItem (.ref t) (.ref sl)) Q E s := by
  have hk := revLen_le items.size lo
  have htake : sizeOk (.seq (items.toList.take (revLen items.size lo)).reverse.toArray) := by
    show (items.toList.take (revLen items.size lo)).reverse.toArray.size ≤ sizeLine
    rw [List.size_toArray, List.length_reverse, List.length_take, Array.length_toList]
    omega
  obtain ⟨os, hos, hcs, hds⟩ := id hs
  have hTs : s.TypeIs (.ref sl) "slice" := ⟨os, hos, hcs⟩
  unfold getItem
  try with_reducible refine wpAny_holding ?_
  first | refine wpAny_bind (wpAny_pure ?_) | skip
  refine wpAny_bind (wpAny_sequenceKey ht.typeIs (by decide) ?_)
  refine wpAny_bind (wpAny_callSpecial?_slot (name := Str.ofString "__getitem__") ht.typeIs PyProof.Rows.slot_tuple_getitem
    (wpAny_call_entry PyProof.Rows.slot_tuple_getitem ht.typeIs entry_tuple_getitem ?_ (args_tuple_getitem _ _)))
  show wpAny _ _ (Builtin.Tuple.tupleItemsOf (.ref t) >>= _) _ _ s
  refine wpAny_bind (tupleItemsOf_ ht ?_)
  refine wpAny_bind (wpAny_typeOf hTs ?_)
  rw [if_pos (by decide)]
  refine wpAny_bind (rev_applied hs pl ps ?_)
  have hno : ¬ (((((revLen items.size lo : Nat) : Int) - 1) == 0 && (-1 : Int) == 1 && (revLen items.size lo) == items.size) = true) := by
    rw [show ((-1 : Int) == 1) = false by decide, Bool.and_false, Bool.false_and]
    exact Bool.false_ne_true
  show wpAny _ _ (if ((((revLen items.size lo : Nat) : Int) - 1) == 0 && (-1 : Int) == 1 && (revLen items.size lo) == items.size) = true then _ else _) _ _ s
  rw [if_neg hno, rev_pick _ _ hk]
  first
    | exact wpAny_bind (m := Builtin.Tuple.tupleExact _) (wpAny_newObj_type (wpAny_pure ⟨_, rfl, wpAny_pure h⟩) htake)
    | exact wpAny_bind (m := Builtin.Tuple.tupleExact _) (wpAny_newObj_type (wpAny_bind (wpAny_pure (wpAny_pure ⟨_, rfl, wpAny_pure h⟩))) htake)
    | exact wpAny_bind (wpAny_bind (m := Builtin.Tuple.tupleExact _) (wpAny_newObj_type (wpAny_pure (wpAny_pure ⟨_, rfl, wpAny_pure h⟩)) htake))
    | exact wpAny_bind (wpAny_bind (m := Builtin.Tuple.tupleExact _) (wpAny_newObj_type (wpAny_pure ⟨_, rfl, wpAny_pure h⟩) htake))
end
section
variable {X : Cx} {K : PySem.W.Frag}
def tRevT (K : PySem.W.Frag) (te : TE) (tl : TO) : TE := fun σ H Q => te σ H fun x H1 => tl σ H1 fun lo H2 => ∃ a xs, x = .ref a ∧ SqT K H2 a xs ∧ ∀ p, H2 p = none → Q (.ref p) (upd H2 p (.tup (xs.take (revLen xs.length lo)).reverse))
theorem pe_revT {e : Expr} {lo : Option Expr} {te : TE} {tl : TO} {k : Nat} {p1 p2 p3 pos : Pos} (hK : X.K = K) (he : PE X e te) (hl : PO X lo tl) : PE X (.Subscript e (.Slice lo none (some (.UnaryOp .USub (.Constant (.int 1) k p1) p2)) p3) pos) (tRevT K te tl) := by
  subst hK
  refine ⟨fun pins s σ H Q I h => ?_⟩
  refine Subscript_ (thn (he.run pins s σ H _ I h) fun v s1 ⟨x, H1, I1, r1, q1⟩ => ?_)
  have hst : PO X (some (.UnaryOp .USub (.Constant (.int 1) k p1) p2)) (tPart (tUn (rU fun i => .int (-i)) (tC (.int 1)))) := po_some (pe_un un_neg pe_int)
  refine wpAny_Slice (thn (hl.run pins s1 σ H1 _ I1 q1) fun vl s2 ⟨l, H2, I2, pl, q2⟩ => ?_)
  obtain ⟨a, xs, ex, hx, q⟩ := q2
  subst ex
  cases r1
  refine thn (po_none.run pins s2 σ H2 (fun o H3 => o = none ∧ H3 = H2) I2 ⟨rfl, rfl⟩) fun vu s3 ⟨u, H3, I3, pu, eu, e3⟩ => ?_
  subst eu e3
  refine thn (hst.run pins s3 σ H3 (fun o H4 => o = some (-1) ∧ H4 = H3) I3 ⟨1, rfl, -1, rfl, rfl, rfl⟩) fun vs s4 ⟨o, H4, I4, ps, eo, e4⟩ => ?_
  subst eo e4
  cases pu
  have I5 : Inv X pins σ H4 { s4 with heap := s4.heap.push { cls := .type "slice", data := .fields #[vl, .none, vs] } } := I4.kept (t' := s4.toks) fun b ob q => Heap.get?_push_of_some _ q
  obtain ⟨its, r, ht, hz⟩ := I5.tuple hx
  have hlen : its.toArray.size = xs.length := by rw [List.size_toArray]; exact r.length.symm
  show wpAny (model X.prog X.w) X.A (subscriptTail e (.Slice lo none (some (.UnaryOp .USub (.Constant (.int 1) k p1) p2)) p3) (.ref a) (.ref s4.heap.objs.size)) (EP X pins σ Q) X.xe { s4 with heap := s4.heap.push { cls := .type "slice", data := .fields #[vl, .none, vs] } }
  refine tail_any (ops := [.ref a, .ref s4.heap.objs.size]) ht.typeIs (PyProof.Rows.slot_tuple_getitem.lookup) ?_ (by with_unfolding_all rfl)
  refine getItem_tuple_rev ht (Heap.IsSliceOf.new _ vl .none vs) pl ps ?_ (by rw [hlen]; exact hz)
  rw [hlen]
  refine ⟨.ref _, _, I5.laid (t' := s4.toks) (o := .tup (xs.take (revLen xs.length l)).reverse) (fun b ob q => Heap.get?_push_of_some _ q) (Nat.le_refl _) ?_, rfl, q _ (I5.hok.fresh (Nat.le_refl _))⟩
  refine ⟨by rw [List.length_reverse, List.length_take]; omega, _, ?_, IsTup.new _ _⟩
  have := r.take (revLen xs.length l)
  exact this.reverse
end
end Wn

namespace Wn
open PySem L2
/-! ### slices and sums of tuples, whatever they are -/
theorem SqT.sm {K : PySem.W.Frag} {H H' : Hp} {a : Addr} {xs : List V} (h : SqT K H a xs) (e : Same H H') : SqT K H' a xs := SqT.tk h (TK.of e)
section
variable {α : Type}
def cutL (xs : List α) (lo hi : Option Int) : List α := (xs.drop (HT.sIx xs.length 0 lo)).take (HT.sIx xs.length xs.length hi - HT.sIx xs.length 0 lo)
theorem cutL_all (xs : List α) : cutL xs none none = xs := by
  unfold cutL
  rw [HT.sIx_none, HT.sIx_none, List.drop_zero, Nat.sub_zero, List.take_length]
theorem cutL_to (xs : List α) (k : Nat) : cutL xs none (some (k : Int)) = xs.take k := by
  unfold cutL
  rw [HT.sIx_nat, HT.sIx_none, List.drop_zero, Nat.sub_zero]
  by_cases hk : k ≤ xs.length
  · rw [Nat.min_eq_left hk]
  · rw [Nat.min_eq_right (by omega), List.take_of_length_le (Nat.le_refl _), List.take_of_length_le (by omega)]
theorem cutL_from (xs : List α) (k : Nat) : cutL xs (some (k : Int)) none = xs.drop k := by
  unfold cutL
  rw [HT.sIx_nat, HT.sIx_none]
  by_cases hk : k ≤ xs.length
  · rw [Nat.min_eq_left hk, List.take_of_length_le (by rw [List.length_drop]; exact Nat.le_refl _)]
  · rw [Nat.min_eq_right (by omega), List.drop_of_length_le (Nat.le_refl _), List.drop_of_length_le (by omega), List.take_nil]
theorem cutL_mid (xs : List α) (a b : Nat) : cutL xs (some (a : Int)) (some (b : Int)) = (xs.drop a).take (b - a) := by
  unfold cutL
  rw [HT.sIx_nat, HT.sIx_nat]
  by_cases h : a ≤ xs.length
  · rw [Nat.min_eq_left h]
    by_cases h2 : b ≤ xs.length
    · rw [Nat.min_eq_left h2]
    · rw [Nat.min_eq_right (by omega), List.take_of_length_le (by rw [List.length_drop]; exact Nat.le_refl _), List.take_of_length_le (by rw [List.length_drop]; omega)]
  · rw [show min a xs.length = xs.length by omega, List.drop_of_length_le (Nat.le_refl _), List.drop_of_length_le (show xs.length ≤ a by omega), List.take_nil, List.take_nil]
theorem cutL_butlast (xs : List α) : cutL xs none (some (-1)) = xs.dropLast := by
  unfold cutL
  have e : HT.sIx xs.length xs.length (some (-1)) = xs.length - 1 := by
    unfold HT.sIx
    dsimp only
    rw [if_pos (show (-1 : Int) < 0 by decide)]
    omega
  rw [e, HT.sIx_none, List.drop_zero, Nat.sub_zero, List.dropLast_eq_take]
theorem cutL_last (xs : List α) : cutL xs (some (-1)) none = xs.drop (xs.length - 1) := by
  unfold cutL
  have e : HT.sIx xs.length 0 (some (-1)) = xs.length - 1 := by
    unfold HT.sIx
    dsimp only
    rw [if_pos (show (-1 : Int) < 0 by decide)]
    omega
  rw [e, HT.sIx_none, List.take_of_length_le (by rw [List.length_drop]; exact Nat.le_refl _)]
theorem cutL_map {β : Type} (f : α → β) (xs : List α) (lo hi : Option Int) : cutL (xs.map f) lo hi = (cutL xs lo hi).map f := by
  unfold cutL
  rw [List.length_map, List.map_take, List.map_drop]
theorem cutL_mem {xs : List α} {lo hi : Option Int} {x : α} (h : x ∈ cutL xs lo hi) : x ∈ xs := List.mem_of_mem_drop (List.mem_of_mem_take h)
theorem cutL_len (xs : List α) (lo hi : Option Int) : (cutL xs lo hi).length ≤ xs.length := by
  unfold cutL
  rw [List.length_take, List.length_drop]
  omega
end
theorem cutV_L (xs : List V) (lo hi : Option Int) : cutV xs lo hi = cutL xs lo hi := rfl
section
variable {K : PySem.W.Frag} {H H' : Hp} {a b : Addr} {xs ys : List V} {ds es : List PyData} {lo hi : Option Int} {Q : VK}
theorem slA_sq (h : SqT K H a xs) (q : ∀ (H' : Hp) (x : Addr), Same H H' → SqT K H' x (cutL xs lo hi) → Q (.ref x) H') : rSlA K (.ref a) lo hi H Q := by
  refine ⟨a, xs, rfl, h, fun hw => ?_, fun hw p hp => ?_⟩
  · refine q H a (L2.Same.refl _) ?_
    have e : cutL xs lo hi = xs := by
      unfold cutL
      rw [hw.1, hw.2, List.drop_zero, Nat.sub_zero, List.take_length]
    rw [e]
    exact h
  · exact q _ p ((L2.Same.refl _).new hp) (SqT.of upd_same)
theorem catA_sq (ha : SqT K H a xs) (hb : SqT K H b ys) (hl : xs.length + ys.length ≤ 1000000) (q : ∀ (H' : Hp) (x : Addr), Same H H' → SqT K H' x (xs ++ ys) → Q (.ref x) H') : rCatA K (.ref a) (.ref b) H Q := by
  refine ⟨a, b, xs, ys, rfl, rfl, ha, hb, Nat.le_trans hl (by decide), fun e => ?_, fun _ e => ?_, fun _ _ p hp => ?_⟩
  · subst e
    exact q H b (L2.Same.refl _) hb
  · subst e
    exact q H a (L2.Same.refl _) (by rw [List.append_nil]; exact ha)
  · exact q _ p ((L2.Same.refl _).new hp) (SqT.of upd_same)
/-- a tuple of data -/
def TupAt (K : PySem.W.Frag) (H : Hp) (a : Addr) (ds : List PyData) : Prop := Rp K H (.tuple ds) (.ref a)
theorem TupAt.inv (h : TupAt K H a ds) : ∃ xs, SqT K H a xs ∧ RpL K H ds xs := by
  unfold TupAt Rp at h
  obtain ⟨b, xs, e, h1, h2⟩ := h
  cases e
  exact ⟨xs, h1, h2⟩
theorem TupAt.sm (h : TupAt K H a ds) (s : Same H H') : TupAt K H' a ds := Rp.tk (TK.of s) _ _ h
theorem TupAt.tk (h : TupAt K H a ds) (s : TK H H') : TupAt K H' a ds := Rp.tk s _ _ h
theorem RpL.cut (h : RpL K H ds xs) : RpL K H (cutL ds lo hi) (cutL xs lo hi) := by
  unfold cutL
  rw [RpL.len _ _ h]
  exact RpL.take _ (RpL.drop _ h)
theorem slA_tup (h : TupAt K H a ds) (q : ∀ (H' : Hp) (x : Addr), Same H H' → TupAt K H' x (cutL ds lo hi) → Q (.ref x) H') : rSlA K (.ref a) lo hi H Q := by
  obtain ⟨xs, hx, rx⟩ := h.inv
  exact slA_sq hx fun H' x s h' => q H' x s (Rp.tupS h' (RpL.tk (TK.of s) _ _ rx.cut))
theorem catA_tup (ha : TupAt K H a ds) (hb : TupAt K H b es) (hl : ds.length + es.length ≤ 1000000) (q : ∀ (H' : Hp) (x : Addr), Same H H' → TupAt K H' x (ds ++ es) → Q (.ref x) H') : rCatA K (.ref a) (.ref b) H Q := by
  obtain ⟨xs, hx, rx⟩ := ha.inv
  obtain ⟨ys, hy, ry⟩ := hb.inv
  refine catA_sq hx hy (by rw [RpL.len _ _ rx, RpL.len _ _ ry]; exact hl) fun H' x s h' => q H' x s (Rp.tupS h' (RpL.tk (TK.of s) _ _ (RpL.app rx ry)))
/-! ### the same of things of any kind -/
theorem DpAll.app : ∀ {xs ys : List V} {ds es : List PyData}, DpAll K H xs ds → DpAll K H ys es → DpAll K H (xs ++ ys) (ds ++ es)
  | _, _, _, _, .nil, h => h
  | _, _, _, _, .cons h1 h2, h => .cons h1 (DpAll.app h2 h)
theorem DpAll.take : ∀ (k : Nat) {xs : List V} {ds : List PyData}, DpAll K H xs ds → DpAll K H (xs.take k) (ds.take k)
  | 0, _, _, _ => .nil
  | k + 1, _, _, .nil => .nil
  | k + 1, _, _, .cons h1 h2 => .cons h1 (DpAll.take k h2)
theorem DpAll.drop : ∀ (k : Nat) {xs : List V} {ds : List PyData}, DpAll K H xs ds → DpAll K H (xs.drop k) (ds.drop k)
  | 0, _, _, h => h
  | k + 1, _, _, .nil => .nil
  | k + 1, _, _, .cons h1 h2 => DpAll.drop k h2
theorem DpAll.len' : ∀ {vs : List V} {ds : List PyData}, DpAll K H vs ds → vs.length = ds.length
  | _, _, .nil => rfl
  | _, _, .cons _ h => by rw [List.length_cons, List.length_cons, DpAll.len' h]
theorem DpAll.cut (h : DpAll K H xs ds) : DpAll K H (cutL xs lo hi) (cutL ds lo hi) := by
  unfold cutL
  rw [DpAll.len' h]
  exact DpAll.take _ (DpAll.drop _ h)
theorem DpAll.rev : ∀ {xs : List V} {ds : List PyData}, DpAll K H xs ds → DpAll K H xs.reverse ds.reverse
  | _, _, .nil => .nil
  | _, _, .cons h1 h2 => by
    rw [List.reverse_cons, List.reverse_cons]
    exact DpAll.app (DpAll.rev h2) (.cons h1 .nil)
end
end Wn
namespace Wn
open PySem L2
/-- a part of a tuple that isn't the whole: a new one -/
theorem slA_new {K : PySem.W.Frag} {H : Hp} {a : Addr} {xs : List V} {lo hi : Option Int} {Q : VK} (h : SqT K H a xs) (hw : ¬ (HT.sIx xs.length 0 lo = 0 ∧ HT.sIx xs.length xs.length hi = xs.length))
    (q : ∀ (H' : Hp) (x : Addr), Same H H' → H x = none → H' x = some (.tup (cutL xs lo hi)) → Q (.ref x) H') : rSlA K (.ref a) lo hi H Q :=
  ⟨a, xs, rfl, h, fun z => absurd z hw, fun _ p hp => q _ p ((L2.Same.refl _).new hp) hp upd_same⟩
theorem slA_2of4 {K : PySem.W.Frag} {H : Hp} {a : Addr} {x1 x2 x3 x4 : V} {Q : VK} (h : SqT K H a [x1, x2, x3, x4])
    (q : ∀ (H' : Hp) (x : Addr), Same H H' → H x = none → H' x = some (.tup [x1, x2]) → Q (.ref x) H') : rSlA K (.ref a) none (some 2) H Q :=
  slA_new h (fun z => absurd z.2 (by show ¬ (2 : Nat) = 4; decide)) fun H' x s n e => q H' x s n (by
    have e2 : cutL [x1, x2, x3, x4] none (some 2) = [x1, x2] := cutL_to _ 2
    rw [e2] at e
    exact e)
end Wn

namespace Wn
open PySem L2
/-! ### == of data without truths is sameness -/
mutual
def nob : PyData → Bool
  | .none | .int _ | .str _ => true
  | .bool _ | .dict _ => false
  | .list xs | .tuple xs => nobs xs
def nobs : List PyData → Bool
  | [] => true
  | x :: xs => nob x && nobs xs
end
mutual
theorem eqv_nob : ∀ (d e : PyData), nob d = true → nob e = true → (PyData.eqv d e = true ↔ d = e)
  | .none, .none, _, _ => ⟨fun _ => rfl, fun _ => rfl⟩
  | .int i, .int j, _, _ => by
    show (i == j) = true ↔ _
    rw [beq_iff_eq, PyData.int.injEq]
  | .str i, .str j, _, _ => by
    show (i == j) = true ↔ _
    rw [beq_iff_eq, PyData.str.injEq]
  | .list xs, .list ys, h1, h2 => by
    show PyData.eqvAll xs ys = true ↔ _
    rw [eqv_nobs xs ys h1 h2, PyData.list.injEq]
  | .tuple xs, .tuple ys, h1, h2 => by
    show PyData.eqvAll xs ys = true ↔ _
    rw [eqv_nobs xs ys h1 h2, PyData.tuple.injEq]
  | .bool _, _, h, _ => by cases h
  | .dict _, _, h, _ => by cases h
  | .none, .bool _, _, h | .int _, .bool _, _, h | .str _, .bool _, _, h | .list _, .bool _, _, h | .tuple _, .bool _, _, h => by cases h
  | .none, .dict _, _, h | .int _, .dict _, _, h | .str _, .dict _, _, h | .list _, .dict _, _, h | .tuple _, .dict _, _, h => by cases h
  | .none, .int _, _, _ | .none, .str _, _, _ | .none, .list _, _, _ | .none, .tuple _, _, _ => ⟨(fun h => by cases h), (fun h => by cases h)⟩
  | .int _, .none, _, _ | .int _, .str _, _, _ | .int _, .list _, _, _ | .int _, .tuple _, _, _ => ⟨(fun h => by cases h), (fun h => by cases h)⟩
  | .str _, .none, _, _ | .str _, .int _, _, _ | .str _, .list _, _, _ | .str _, .tuple _, _, _ => ⟨(fun h => by cases h), (fun h => by cases h)⟩
  | .list _, .none, _, _ | .list _, .int _, _, _ | .list _, .str _, _, _ | .list _, .tuple _, _, _ => ⟨(fun h => by cases h), (fun h => by cases h)⟩
  | .tuple _, .none, _, _ | .tuple _, .int _, _, _ | .tuple _, .str _, _, _ | .tuple _, .list _, _, _ => ⟨(fun h => by cases h), (fun h => by cases h)⟩
theorem eqv_nobs : ∀ (ds es : List PyData), nobs ds = true → nobs es = true → (PyData.eqvAll ds es = true ↔ ds = es)
  | [], [], _, _ => ⟨fun _ => rfl, fun _ => rfl⟩
  | d :: ds, e :: es, h1, h2 => by
    unfold nobs at h1 h2
    rw [Bool.and_eq_true] at h1 h2
    show (PyData.eqv d e && PyData.eqvAll ds es) = true ↔ _
    rw [Bool.and_eq_true, eqv_nob d e h1.1 h2.1, eqv_nobs ds es h1.2 h2.2, List.cons.injEq]
  | [], _ :: _, _, _ => ⟨(fun h => by cases h), (fun h => by cases h)⟩
  | _ :: _, [], _, _ => ⟨(fun h => by cases h), (fun h => by cases h)⟩
end
theorem nobs_of : ∀ {ds : List PyData}, (∀ d ∈ ds, nob d = true) → nobs ds = true
  | [], _ => rfl
  | d :: ds, h => by
    show (nob d && nobs ds) = true
    rw [h d List.mem_cons_self, nobs_of fun x hx => h x (List.mem_cons_of_mem _ hx)]
    rfl
theorem nobs_map {α : Type} {f : α → PyData} {l : List α} (h : ∀ x, nob (f x) = true) : nobs (l.map f) = true := nobs_of fun d hd => by
  obtain ⟨x, _, rfl⟩ := List.mem_map.mp hd
  exact h x
theorem lay_of : ∀ {ds : List PyData}, (∀ d ∈ ds, d.canLay0 = true) → PyData.canLayAll0 ds = true
  | [], _ => rfl
  | d :: ds, h => by
    show (PyData.canLay0 d && PyData.canLayAll0 ds) = true
    rw [h d List.mem_cons_self, lay_of fun x hx => h x (List.mem_cons_of_mem _ hx)]
    rfl
theorem dep_of {B : Nat} : ∀ {ds : List PyData}, (∀ d ∈ ds, d.depth ≤ B) → PyData.depthAll ds ≤ B
  | [], _ => Nat.zero_le _
  | d :: ds, h => by
    have h1 := h d List.mem_cons_self
    have h2 := dep_of fun x hx => h x (List.mem_cons_of_mem _ hx)
    unfold PyData.depthAll
    omega
/-- shaped, by parts: layable, not deeper than n -/
def Shp (n : Nat) (d : PyData) : Prop := d.canLay0 = true ∧ d.depth ≤ n
theorem Shp.ok {n : Nat} {d : PyData} (h : Shp n d) (hn : n ≤ 64) : SeqAt.shaped d = true := by
  unfold SeqAt.shaped
  rw [h.1, decide_eq_true (Nat.le_trans h.2 hn)]
  rfl
theorem Shp.int {n : Nat} {i : Int} : Shp n (.int i) := ⟨rfl, Nat.zero_le _⟩
theorem Shp.bool {n : Nat} {b : Bool} : Shp n (.bool b) := ⟨rfl, Nat.zero_le _⟩
theorem Shp.none {n : Nat} : Shp n .none := ⟨rfl, Nat.zero_le _⟩
theorem Shp.tup {n : Nat} {ds : List PyData} (h : ∀ d ∈ ds, Shp n d) : Shp (n + 1) (.tuple ds) := ⟨lay_of fun d hd => (h d hd).1, Nat.succ_le_succ (dep_of fun d hd => (h d hd).2)⟩
theorem Shp.lst {n : Nat} {ds : List PyData} (h : ∀ d ∈ ds, Shp n d) : Shp (n + 1) (.list ds) := ⟨lay_of fun d hd => (h d hd).1, Nat.succ_le_succ (dep_of fun d hd => (h d hd).2)⟩
theorem Shp.map {n : Nat} {α : Type} {f : α → PyData} {l : List α} (h : ∀ x, Shp n (f x)) : ∀ d ∈ l.map f, Shp n d := fun d hd => by
  obtain ⟨x, _, rfl⟩ := List.mem_map.mp hd
  exact h x
end Wn

set_option maxHeartbeats 800000
namespace Wn
open PySem L2
set_option pp.maxSteps 700
set_option pp.deepTerms false
local macro_rules | `(tactic| walk_at "h") => `(tactic| first | with_reducible assumption | (with_reducible exact upd_same) | (with_reducible apply g_upd; (walk_at "neq"); (walk_at "h")) | (with_reducible apply g_same; (with_reducible assumption); (walk_at "h")) | (with_reducible apply g_kp; (with_reducible assumption); (walk_at "nin"); (walk_at "h")) | (with_reducible apply g_tk; (with_reducible assumption); (walk_at "h")))
local macro_rules | `(tactic| walk_at "neq") => `(tactic| first | with_reducible assumption | (with_reducible apply Ne.symm; with_reducible assumption) | (with_reducible apply ne_upd; (with_reducible assumption)) | (with_reducible apply Ne.symm; with_reducible apply ne_upd; with_reducible assumption) | (with_reducible apply ne_fr; (with_reducible assumption); (walk_at "h")) | (with_reducible apply ne_fr'; (with_reducible assumption); (walk_at "h")) | (with_reducible apply ne_kd; (walk_at "h"); (walk_at "h"); (with_unfolding_all (intro z; cases z))))
local macro_rules | `(tactic| walk_at "nin") => `(tactic| first | (with_reducible exact nin0) | with_reducible assumption | (with_reducible apply ninc; (walk_at "neq"); (walk_at "nin")))
local macro_rules | `(tactic| walk_at "none") => `(tactic| first | with_reducible assumption | (with_reducible apply n_upd; (with_reducible assumption)) | (with_reducible apply n_same; (with_reducible assumption); (walk_at "none")) | (with_reducible apply n_kp; (with_reducible assumption); (walk_at "nin"); (walk_at "none")))
local macro_rules | `(tactic| walk_at "mem") => `(tactic| first | (with_reducible exact List.mem_cons_self) | (with_reducible apply List.mem_cons_of_mem; (walk_at "mem")))
local macro_rules | `(tactic| walk_at "am") => `(tactic| first | (with_reducible exact am0) | (with_reducible apply am1; (first | (apply Or.inl; walk_at "mem") | (apply Or.inr; walk_at "none")); (walk_at "am")))
local macro_rules | `(tactic| walk_at "tk") => `(tactic| first | (with_reducible exact TK.refl _) | with_reducible assumption | (with_reducible apply t_tk; (with_reducible assumption); (walk_at "tk")) | (with_reducible apply t_same; (with_reducible assumption); (walk_at "tk")) | (with_reducible apply t_new; (with_reducible assumption); (walk_at "tk")) | (with_reducible apply t_wr; (walk_at "h"); (with_unfolding_all rfl); (walk_at "tk")))
local macro_rules | `(tactic| walk_at "same") => `(tactic| first | (with_reducible exact L2.Same.refl _) | with_reducible assumption | (with_reducible apply s_same; (with_reducible assumption); (walk_at "same")) | (with_reducible apply s_new; (with_reducible assumption); (walk_at "same")) | (with_reducible apply s_wrn; (walk_at "none"); (walk_at "same")))
local macro_rules | `(tactic| walk_at "kp") => `(tactic| first | (with_reducible exact Kp.refl _ _) | with_reducible assumption | (with_reducible apply k_same; (with_reducible assumption); (walk_at "kp")) | (with_reducible apply k_kp; (with_reducible assumption); (walk_at "kp")) | (with_reducible apply k_kpm; (with_reducible assumption); (walk_at "am"); (walk_at "kp")) | (with_reducible apply k_new; (with_reducible assumption); (walk_at "kp")) | (with_reducible apply k_wr; (walk_at "mem"); (walk_at "kp")) | (with_reducible apply k_wrn; (walk_at "none"); (walk_at "kp")))
local macro_rules | `(tactic| walk_at "rp") => `(tactic| first | with_reducible assumption | (with_reducible exact Rp.int) | (with_reducible exact Rp.str) | (with_reducible exact Rp.none) | (with_reducible exact Rp.bool) | (with_reducible apply Rp.tk'; (with_reducible assumption); (walk_at "tk")) | (with_reducible apply Rp.tup; (walk_at "h"); (walk_at "rpl")))
local macro_rules | `(tactic| walk_at "rpl") => `(tactic| first | with_reducible assumption | (with_reducible exact RpL.nil) | (with_reducible apply RpL.tk'; (with_reducible assumption); (walk_at "tk")) | (with_reducible apply RpL.cons; (walk_at "rp"); (walk_at "rpl")))
local macro_rules | `(tactic| walk_at "g") => `(tactic| repeat (first | refine ⟨_, rfl, ?_⟩ | refine ⟨_, _, rfl, rfl, ?_⟩ | refine ⟨rfl, _, rfl, ?_⟩ | refine ⟨_, _, rfl, rfl, (by first | decide | omega), ?_⟩))
abbrev sPInit : Stmt := (inClass (top 12) 0)
abbrev sPDone : Stmt := (inClass (top 12) 1)
abbrev sJInit : Stmt := (inClass (top 13) 0)
abbrev sJTurn : Stmt := (inClass (top 13) 1)
abbrev sJCome : Stmt := (inClass (top 13) 2)
abbrev sJGo : Stmt := (inClass (top 13) 3)
abbrev sJDue : Stmt := (inClass (top 13) 4)
abbrev sJSend : Stmt := (inClass (top 13) 5)
abbrev sJFor : Stmt := (inClass (top 13) 6)
abbrev sJHear : Stmt := (inClass (top 13) 7)
abbrev sJLose : Stmt := (inClass (top 13) 8)
abbrev sJEnd : Stmt := (inClass (top 13) 9)
abbrev sOTurn : Stmt := (inClass (top 14) 0)
abbrev sTInit : Stmt := (inClass (top 15) 0)
abbrev sTTurn : Stmt := (inClass (top 15) 1)
abbrev sTkCome : Stmt := top 16
abbrev sTkGo : Stmt := top 17
abbrev sTkSend : Stmt := top 18
abbrev sTkHear : Stmt := top 19
abbrev sTkLose : Stmt := top 20
abbrev sJOf : Stmt := top 22
/-- a class that may be made -/
def Nw0 (P : Program) (w : World) (K : PySem.W.Frag) (mg : Str → Option Value) (base : Heap) (k : Nat) (C : Addr) (name : Str) (ps : List Str) (sp : Sp) : Prop :=
  ∃ (f : Addr) (fd : FuncData), FnOk P w K mg base CX0 k f fd ps sp ∧ Mk K C f ∧ mg name = some (.ref C) ∧ Binds K fd ps []
structure TPo (K : PySem.W.Frag) (c : Pc) : Prop where
  cl : Cls K c.P
  aim : NoAttr K c.P "aim"
  words : NoAttr K c.P "words"
  due : NoAttr K c.P "due"
  ears : NoAttr K c.P "ears"
  lost : NoAttr K c.P "is_lost"
structure TJd (K : PySem.W.Frag) (c : Pc) : Prop where
  cl : ∀ κ, Cls K (c.J κ)
  present : ∀ κ, NoAttr K (c.J κ) "present"
  posts : ∀ κ, NoAttr K (c.J κ) "posts"
  newest : ∀ κ, NoAttr K (c.J κ) "newest"
  heights : NoAttr K (c.J .tu) "heights"
structure JB (mg : Str → Option Value) : Prop where
  all : mg "all" = none
  hand : ∃ t, mg "HAND" = some (.str "hand" t)
  never : ∃ t, mg "NEVER" = some (.int (-1) t)
/-- a new letter -/
def spPInit (c : Pc) : Sp := fun vs H Q _ => ∃ (o dx d : Addr) (aim : Option Int) (w : Str) (ds : List Int), vs = [.ref o, aimV aim, .str w, .ref d] ∧ H o = some (.ins c.P dx []) ∧
  ∀ H' e, H e = none → Kp [o] H H' → H' o = some (.ins c.P dx [("aim", aimV aim), ("words", .str w), ("due", .ref d), ("ears", .ref e), ("is_lost", .bl false)]) → H' e = some (.dK []) → Q .non H'
def spPDone (c : Pc) : Sp := fun vs H Q _ => ∃ (A : Ja) (k : Int × Int) (x : Po), vs = [.ref (A.po k)] ∧ PoAt c H A k x ∧ x.due.length ≤ 100000 ∧ ∀ H', Same H H' → Q (.bl x.done) H'
def spDue (c : Pc) (κ : JK) : Sp := fun vs H Q _ => ∃ (H0 : Hp) (A : Ja) (J : Jd) (N : Nat) (a : Int) (aim : Option Int), vs = [.ref A.j, .int a, aimV aim] ∧ JdAt c κ H0 H A J N ∧ N ≤ 100000 ∧
  ∀ H' d, H d = none → Same H H' → H' d = some (.lst ((J.due a aim).map V.int)) → Q (.ref d) H'
def spFor (c : Pc) (κ : JK) : Sp := fun vs H Q _ => ∃ (H0 : Hp) (A : Ja) (J : Jd) (N : Nat) (k : Int × Int) (x : Po) (h a : Int), vs = [.ref A.j, .ref (A.po k), .int h, .int a] ∧ JdAt c κ H0 H A J N ∧ lookP J.posts k = some x ∧ (lookA J.here h).isSome = true ∧
  ∀ H', Same H H' → Q (.bl (J.isFor x h a)) H'
def spTurn (c : Pc) (κ : JK) : Sp := fun vs H Q _ => ∃ (H0 : Hp) (A : Ja) (J : Jd) (N : Nat) (k : Int × Int) (x : Po) (h : Int) (b : Addr), vs = [.ref A.j, .ref (A.po k), .int h, .ref b] ∧ JdAt c κ H0 H A J N ∧ N < 100000 ∧ lookP J.posts k = some x ∧ H b = some (.tup [.int k.1, .int k.2]) ∧
  (J.turn κ x h k = true → ∀ H', JdAt c κ H0 H' A { J with hts := (match κ with | .tu => putP J.hts (h, k.1) k.2 | _ => J.hts) } (N + 1) → TK H H' → Q (.bl true) H') ∧ (J.turn κ x h k = false → ∀ H', Same H0 H' → Q (.bl false) H')
/-- what a row does -/
def RowOut (c : Pc) (κ : JK) (H0 : Hp) (A : Ja) (J : Jd) (N : Nat) (r : Rw) (Q : VK) : Prop := match J.row κ r with
  | some J' => ∀ H' A', A'.j = A.j → JdAt c κ H0 H' A' J' (N + 2) → Q (.bl true) H'
  | none => ∀ H', Same H0 H' → Q (.bl false) H'
theorem row_come {κ : JK} (J : Jd) (h : Int) (s : Str) : J.row κ (.come h s) = if lookA J.here h = none then some { J with here := putA J.here h s } else none := rfl
theorem row_go {κ : JK} (J : Jd) (h : Int) : J.row κ (.go h) = if lookA J.here h = none then none else some { J with here := dropA J.here h } := rfl
theorem row_send {κ : JK} (J : Jd) (a n : Int) (aim : Option Int) (t : Str) : J.row κ (.send a n aim t) = if lookA J.here a = none ∨ n ≤ (lookA J.newest a).getD (-1) then none
    else some { J with newest := putA J.newest a n, posts := putP J.posts (a, n) ⟨aim, t, J.due a aim, [], false⟩ } := rfl
theorem row_hear {κ : JK} (J : Jd) (h a n : Int) (t : Str) : J.row κ (.hear h a n t) = match lookP J.posts (a, n) with
    | none => none
    | some p => if lookA J.here h = none then none else if p.words ≠ t then none else if J.isFor p h a = false then none else if J.turn κ p h (a, n) = false then none
      else some { J with hts := (match κ with | .tu => putP J.hts (h, a) n | _ => J.hts), posts := putP J.posts (a, n) { p with ears := earPut p.ears h } } := rfl
theorem row_lose {κ : JK} (J : Jd) (a n : Int) : J.row κ (.lose a n) = match lookP J.posts (a, n) with
    | none => none
    | some p => some { J with posts := putP J.posts (a, n) { p with lost := true } } := rfl
def spRow (c : Pc) (κ : JK) (w : Str) : Sp := fun vs H Q _ => ∃ (H0 : Hp) (A : Ja) (J : Jd) (N : Nat) (r : Rw), rwW r = w ∧ vs = .ref A.j :: rwP r ∧ JdAt c κ H0 H A J N ∧ N + 2 < 100000 ∧ RowOut c κ H0 A J N r Q
def spTake (K : PySem.W.Frag) (c : Pc) (w : Str) : Sp := fun vs H Q _ => ∃ (κ : JK) (H0 : Hp) (A : Ja) (J : Jd) (N : Nat) (r : Rw) (pt : Addr), rwW r = w ∧ vs = [.ref A.j, .ref pt] ∧ SqT K H pt (rwP r) ∧ JdAt c κ H0 H A J N ∧ N + 2 < 100000 ∧ RowOut c κ H0 A J N r Q
def prD (k : Int × Int) : PyData := .tuple [.int k.1, .int k.2]
theorem prD_any {ws : List (Int × Int)} {k : Int × Int} : (ws.map prD).any (fun z => PyData.eqv z (prD k)) = decide (k ∈ ws) := by
  rw [Bool.eq_iff_iff, List.any_eq_true, decide_eq_true_eq]
  constructor
  · rintro ⟨z, hz, e⟩
    obtain ⟨q, hq, rfl⟩ := List.mem_map.mp hz
    have e : q = k := by
      unfold prD at e
      simp [PyData.eqv, PyData.eqvAll] at e
      exact Prod.ext e.1 e.2
    exact e ▸ hq
  · intro h
    refine ⟨prD k, List.mem_map.mpr ⟨k, h, rfl⟩, ?_⟩
    unfold prD
    simp [PyData.eqv, PyData.eqvAll]
theorem prD_shp (k : Int × Int) : Shp 1 (prD k) := Shp.tup (n := 0) fun d hd => by
  simp only [List.mem_cons, List.not_mem_nil, or_false] at hd
  rcases hd with rfl | rfl <;> exact Shp.int
theorem prD_dp {K : PySem.W.Frag} {H : Hp} {b : Addr} {k : Int × Int} (h : H b = some (.tup [.int k.1, .int k.2])) : Dp K H (.ref b) (prD k) := .tup (SqT.of h) (.cons (.int _) (.cons (.int _) .nil))
theorem wts_dp {K : PySem.W.Frag} {H : Hp} : ∀ {xs : List V} {ws : List (Int × Int)}, xs.length = ws.length → (∀ (i : Nat) (v : V) (k : Int × Int), xs[i]? = some v → ws[i]? = some k → ∃ b, v = .ref b ∧ H b = some (.tup [.int k.1, .int k.2])) → DpAll K H xs (ws.map prD)
  | [], [], _, _ => .nil
  | x :: xs, k :: ws, h, e => by
    obtain ⟨b, rfl, hb⟩ := e 0 x k rfl rfl
    exact .cons (prD_dp hb) (wts_dp (by simpa using h) fun i v k' h1 h2 => e (i + 1) v k' (by simpa using h1) (by simpa using h2))
  | [], _ :: _, h, _ => by cases h
  | _ :: _, [], h, _ => by cases h
theorem lock_same {H H' : Hp} {d : Addr} {od : Obj} {u : HO} (h : H d = some u) (s : Same (upd H d (.frz od u)) H') : Same H (upd H' d u) := fun b o e => by
  by_cases hb : b = d
  · subst hb
    rw [upd_same, ← h, e]
  · rw [upd_ne hb]
    exact s _ _ (by rw [upd_ne hb]; exact e)
theorem lock_at {H : Hp} {d b : Addr} {od : Obj} {u o : HO} (h : H b = some o) (ne : b ≠ d) : upd H d (.frz od u) b = some o := by rw [upd_ne ne]; exact h
theorem lock_none {H : Hp} {d b : Addr} {u o : HO} (hd : H d = some o) (n : upd H d u b = none) : H b = none ∧ b ≠ d := by
  have nb : b ≠ d := fun z => by rw [z, upd_same] at n; cases n
  rw [upd_ne nb] at n
  exact ⟨n, nb⟩
theorem dget_frz {H : Hp} {d : Addr} {od : Obj} {kvs : List (Key × V)} {k : Key} (h : H d = some (.frz od (.dK kvs))) : DGet H d (kV k) (valV kvs k) := .inl ⟨kvs, k, .inr ⟨od, h⟩, rfl, rfl⟩
/-- letters that wait -/
def WtAt (H : Hp) (v : V) (k : Int × Int) : Prop := ∃ b, v = .ref b ∧ H b = some (.tup [.int k.1, .int k.2])
def spEnd (K : PySem.W.Frag) (c : Pc) (κ : JK) : Sp := fun vs H Q _ => ∃ (H0 : Hp) (A : Ja) (J : Jd) (N : Nat) (t : Addr) (xs : List V) (ws : List (Int × Int)), vs = [.ref A.j, .ref t] ∧ JdAt c κ H0 H A J N ∧ N ≤ 100000 ∧ SqT K H t xs ∧ xs.length = ws.length ∧ ws.length ≤ 100000 ∧ (∀ (i : Nat) (v : V) (k : Int × Int), xs[i]? = some v → ws[i]? = some k → WtAt H v k) ∧
  ∀ H', Same H0 H' → Q (.bl (J.endOk ws)) H'
def spJInit (c : Pc) (κ : JK) : Sp := fun vs H Q _ => ∃ (o dx : Addr), vs = [.ref o] ∧ H o = some (.ins (c.J κ) dx []) ∧
  ∀ H' p q n, H p = none → H q = none → H n = none → p ≠ n → Kp [o] H H' → H' o = some (.ins (c.J κ) dx [("present", .ref p), ("posts", .ref q), ("newest", .ref n)]) → H' p = some (.dK []) → H' q = some (.dT []) → H' n = some (.dK []) → Q .non H'
def spTInit (c : Pc) : Sp := fun vs H Q _ => ∃ (o dx : Addr), vs = [.ref o] ∧ H o = some (.ins (c.J .tu) dx []) ∧
  ∀ H' p q n h, H p = none → H q = none → H n = none → H h = none → p ≠ n → q ≠ h → Kp [o] H H' → H' o = some (.ins (c.J .tu) dx [("present", .ref p), ("posts", .ref q), ("newest", .ref n), ("heights", .ref h)]) → H' p = some (.dK []) → H' q = some (.dT []) → H' n = some (.dK []) → H' h = some (.dT []) → Q .non H'
def spJOf (c : Pc) : Sp := fun vs H Q _ => ∃ κ : JK, vs = [.str (jkS κ)] ∧ ∀ H' A, JdAt c κ H H' A Jd.nil 0 → Q (.ref A.j) H'

section
variable {P : Program} {w : World} {K : PySem.W.Frag} {mg : Str → Option Value} {base : Heap} {c : Pc} {κ : JK}
theorem scPInit : FnScope ["self", "aim", "words", "due"] ["self", "aim", "words", "due"] (defScope sPInit) := ⟨rfl, rfl, rfl, by decide +kernel, rfl, by decide +kernel, by decide +kernel⟩
theorem ok_pinit {f : Addr} {fd : FuncData} (F : Fun K "__init__" "Post.__init__" sPInit f fd) (TP : TPo K c) : FnOk P w K mg base CX0 1 f fd ["self", "aim", "words", "due"] (spPInit c) := by
  refine F.ok scPInit (fun vs H Q E h => ?_) (fun cdv A outer s H vs Q E hr h => ?_)
  · obtain ⟨o, dx, d, aim, w, ds, rfl, _⟩ := h
    rfl
  · obtain ⟨o, dx, d, aim, w, ds, rfl, ho, k⟩ := h
    refine ⟨_, (pss_cons (ps_fld (pv 0) (pv 1) rfl)
       (pss_cons (ps_fld (pv 0) (pv 2) rfl)
       (pss_cons (ps_fld (pv 0) (pv 3) rfl)
       (pss_cons (ps_fld (pv 0) pe_dnewK rfl)
       (pss_one (ps_fld (pv 0) pe_bl rfl)))))), ?_⟩
    refine ⟨_, rfl, _, rfl, o, c.P, dx, _, rfl, ho, TP.cl, TP.aim, by decide, ?_⟩
    obtain ⟨H1, e_H1, k1, t1, h1⟩ := wr_any ho rfl
    rw [← e_H1]
    clear e_H1
    refine ⟨_, rfl, _, rfl, o, c.P, dx, _, rfl, h1, TP.cl, TP.words, (by show 1 < 1000; decide), ?_⟩
    obtain ⟨H2, e_H2, k2, t2, h2⟩ := wr_any h1 rfl
    rw [← e_H2]
    clear e_H2
    refine ⟨_, rfl, _, rfl, o, c.P, dx, _, rfl, h2, TP.cl, TP.due, (by show 2 < 1000; decide), ?_⟩
    obtain ⟨H3, e_H3, k3, t3, h3⟩ := wr_any h2 rfl
    rw [← e_H3]
    clear e_H3
    intro e n_e
    obtain ⟨H4, e_H4, s4, h4⟩ := new_any n_e
    rw [← e_H4]
    clear e_H4
    have h34 := s4 _ _ h3
    have k03 := k1.trans (k2.trans k3)
    have ne0 : H e = none := by
      cases q : H e with
      | none => rfl
      | some u =>
        by_cases z : e = o
        · rw [z, h3] at n_e; cases n_e
        · rw [k03 _ _ (nin1 z) q] at n_e; cases n_e
    refine ⟨_, rfl, o, c.P, dx, _, rfl, h34, TP.cl, TP.ears, (by show 3 < 1000; decide), ?_⟩
    obtain ⟨H5, e_H5, k5, t5, h5⟩ := wr_any h34 rfl
    rw [← e_H5]
    clear e_H5
    refine ⟨_, rfl, o, c.P, dx, _, rfl, h5, TP.cl, TP.lost, (by show 4 < 1000; decide), ?_⟩
    obtain ⟨H6, e_H6, k6, t6, h6⟩ := wr_any h5 rfl
    rw [← e_H6]
    clear e_H6
    refine k H6 e ne0 (k03.trans ((Kp.of s4).trans (k5.trans k6))) h6 ?_
    have neo : e ≠ o := fun z => by rw [z, h3] at n_e; cases n_e
    exact k6 _ _ (nin1 neo) (k5 _ _ (nin1 neo) h4)
theorem scPDone : FnScope ["self", "hand"] ["self"] (defScope sPDone) := ⟨rfl, rfl, rfl, by decide +kernel, rfl, by decide +kernel, by decide +kernel⟩
theorem ok_pdone {f : Addr} {fd : FuncData} (F : Fun K "is_done" "Post.is_done" sPDone f fd) (TP : TPo K c) (B : JB mg) : FnOk P w K mg base CX0 1 f fd ["self"] (spPDone c) := by
  refine F.ok scPDone (fun vs H Q E h => ?_) (fun cdv A outer s H vs Q E hr h => ?_)
  · obtain ⟨A, k, x, rfl, _⟩ := h
    rfl
  · obtain ⟨A, k, x, rfl, ⟨h1, h2, h3⟩, hl, kk⟩ := h
    have hu := hu_of hr
    refine ⟨_, (pss_one (ps_ret (pe_or (fldK (K := K) rfl (pv 0) rfl) (pe_one (pe_callB (crAllK (K := K) rfl rfl) (by rfl) B.all (by decide +kernel) (pa_cons (pe_lc (own := [("hand", 1)]) (g := (gName 1)) (tt := tYes) rfl scPDone.nd (pi_list (fldK (K := K) rfl (pv 0) rfl)) (blkOk_by (N := ["self", "hand"]) (sc := defScope sPDone) (by decide +kernel))
       (fun _ _ _ _ _ => (pg_name (i := 1) scPDone.nd rfl (Or.inl rfl))) (fun _ _ _ _ _ => pts_nil) (fun _ _ _ _ _ => (pe_cmp (pc_din hu (pv 1) (fldK (K := K) rfl (pv 0) rfl)) rfl))) pa_nil)))))), ?_⟩
    refine ⟨_, rfl, A.po k, c.P, A.pd k, _, _, rfl, h1, TP.cl, TP.lost, rfl, x.lost, rfl, ?_⟩
    unfold Po.done at kk
    cases el : x.lost with
    | true =>
      rw [el] at kk
      exact iteT (kk _ (L2.Same.refl _))
    | false =>
      rw [el] at kk
      refine iteF ?_
      refine ⟨_, rfl, A.po k, c.P, A.pd k, _, _, rfl, h1, TP.cl, TP.due, rfl, A.du k, rfl, ⟨_, SqL.of h2⟩, fun D nD => ?_⟩
      refine comp_ls (L := x.due) ((walk_list (K := K) (a := A.du k) (xs := x.due.map V.int)).cast (List.length_map _)) (fun H' s' => SqL.of (s' _ _ h2)) (fun _ => true) (fun h => .bl (decide (h ∈ x.ears))) nD (by omega) ?_ ?_
      · rintro j b v H' H'' Q' N hj s' ⟨rfl, hv⟩ hQ hN
        rw [List.getElem?_map, hj] at hv
        cases hv
        refine ⟨rfl, tYes_t (iteT ?_)⟩
        have g := DGet.k (k := Sum.inl b) (s' _ _ h3)
        rw [valV_ear] at g
        refine ⟨_, rfl, _, rfl, A.po k, c.P, A.pd k, _, _, rfl, s' _ _ h1, TP.cl, TP.ears, rfl, A.ea k, _, rfl, g, ?_⟩
        have q := hQ rfl _ (L2.Same.refl _)
        by_cases hb : b ∈ x.ears
        · rw [decide_eq_true hb] at q
          rw [if_pos hb]
          exact q
        · rw [decide_eq_false hb] at q
          rw [if_neg hb]
          exact q
      · intro H' s' hD
        rw [filter_all] at hD
        refine ⟨D, x.due.map (fun h => decide (h ∈ x.ears)), rfl, .inl (.inl (by rw [List.map_map]; exact hD)), ?_⟩
        have q := kk _ s'
        rw [Bool.false_or] at q
        rw [List.all_map]
        exact q
theorem scJCome : FnScope ["self", "hand", "sort"] ["self", "hand", "sort"] (defScope sJCome) := ⟨rfl, rfl, rfl, by decide +kernel, rfl, by decide +kernel, by decide +kernel⟩
theorem ok_jcome {f : Addr} {fd : FuncData} (F : Fun K "come" "Judge.come" sJCome f fd) (TJ : TJd K c) : FnOk P w K mg base CX0 1 f fd ["self", "hand", "sort"] (spRow c κ "come") := by
  refine F.ok scJCome (fun vs H Q E h => ?_) (fun cdv A outer s H vs Q E hr h => ?_)
  · obtain ⟨H0, A, J, N, r, e, rfl, _⟩ := h
    cases r <;> first | rfl | cases e
  · obtain ⟨H0, A, J, N, r, e, rfl, h, hN, k⟩ := h
    have hu := hu_of hr
    cases r with
    | come hd so =>
      refine ⟨_, (pss_cons (ps_if (pt_cmp (pc_din hu (pv 1) (fldK (K := K) rfl (pv 0) rfl)))
         (pss_one (ps_ret pe_bl))
         pss_nil)
         (pss_cons (ps_dput hu (fldK (K := K) rfl (pv 0) rfl) (pv 1) (pv 2) rfl)
         (pss_one (ps_ret pe_bl)))), ?_⟩
      have g := DGet.k (k := Sum.inl hd) h.here
      rw [valV_gK] at g
      refine ⟨_, rfl, _, rfl, A.j, c.J κ, A.dx, _, _, rfl, h.o, TJ.cl κ, TJ.present κ, jF_p, A.p, _, rfl, g, ?_⟩
      unfold RowOut at k
      rw [row_come] at k
      cases e1 : lookA J.here hd with
      | some u =>
        rw [if_neg (by rw [e1]; simp)] at k
        exact ⟨_, rfl, iteT (k _ h.sm)⟩
      | none =>
        rw [if_pos e1] at k
        refine ⟨_, rfl, iteF ?_⟩
        have sz : (gK V.str J.here).length < sizeLine := by
          rw [gK_len]
          exact Nat.lt_of_le_of_lt (Nat.le_trans h.l1 (show N ≤ 100000 by omega)) (by decide)
        refine ⟨_, rfl, _, rfl, A.j, c.J κ, A.dx, _, _, rfl, h.o, TJ.cl κ, TJ.present κ, jF_p, _, rfl, A.p, _, rfl, DPut.k (k := Sum.inl hd) h.here sz, ?_⟩
        rw [putK_gK]
        obtain ⟨H1, e_H1, k1, t1, h1⟩ := wr_any h.here rfl
        rw [← e_H1]
        clear e_H1
        refine k _ _ rfl ((h.setHere k1 h1 (nodup_put h.hn) (Nat.le_trans (putA_len _ _ _) (Nat.succ_le_succ h.l1))).mono (by omega))
    | _ => cases e
theorem scJGo : FnScope ["self", "hand"] ["self", "hand"] (defScope sJGo) := ⟨rfl, rfl, rfl, by decide +kernel, rfl, by decide +kernel, by decide +kernel⟩
theorem ok_jgo {f : Addr} {fd : FuncData} (F : Fun K "go" "Judge.go" sJGo f fd) (TJ : TJd K c) : FnOk P w K mg base CX0 1 f fd ["self", "hand"] (spRow c κ "go") := by
  refine F.ok scJGo (fun vs H Q E h => ?_) (fun cdv A outer s H vs Q E hr h => ?_)
  · obtain ⟨H0, A, J, N, r, e, rfl, _⟩ := h
    cases r <;> first | rfl | cases e
  · obtain ⟨H0, A, J, N, r, e, rfl, h, hN, k⟩ := h
    have hu := hu_of hr
    cases r with
    | go hd =>
      refine ⟨_, (pss_one (ps_ret (pe_cmp (pc_notN (pe_dpop2 (fldK (K := K) rfl (pv 0) rfl) (pv 1) pe_non ⟨rfl, rfl, rfl, rfl⟩)) rfl))), ?_⟩
      refine ⟨_, rfl, A.j, c.J κ, A.dx, _, _, rfl, h.o, TJ.cl κ, TJ.present κ, jF_p, ?_⟩
      unfold RowOut at k
      rw [row_go] at k
      refine ⟨A.p, rfl, .inl ⟨_, .inl h.here⟩, _, rfl, _, Sum.inl hd, h.here, rfl, fun v hv => ?_, fun hv => ?_⟩
      · rw [valV_gK] at hv
        obtain ⟨u, e1, rfl⟩ := Option.map_eq_some_iff.mp hv
        rw [if_neg (by rw [e1]; simp)] at k
        rw [dropK_gK]
        obtain ⟨H1, e_H1, k1, t1, h1⟩ := wr_any h.here rfl
        rw [← e_H1]
        clear e_H1
        exact k _ _ rfl ((h.setHere k1 h1 (h.hn.sublist ((List.filter_sublist).map _)) (Nat.le_succ_of_le (Nat.le_trans (dropA_len _ _) h.l1))).mono (by omega))
      · rw [valV_gK, Option.map_eq_none_iff] at hv
        rw [if_pos hv] at k
        exact k _ h.sm
    | _ => cases e
theorem scJDue : FnScope ["self", "sender", "hearer", "hand"] ["self", "sender", "hearer"] (defScope sJDue) := ⟨rfl, rfl, rfl, by decide +kernel, rfl, by decide +kernel, by decide +kernel⟩
theorem ok_jdue {f : Addr} {fd : FuncData} (F : Fun K "due_of" "Judge.due_of" sJDue f fd) (TJ : TJd K c) (B : JB mg) : FnOk P w K mg base CX0 1 f fd ["self", "sender", "hearer"] (spDue c κ) := by
  obtain ⟨_, mHAND⟩ := B.hand
  refine F.ok scJDue (fun vs H Q E h => ?_) (fun cdv A outer s H vs Q E hr h => ?_)
  · obtain ⟨H0, A, J, N, a, aim, rfl, _⟩ := h
    rfl
  · obtain ⟨H0, A, J, N, a, aim, rfl, h, hN, k⟩ := h
    have hu := hu_of hr
    refine ⟨_, (pss_cons (ps_if (pt_cmp (pc_isN (pv 2)))
       (pss_one (ps_ret (pe_lock (pe_lc (own := [("hand", 3)]) (g := (gName 3)) (tt := _) rfl scJDue.nd (pi_keys (fldK (K := K) rfl (pv 0) rfl)) (blkOk_by (N := ["self", "sender", "hearer", "hand"]) (sc := defScope sJDue) (by decide +kernel))
       (fun _ _ _ _ _ => (pg_name (i := 3) scJDue.nd rfl (Or.inl rfl))) (fun _ _ _ _ _ => (pts_one (PW.pt (pw_and (pt_cmpR op_eq (pe_dget hu (fldK (K := K) rfl (pv 0) rfl) (pv 3) (fun _ _ => rfl)) (pe_glob (v := .str "hand") (by rfl) mHAND ⟨_, rfl⟩) (nomark _)) (pw_and1 (pt_cmpR op_ne (pv 3) (pv 1) (nomark _))))))) (fun _ _ _ _ _ => (pv 3))))))
       pss_nil)
       (pss_one (ps_ret (pe_lock (pe_lc (own := [("hand", 3)]) (g := (gName 3)) (tt := _) rfl scJDue.nd (pi_keys (fldK (K := K) rfl (pv 0) rfl)) (blkOk_by (N := ["self", "sender", "hearer", "hand"]) (sc := defScope sJDue) (by decide +kernel))
       (fun _ _ _ _ _ => (pg_name (i := 3) scJDue.nd rfl (Or.inl rfl))) (fun _ _ _ _ _ => (pts_one (pt_cmpR op_eq (pv 3) (pv 2) (nomark _)))) (fun _ _ _ _ _ => (pv 3))))))), ?_⟩
    have nil : ∀ (H' : Hp) (D : Addr) (al : List (Int × Str)), H' D = some (.lst (al.map fun e => V.int e.1)) → H' D = some (.lst ((al.map (·.1)).map V.int)) := fun H' D al e => by rw [List.map_map]; exact e
    have la : J.here.length ≤ 1000000 := Nat.le_trans h.l1 (by omega)
    cases aim with
    | none =>
      refine ⟨_, rfl, true, rfl, iteT ?_⟩
      refine ⟨A.p, _, h.here, trivial, fun od => ?_⟩
      have ho := lock_at (od := od) (u := .dK (gK V.str J.here)) h.o (ne_of h.o h.here (by intro z; cases z))
      generalize eG : upd H A.p (.frz od (.dK (gK V.str J.here))) = G at ho
      have hp : G A.p = some (.frz od (.dK (gK V.str J.here))) := by rw [← eG]; exact upd_same
      refine ⟨_, rfl, A.j, c.J κ, A.dx, _, _, rfl, ho, TJ.cl κ, TJ.present κ, jF_p, A.p, od, rfl, .inl ⟨_, hp, fun D nD => ?_⟩⟩
      obtain ⟨nD0, ndp⟩ := lock_none h.here (by rw [eG]; exact nD)
      refine comp_ls (L := J.here) ((walk_keys (d := A.p) (o := od) (kvs := gK V.str J.here)).cast (gK_len _ _)) (fun H' s' => s' _ _ hp) (fun e => decide (e.2 = ("hand" : Str)) && decide (e.1 ≠ a)) (fun e => .int e.1) nD la ?_ ?_
      · rintro j b v H' H'' Q' N' hj s' ⟨rfl, k2, v2, hkv, rfl⟩ hQ hN
        unfold gK at hkv
        rw [List.getElem?_map, hj] at hkv
        cases hkv
        refine ⟨rfl, ?_⟩
        have bm : b ∈ J.here := List.mem_of_getElem? hj
        have g := dget_frz (k := Sum.inl b.1) (s' _ _ hp)
        rw [valV_gK, h.hd b bm] at g
        refine ⟨_, rfl, A.j, c.J κ, A.dx, _, _, rfl, s' _ _ ho, TJ.cl κ, TJ.present κ, jF_p, _, rfl, A.p, _, rfl, g, ?_⟩
        refine ⟨rfl, _, rfl, iteS (fun e1 => ?_) (fun e1 => iteF (hN (by simp [e1]) _ (L2.Same.refl _)))⟩
        refine ⟨_, rfl, _, rfl, rfl, _, rfl, iteNI (fun e2 => ⟨_, rfl, hQ (by simp [e1, e2]) _ (L2.Same.refl _)⟩) (fun e2 => hN (by simp [e2]) _ (L2.Same.refl _))⟩
      · intro H' s' hD
        have e1 : H' A.p = some (.frz od (.dK (gK V.str J.here))) := s' _ _ hp
        refine ⟨e1, k _ D nD0 (lock_same h.here (by rw [eG]; exact s')) ?_⟩
        rw [upd_ne ndp]
        exact nil _ _ _ hD
    | some hr' =>
      refine ⟨_, rfl, false, rfl, iteF ?_⟩
      refine ⟨A.p, _, h.here, trivial, fun od => ?_⟩
      have ho := lock_at (od := od) (u := .dK (gK V.str J.here)) h.o (ne_of h.o h.here (by intro z; cases z))
      generalize eG : upd H A.p (.frz od (.dK (gK V.str J.here))) = G at ho
      have hp : G A.p = some (.frz od (.dK (gK V.str J.here))) := by rw [← eG]; exact upd_same
      refine ⟨_, rfl, A.j, c.J κ, A.dx, _, _, rfl, ho, TJ.cl κ, TJ.present κ, jF_p, A.p, od, rfl, .inl ⟨_, hp, fun D nD => ?_⟩⟩
      obtain ⟨nD0, ndp⟩ := lock_none h.here (by rw [eG]; exact nD)
      refine comp_ls (L := J.here) ((walk_keys (d := A.p) (o := od) (kvs := gK V.str J.here)).cast (gK_len _ _)) (fun H' s' => s' _ _ hp) (fun e => decide (e.1 = hr')) (fun e => .int e.1) nD la ?_ ?_
      · rintro j b v H' H'' Q' N' hj s' ⟨rfl, k2, v2, hkv, rfl⟩ hQ hN
        unfold gK at hkv
        rw [List.getElem?_map, hj] at hkv
        cases hkv
        refine ⟨rfl, _, rfl, _, rfl, rfl, _, rfl, iteI (fun e1 => ⟨_, rfl, hQ (decide_eq_true e1) _ (L2.Same.refl _)⟩) (fun e1 => hN (decide_eq_false e1) _ (L2.Same.refl _))⟩
      · intro H' s' hD
        have e1 : H' A.p = some (.frz od (.dK (gK V.str J.here))) := s' _ _ hp
        refine ⟨e1, k _ D nD0 (lock_same h.here (by rw [eG]; exact s')) ?_⟩
        rw [upd_ne ndp]
        exact nil _ _ _ hD
theorem scJFor : FnScope ["self", "post", "hand", "sender"] ["self", "post", "hand", "sender"] (defScope sJFor) := ⟨rfl, rfl, rfl, by decide +kernel, rfl, by decide +kernel, by decide +kernel⟩
theorem ok_jfor {f : Addr} {fd : FuncData} (F : Fun K "is_for" "Judge.is_for" sJFor f fd) (TJ : TJd K c) (TP : TPo K c) (B : JB mg) : FnOk P w K mg base CX0 1 f fd ["self", "post", "hand", "sender"] (spFor c κ) := by
  obtain ⟨_, mHAND⟩ := B.hand
  refine F.ok scJFor (fun vs H Q E h => ?_) (fun cdv A outer s H vs Q E hr h => ?_)
  · obtain ⟨H0, A, J, N, k, x, hd, a, rfl, _⟩ := h
    rfl
  · obtain ⟨H0, A, J, N, k, x, hd, a, rfl, h, hk, hin, kk⟩ := h
    have hu := hu_of hr
    obtain ⟨p1, p2, p3⟩ := h.po k x hk
    have q := kk _ (L2.Same.refl _)
    unfold Jd.isFor at q
    refine ⟨_, (pss_cons (ps_if (pt_cmp (pc_isN (fldK (K := K) rfl (pv 1) rfl)))
       (pss_one (ps_ret (pe_and (pe_cmpR op_ne (pv 2) (pv 3) (nomark _)) (pe_one (pe_cmpR op_eq (pe_dget hu (fldK (K := K) rfl (pv 0) rfl) (pv 2) (fun _ _ => rfl)) (pe_glob (v := .str "hand") (by rfl) mHAND ⟨_, rfl⟩) (nomark _))))))
       pss_nil)
       (pss_one (ps_ret (pe_cmpR op_eq (fldK (K := K) rfl (pv 1) rfl) (pv 2) (nomark _))))), ?_⟩
    refine ⟨_, rfl, A.po k, c.P, A.pd k, _, _, rfl, p1, TP.cl, TP.aim, rfl, ?_⟩
    cases ea : x.aim with
    | none =>
      rw [ea] at q
      refine ⟨true, rfl, iteT ?_⟩
      obtain ⟨u, eu⟩ := Option.isSome_iff_exists.mp hin
      refine ⟨_, rfl, _, rfl, rfl, _, rfl, iteNI (fun e1 => ?_) (fun e1 => ?_)⟩
      · have g := DGet.k (k := Sum.inl hd) h.here
        rw [valV_gK, eu] at g
        refine ⟨_, rfl, A.j, c.J κ, A.dx, _, _, rfl, h.o, TJ.cl κ, TJ.present κ, jF_p, _, rfl, A.p, _, rfl, g, rfl, ?_⟩
        rw [eu, decide_eq_true e1] at q
        rw [show decide (V.str u = V.str ("hand" : Str)) = decide (u = ("hand" : Str)) from dV_str]
        have e2 : decide (some u = some ("hand" : Str)) = decide (u = ("hand" : Str)) := decide_eq_decide.mpr ⟨fun z => Option.some.inj z, fun z => by rw [z]⟩
        dsimp only at q
        rw [e2, Bool.true_and] at q
        exact q
      · rw [decide_eq_false (fun z => z e1)] at q
        exact q
    | some i =>
      rw [ea] at q
      refine ⟨false, rfl, iteF ?_⟩
      refine ⟨_, rfl, A.po k, c.P, A.pd k, _, _, rfl, p1, TP.cl, TP.aim, rfl, _, rfl, ?_⟩
      rw [ea]
      refine ⟨rfl, ?_⟩
      rw [show decide (aimV (some i) = V.int hd) = decide (i = hd) from dV_int]
      exact q
theorem scJLose : FnScope ["self", "sender", "number"] ["self", "sender", "number"] (defScope sJLose) := ⟨rfl, rfl, rfl, by decide +kernel, rfl, by decide +kernel, by decide +kernel⟩
theorem ok_jlose {f : Addr} {fd : FuncData} (F : Fun K "lose" "Judge.lose" sJLose f fd) (TJ : TJd K c) (TP : TPo K c) : FnOk P w K mg base CX0 1 f fd ["self", "sender", "number"] (spRow c κ "lose") := by
  refine F.ok scJLose (fun vs H Q E h => ?_) (fun cdv A outer s H vs Q E hr h => ?_)
  · obtain ⟨H0, A, J, N, r, e, rfl, _⟩ := h
    cases r <;> first | rfl | cases e
  · obtain ⟨H0, A, J, N, r, e, rfl, h, hN, k⟩ := h
    have hu := hu_of hr
    cases r with
    | lose a n =>
      unfold RowOut at k
      rw [row_lose] at k
      refine ⟨_, (pss_cons (ps_if (pt_cmp (pc_dnotin hu (pe_tup (pa_cons (pv 1) (pa_cons (pv 2) pa_nil))) (fldK (K := K) rfl (pv 0) rfl)))
         (pss_one (ps_ret pe_bl))
         pss_nil)
         (pss_cons (ps_fld (pe_dget hu (fldK (K := K) rfl (pv 0) rfl) (pe_tup (pa_cons (pv 1) (pa_cons (pv 2) pa_nil))) (fun _ _ => rfl)) pe_bl rfl)
         (pss_one (ps_ret pe_bl)))), ?_⟩
      refine ⟨_, rfl, _, rfl, (by show 2 ≤ sizeLine; decide), fun t n_t => ?_⟩
      obtain ⟨H1, e_H1, s1, g1⟩ := new_any n_t
      rw [← e_H1]
      clear e_H1
      have h1 := h.same s1
      have g := DGet.t (k := pk (a, n)) h1.posts g1
      rw [valV_gP] at g
      refine ⟨_, rfl, A.j, c.J κ, A.dx, _, _, rfl, h1.o, TJ.cl κ, TJ.posts κ, jF_q, A.q, _, rfl, g, ?_⟩
      cases e1 : lookP J.posts (a, n) with
      | none =>
        rw [e1] at k
        exact ⟨_, rfl, iteT (k _ h1.sm)⟩
      | some x =>
        rw [e1] at k
        refine ⟨_, rfl, iteF ?_⟩
        refine ⟨_, rfl, A.j, c.J κ, A.dx, _, _, rfl, h1.o, TJ.cl κ, TJ.posts κ, jF_q, _, rfl, _, rfl, (by show 2 ≤ sizeLine; decide), fun t2 n_t2 => ?_⟩
        obtain ⟨H2, e_H2, s2, g2⟩ := new_any n_t2
        rw [← e_H2]
        clear e_H2
        have h2 := h1.same s2
        have gg := DGet.t (k := pk (a, n)) h2.posts g2
        rw [valV_gP, e1] at gg
        obtain ⟨p1, p2, p3⟩ := h2.po (a, n) x e1
        refine ⟨A.q, _, rfl, gg, A.po (a, n), c.P, A.pd (a, n), _, rfl, p1, TP.cl, TP.lost, (by show 5 < 1000; decide), ?_⟩
        obtain ⟨H3, e_H3, k3, t3, h3⟩ := wr_any p1 rfl
        rw [← e_H3]
        clear e_H3
        exact k _ _ rfl ((h2.setPost (y := { x with lost := true }) e1 ⟨rfl, rfl⟩ k3 h3).mono (by omega))
    | _ => cases e
theorem scJSend : FnScope ["self", "sender", "number", "hearer", "words"] ["self", "sender", "number", "hearer", "words"] (defScope sJSend) := ⟨rfl, rfl, rfl, by decide +kernel, rfl, by decide +kernel, by decide +kernel⟩
theorem ok_jsend {f : Addr} {fd : FuncData} (F : Fun K "send" "Judge.send" sJSend f fd) (TJ : TJd K c) (TP : TPo K c) (B : JB mg) (cP : Nw0 P w K mg base 1 c.P "Post" ["self", "aim", "words", "due"] (spPInit c)) (cD : Md P w K mg base 1 (c.J κ) "due_of" ["self", "sender", "hearer"] (spDue c κ)) : FnOk P w K mg base CX0 3 f fd ["self", "sender", "number", "hearer", "words"] (spRow c κ "send") := by
  obtain ⟨_, mNEVER⟩ := B.never
  obtain ⟨fP, fdP, GP, MP, mgP, bP⟩ := cP
  obtain ⟨fD, fdD, GD, MD, bD⟩ := cD
  refine F.ok scJSend (fun vs H Q E h => ?_) (fun cdv A outer s H vs Q E hr h => ?_)
  · obtain ⟨H0, A, J, N, r, e, rfl, _⟩ := h
    cases r <;> first | rfl | cases e
  · obtain ⟨H0, A, J, N, r, e, rfl, h, hN, k⟩ := h
    have hu := hu_of hr
    have hr2 : Room 2 _ := hr.mono (by decide)
    have hr1 : Room 1 _ := hr.mono (by decide)
    cases r with
    | send a n aim tx =>
      unfold RowOut at k
      rw [row_send] at k
      refine ⟨_, (pss_cons (ps_if (PW.pt (pw_or (pt_cmp (pc_dnotin hu (pv 1) (fldK (K := K) rfl (pv 0) rfl))) (pw_or1 (pt_cmpR op_le (pv 2) (pe_dget2 hu (fldK (K := K) rfl (pv 0) rfl) (pv 1) (pe_glob (v := .int (-1)) (by rfl) mNEVER ⟨_, rfl⟩) ⟨rfl, rfl, rfl, rfl⟩) (nomark _)))))
         (pss_one (ps_ret pe_bl))
         pss_nil)
         (pss_cons (ps_dput hu (fldK (K := K) rfl (pv 0) rfl) (pv 1) (pv 2) rfl)
         (pss_cons (ps_dput hu (fldK (K := K) rfl (pv 0) rfl) (pe_tup (pa_cons (pv 1) (pa_cons (pv 2) pa_nil))) (pe_make MP GP hr2 rfl mgP bP .nil pass0 (pa_cons (pv 3) (pa_cons (pv 4) (pa_cons (pe_meth (pv 0) (TJ.cl κ) MD GD hr1 bD .nil pass0 (pa_cons (pv 1) (pa_cons (pv 3) pa_nil))) pa_nil)))) rfl)
         (pss_one (ps_ret pe_bl))))), ?_⟩
      have g := DGet.k (k := Sum.inl a) h.here
      rw [valV_gK] at g
      refine ⟨_, rfl, _, rfl, A.j, c.J κ, A.dx, _, _, rfl, h.o, TJ.cl κ, TJ.present κ, jF_p, A.p, _, rfl, g, ?_⟩
      cases e1 : lookA J.here a with
      | none =>
        rw [if_pos (.inl e1)] at k
        exact ⟨_, rfl, iteT (k _ h.sm)⟩
      | some u =>
        refine ⟨_, rfl, iteF ?_⟩
        have gn := DGet.k (k := Sum.inl a) h.newest
        rw [valV_gK] at gn
        refine ⟨_, rfl, _, rfl, A.j, c.J κ, A.dx, _, _, rfl, h.o, TJ.cl κ, TJ.newest κ, jF_n, ?_⟩
        refine ⟨A.n, rfl, .inl ⟨_, .inl h.newest⟩, _, rfl, _, gn, ?_⟩
        rw [show (Option.map V.int (lookA J.newest a)).getD (V.int (-1)) = V.int ((lookA J.newest a).getD (-1)) by cases lookA J.newest a <;> rfl]
        refine ⟨_, _, rfl, rfl, _, rfl, iteP (fun e2 => ?_) (fun e2 => ?_)⟩
        · rw [if_pos (.inr e2)] at k
          exact k _ h.sm
        rw [if_neg (fun z => z.elim (fun z => by rw [e1] at z; cases z) e2)] at k
        have sz : (gK V.int J.newest).length < sizeLine := by
          rw [gK_len]
          exact Nat.lt_of_le_of_lt (Nat.le_trans h.l3 (show N ≤ 100000 by omega)) (by decide)
        refine ⟨_, rfl, _, rfl, A.j, c.J κ, A.dx, _, _, rfl, h.o, TJ.cl κ, TJ.newest κ, jF_n, _, rfl, A.n, _, rfl, DPut.k (k := Sum.inl a) h.newest sz, ?_⟩
        rw [putK_gK]
        obtain ⟨H1, e_H1, k1, t1, h1⟩ := wr_any h.newest rfl
        rw [← e_H1]
        clear e_H1
        have lk : ∀ z, lookA (putA J.newest a n) z = if z = a then some n else lookA J.newest z := fun z => lookA_put _ _ _ _
        have hno : lookP J.posts (a, n) = none := lookP_none.mpr fun hz => by
          obtain ⟨m, em, le⟩ := h.nw _ hz
          dsimp only at em le
          rw [em] at e2
          exact e2 le
        have j1 := h.setNew k1 h1 (fun z hz => by
          obtain ⟨m, em, le⟩ := h.nw z hz
          rw [lk]
          by_cases ez : z.1 = a
          · refine ⟨n, if_pos ez, ?_⟩
            rw [ez] at em
            rw [em] at e2
            have e2 : ¬ n ≤ m := e2
            omega
          · exact ⟨m, by rw [if_neg ez]; exact em, le⟩) (Nat.le_trans (putA_len _ _ _) (Nat.succ_le_succ h.l3))
        have ed : Jd.due { J with newest := putA J.newest a n } a aim = J.due a aim := by cases aim <;> rfl
        refine ⟨_, rfl, _, rfl, _, rfl, A.j, A.dx, _, rfl, j1.o, jF_no (by decide), _, rfl, _, rfl, H0, A, _, N + 1, a, aim, rfl, j1, by omega, fun H2 d nd s2 hd => ?_⟩
        rw [ed] at hd
        intro o dx n_o n_dx ne
        obtain ⟨H3, e3, s3, h3⟩ := jmk_any (C := c.P) n_o n_dx ne
        rw [e3]
        clear e3
        refine ⟨o, dx, d, aim, tx, J.due a aim, rfl, h3, fun H4 ea n_ea k4 ho he => ⟨rfl, ?_⟩⟩
        have s24 : Same H2 H4 := jmk_same n_o s3 k4
        have j4 := (j1.same s2).same s24
        refine ⟨_, rfl, A.j, c.J κ, A.dx, _, _, rfl, j4.o, TJ.cl κ, TJ.posts κ, jF_q, _, rfl, _, rfl, (by show 2 ≤ sizeLine; decide), fun t5 n_t5 => ?_⟩
        obtain ⟨H5, e_H5, s5, g5⟩ := new_any n_t5
        rw [← e_H5]
        clear e_H5
        have j5 := j4.same s5
        have szp : (gP (poR A) J.posts).length < sizeLine := by
          rw [gP_len]
          exact Nat.lt_of_le_of_lt (Nat.le_trans h.l2 (show N ≤ 100000 by omega)) (by decide)
        refine ⟨A.q, _, rfl, DPut.t (k := pk (a, n)) j5.posts g5 szp, ?_⟩
        obtain ⟨H6, e_H6, k6, t6, h6⟩ := wr_any j5.posts rfl
        rw [← e_H6]
        clear e_H6
        have n_o2 : H1 o = none := by
          cases q : H1 o with
          | none => rfl
          | some u => rw [s2 _ _ q] at n_o; cases n_o
        have n_e2 : H1 ea = none := by
          cases q : H1 ea with
          | none => rfl
          | some u => rw [s3 _ _ (s2 _ _ q)] at n_ea; cases n_ea
        refine k _ (A.add (a, n) o dx d ea) rfl (j1.addPost (x := ⟨aim, tx, J.due a aim, [], false⟩) (G := H5) hno (s2.trans (s24.trans s5)) n_o2 n_e2 ?_ (s5 _ _ (s24 _ _ hd)) (s5 _ _ he) k6 h6 ⟨Nat.zero_le _, Nat.le_trans (due_len _ _ _) (show J.here.length ≤ N + 1 + 1 from Nat.le_trans h.l1 (by omega))⟩ ⟨n, by rw [show ({ J with newest := putA J.newest a n } : Jd).newest = putA J.newest a n from rfl, lk, if_pos rfl], Int.le_refl _⟩)
        · have : poF (A.add (a, n) o dx d ea) (a, n) ⟨aim, tx, J.due a aim, [], false⟩ = ([("aim", aimV aim), ("words", .str tx), ("due", .ref d), ("ears", .ref ea), ("is_lost", .bl false)] : List (Str × V)) := by
            unfold poF Ja.add
            simp only [if_true]
          rw [this]
          exact s5 _ _ ho
    | _ => cases e
theorem scJHear : FnScope ["self", "hand", "sender", "number", "words", "post"] ["self", "hand", "sender", "number", "words"] (defScope sJHear) := ⟨rfl, rfl, rfl, by decide +kernel, rfl, by decide +kernel, by decide +kernel⟩
theorem ok_jhear {f : Addr} {fd : FuncData} (F : Fun K "hear" "Judge.hear" sJHear f fd) (TJ : TJd K c) (TP : TPo K c) (cF : Md P w K mg base 1 (c.J κ) "is_for" ["self", "post", "hand", "sender"] (spFor c κ)) (cT : Md P w K mg base 1 (c.J κ) "is_in_turn" ["self", "post", "hand", "letter"] (spTurn c κ)) : FnOk P w K mg base CX0 3 f fd ["self", "hand", "sender", "number", "words"] (spRow c κ "hear") := by
  obtain ⟨fF, fdF, GF, MF, bF⟩ := cF
  obtain ⟨fT, fdT, GT, MT, bT⟩ := cT
  refine F.ok scJHear (fun vs H Q E h => ?_) (fun cdv A outer s H vs Q E hr h => ?_)
  · obtain ⟨H0, A, J, N, r, e, rfl, _⟩ := h
    cases r <;> first | rfl | cases e
  · obtain ⟨H0, A, J, N, r, e, rfl, h, hN, k⟩ := h
    have hu := hu_of hr
    have hr1 : Room 1 _ := hr.mono (by decide)
    cases r with
    | hear hd a n tx =>
      unfold RowOut at k
      rw [row_hear] at k
      refine ⟨_, (pss_cons (ps_if (PW.pt (pw_or (pt_cmp (pc_dnotin hu (pv 1) (fldK (K := K) rfl (pv 0) rfl))) (pw_or1 (pt_cmp (pc_dnotin hu (pe_tup (pa_cons (pv 2) (pa_cons (pv 3) pa_nil))) (fldK (K := K) rfl (pv 0) rfl))))))
         (pss_one (ps_ret pe_bl))
         pss_nil)
         (pss_cons (ps_set (i := 5) scJHear.nd rfl (Or.inl rfl) (pe_dget hu (fldK (K := K) rfl (pv 0) rfl) (pe_tup (pa_cons (pv 2) (pa_cons (pv 3) pa_nil))) (fun _ _ => rfl)))
         (pss_cons (ps_if (PW.pt (pw_or (pt_cmpR op_ne (fldK (K := K) rfl (pv 5) rfl) (pv 4) (nomark _)) (pw_or1 (pt_not (pt_val (pe_meth (pv 0) (TJ.cl κ) MF GF hr1 bF .nil pass0 (pa_cons (pv 5) (pa_cons (pv 1) (pa_cons (pv 2) pa_nil)))))))))
         (pss_one (ps_ret pe_bl))
         pss_nil)
         (pss_cons (ps_if (pt_not (pt_val (pe_meth (pv 0) (TJ.cl κ) MT GT hr1 bT .nil pass0 (pa_cons (pv 5) (pa_cons (pv 1) (pa_cons (pe_tup (pa_cons (pv 2) (pa_cons (pv 3) pa_nil))) pa_nil))))))
         (pss_one (ps_ret pe_bl))
         pss_nil)
         (pss_cons (ps_dput hu (fldK (K := K) rfl (pv 5) rfl) (pv 1) pe_bl rfl)
         (pss_one (ps_ret pe_bl))))))), ?_⟩
      have g := DGet.k (k := Sum.inl hd) h.here
      rw [valV_gK] at g
      refine ⟨_, rfl, _, rfl, A.j, c.J κ, A.dx, _, _, rfl, h.o, TJ.cl κ, TJ.present κ, jF_p, A.p, _, rfl, g, ?_⟩
      cases e1 : lookA J.here hd with
      | none =>
        have k' : ∀ H', Same H0 H' → Q (.bl false) H' := by
          cases e2 : lookP J.posts (a, n) with
          | none => rw [e2] at k; exact k
          | some x => rw [e2] at k; dsimp only at k; rw [if_pos e1] at k; exact k
        exact ⟨_, rfl, iteT (k' _ h.sm)⟩
      | some u =>
        refine ⟨_, rfl, iteF ?_⟩
        refine ⟨_, rfl, _, rfl, (by show 2 ≤ sizeLine; decide), fun t n_t => ?_⟩
        obtain ⟨H1, e_H1, s1, g1⟩ := new_any n_t
        rw [← e_H1]
        clear e_H1
        have h1 := h.same s1
        have gp := DGet.t (k := pk (a, n)) h1.posts g1
        rw [valV_gP] at gp
        refine ⟨_, rfl, A.j, c.J κ, A.dx, _, _, rfl, h1.o, TJ.cl κ, TJ.posts κ, jF_q, A.q, _, rfl, gp, ?_⟩
        cases e2 : lookP J.posts (a, n) with
        | none =>
          rw [e2] at k
          exact ⟨_, rfl, iteT (k _ h1.sm)⟩
        | some x =>
          rw [e2] at k
          dsimp only at k
          rw [if_neg (by rw [e1]; simp)] at k
          refine ⟨_, rfl, iteF ?_⟩
          refine ⟨_, rfl, A.j, c.J κ, A.dx, _, _, rfl, h1.o, TJ.cl κ, TJ.posts κ, jF_q, _, rfl, _, rfl, (by show 2 ≤ sizeLine; decide), fun t2 n_t2 => ?_⟩
          obtain ⟨H2, e_H2, s2, g2⟩ := new_any n_t2
          rw [← e_H2]
          clear e_H2
          have h2 := h1.same s2
          have gg := DGet.t (k := pk (a, n)) h2.posts g2
          rw [valV_gP, e2] at gg
          refine ⟨A.q, _, rfl, gg, ?_⟩
          obtain ⟨p1, p2, p3⟩ := h2.po (a, n) x e2
          refine ⟨_, rfl, A.po (a, n), c.P, A.pd (a, n), _, _, rfl, p1, TP.cl, TP.words, rfl, _, rfl, rfl, _, rfl, iteNS' (fun e3 => ?_) (fun e3 => ?_)⟩
          · rw [if_pos e3] at k
            exact k _ h2.sm
          rw [if_neg (fun z => z e3)] at k
          refine ⟨_, rfl, A.j, A.dx, _, rfl, h2.o, jF_no (by decide), _, rfl, _, rfl, _, rfl, H0, A, J, N, (a, n), x, hd, a, rfl, h2, e2, by rw [e1]; rfl, fun H3 s3 => ?_⟩
          cases e4 : J.isFor x hd a with
          | false =>
            rw [if_pos e4] at k
            exact ⟨_, rfl, iteT (k _ (h2.sm.trans s3))⟩
          | true =>
            rw [if_neg (by rw [e4]; exact Bool.noConfusion)] at k
            refine ⟨_, rfl, iteF ?_⟩
            have h3 := h2.same s3
            refine ⟨_, rfl, A.j, A.dx, _, rfl, h3.o, jF_no (by decide), _, rfl, _, rfl, _, rfl, _, rfl, (by show 2 ≤ sizeLine; decide), fun t4 n_t4 => ?_⟩
            obtain ⟨H4, e_H4, s4, g4⟩ := new_any n_t4
            rw [← e_H4]
            clear e_H4
            have h4 := h3.same s4
            refine ⟨H0, A, J, N, (a, n), x, hd, t4, rfl, h4, by omega, e2, g4, fun e5 H5 h5 t5 => ?_, fun e5 H5 s5 => ?_⟩
            · rw [if_neg (by rw [e5]; exact Bool.noConfusion)] at k
              refine ⟨_, rfl, iteF ?_⟩
              obtain ⟨q1, q2, q3⟩ := h5.po (a, n) x e2
              have sze : (earK x.ears).length < sizeLine := by
                show (List.map _ x.ears).length < _
                rw [List.length_map]
                exact Nat.lt_of_le_of_lt (Nat.le_trans (h.l5 (a, n) x e2).1 (show N ≤ 100000 by omega)) (by decide)
              refine ⟨_, rfl, A.po (a, n), c.P, A.pd (a, n), _, _, rfl, q1, TP.cl, TP.ears, rfl, _, rfl, A.ea (a, n), _, rfl, DPut.k (k := Sum.inl hd) q3 sze, ?_⟩
              rw [putK_ear]
              obtain ⟨H6, e_H6, k6, t6, h6⟩ := wr_any q3 rfl
              rw [← e_H6]
              clear e_H6
              exact k _ _ rfl (h5.setEars (x := x) e2 k6 h6 (Nat.le_trans (earPut_len _ _) (by have := (h5.l5 (a, n) x e2).1; have := (h.l5 (a, n) x e2).1; omega)))
            · rw [if_pos e5] at k
              exact ⟨_, rfl, iteT (k _ s5)⟩
    | _ => cases e
theorem scJTurn : FnScope ["self", "post", "hand", "letter"] ["self", "post", "hand", "letter"] (defScope sJTurn) := ⟨rfl, rfl, rfl, by decide +kernel, rfl, by decide +kernel, by decide +kernel⟩
theorem ok_jturn {f : Addr} {fd : FuncData} (F : Fun K "is_in_turn" "Judge.is_in_turn" sJTurn f fd) : FnOk P w K mg base CX0 1 f fd ["self", "post", "hand", "letter"] (spTurn c .lo) := by
  refine F.ok scJTurn (fun vs H Q E h => ?_) (fun cdv A outer s H vs Q E hr h => ?_)
  · obtain ⟨H0, A, J, N, k, x, hd, b, rfl, _⟩ := h
    rfl
  · obtain ⟨H0, A, J, N, k, x, hd, b, rfl, h, hN, hk, hb, k1, k2⟩ := h
    refine ⟨_, (pss_one (ps_ret pe_bl)), ?_⟩
    exact k1 rfl H (h.mono (by omega)) (TK.refl _)
theorem scOTurn : FnScope ["self", "post", "hand", "letter"] ["self", "post", "hand", "letter"] (defScope sOTurn) := ⟨rfl, rfl, rfl, by decide +kernel, rfl, by decide +kernel, by decide +kernel⟩
theorem ok_oturn {f : Addr} {fd : FuncData} (F : Fun K "is_in_turn" "JudgeOnce.is_in_turn" sOTurn f fd) (TP : TPo K c) : FnOk P w K mg base CX0 1 f fd ["self", "post", "hand", "letter"] (spTurn c .on) := by
  refine F.ok scOTurn (fun vs H Q E h => ?_) (fun cdv A outer s H vs Q E hr h => ?_)
  · obtain ⟨H0, A, J, N, k, x, hd, b, rfl, _⟩ := h
    rfl
  · obtain ⟨H0, A, J, N, k, x, hd, b, rfl, h, hN, hk, hb, k1, k2⟩ := h
    have hu := hu_of hr
    obtain ⟨q1, q2, q3⟩ := h.po k x hk
    have g := DGet.k (k := Sum.inl hd) q3
    rw [valV_ear] at g
    refine ⟨_, (pss_one (ps_ret (pe_cmp (pc_dnotin hu (pv 2) (fldK (K := K) rfl (pv 1) rfl)) rfl))), ?_⟩
    refine ⟨_, rfl, _, rfl, A.po k, c.P, A.pd k, _, _, rfl, q1, TP.cl, TP.ears, rfl, A.ea k, _, rfl, g, ?_⟩
    by_cases e : hd ∈ x.ears
    · rw [if_pos e]
      exact k2 (decide_eq_false fun z => z e) H h.sm
    · rw [if_neg e]
      exact k1 (decide_eq_true e) H (h.mono (by omega)) (TK.refl _)
theorem scTTurn : FnScope ["self", "post", "hand", "letter", "sender", "number"] ["self", "post", "hand", "letter"] (defScope sTTurn) := ⟨rfl, rfl, rfl, by decide +kernel, rfl, by decide +kernel, by decide +kernel⟩
theorem ok_tturn {f : Addr} {fd : FuncData} (F : Fun K "is_in_turn" "JudgeTurn.is_in_turn" sTTurn f fd) (TJ : TJd K c) (B : JB mg) : FnOk P w K mg base CX0 1 f fd ["self", "post", "hand", "letter"] (spTurn c .tu) := by
  obtain ⟨_, mNEVER⟩ := B.never
  refine F.ok scTTurn (fun vs H Q E h => ?_) (fun cdv A outer s H vs Q E hr h => ?_)
  · obtain ⟨H0, A, J, N, k, x, hd, b, rfl, _⟩ := h
    rfl
  · obtain ⟨H0, A, J, N, k, x, hd, b, rfl, h, hN, hk, hb, k1, k2⟩ := h
    have hu := hu_of hr
    refine ⟨_, (pss_cons (ps_asg (pv 3) (pg_tup rfl (pgs_cons (pg_name (i := 4) scTTurn.nd rfl (Or.inl rfl)) (pgs_cons (pg_name (i := 5) scTTurn.nd rfl (Or.inl rfl)) pgs_nil))))
       (pss_cons (ps_if (pt_cmpR op_le (pv 5) (pe_dget2 hu (fldK (K := K) rfl (pv 0) rfl) (pe_tup (pa_cons (pv 2) (pa_cons (pv 4) pa_nil))) (pe_glob (v := .int (-1)) (by rfl) mNEVER ⟨_, rfl⟩) ⟨rfl, rfl, rfl, rfl⟩) (nomark _))
       (pss_one (ps_ret pe_bl))
       pss_nil)
       (pss_cons (ps_dput hu (fldK (K := K) rfl (pv 0) rfl) (pe_tup (pa_cons (pv 2) (pa_cons (pv 4) pa_nil))) (pv 5) rfl)
       (pss_one (ps_ret pe_bl))))), ?_⟩
    refine ⟨_, rfl, b, _, rfl, .inl (.inl hb), rfl, _, _, rfl, _, _, rfl, rfl, ?_⟩
    refine ⟨_, rfl, _, rfl, A.j, c.J .tu, A.dx, _, _, rfl, h.o, TJ.cl .tu, TJ.heights, rfl, A.h, rfl, .inr ⟨_, .inl (h.hts rfl)⟩, _, rfl, _, rfl, (by show 2 ≤ sizeLine; decide), fun t n_t => ?_⟩
    obtain ⟨H1, e_H1, s1, g1⟩ := new_any n_t
    rw [← e_H1]
    clear e_H1
    have h1 := h.same s1
    have g := DGet.t (k := pk (hd, k.1)) (h1.hts rfl) g1
    rw [valV_gP] at g
    refine ⟨_, g, ?_⟩
    rw [show (Option.map V.int (lookP J.hts (hd, k.1))).getD (V.int (-1)) = V.int ((lookP J.hts (hd, k.1)).getD (-1)) by cases lookP J.hts (hd, k.1) <;> rfl]
    refine ⟨_, _, rfl, rfl, _, rfl, iteP (fun e2 => ?_) (fun e2 => ?_)⟩
    · exact k2 (decide_eq_false fun z => by omega) _ h1.sm
    have sz : (gP (fun _ => V.int) J.hts).length < sizeLine := by
      rw [gP_len]
      exact Nat.lt_of_le_of_lt (Nat.le_trans h.l4 (show N ≤ 100000 by omega)) (by decide)
    refine ⟨_, rfl, _, rfl, A.j, c.J .tu, A.dx, _, _, rfl, h1.o, TJ.cl .tu, TJ.heights, rfl, _, rfl, _, rfl, (by show 2 ≤ sizeLine; decide), fun t2 n_t2 => ?_⟩
    obtain ⟨H2, e_H2, s2, g2⟩ := new_any n_t2
    rw [← e_H2]
    clear e_H2
    have h2 := h1.same s2
    refine ⟨A.h, _, rfl, DPut.t (k := pk (hd, k.1)) (h2.hts rfl) g2 sz, ?_⟩
    rw [putK_gP (fun _ => V.int)]
    have hh2 := h2.hts rfl
    obtain ⟨H3, e_H3, k3, t3, h3⟩ := wr_any hh2 rfl
    rw [← e_H3]
    clear e_H3
    exact k1 (decide_eq_true (by omega)) _ (h2.setHts k3 h3 (Nat.le_trans (putP_len _ _ _) (Nat.succ_le_succ h.l4))) ((TK.of s1).trans ((TK.of s2).trans t3))
theorem scJInit : FnScope ["self"] ["self"] (defScope sJInit) := ⟨rfl, rfl, rfl, by decide +kernel, rfl, by decide +kernel, by decide +kernel⟩
theorem ok_jinit {f : Addr} {fd : FuncData} (F : Fun K "__init__" "Judge.__init__" sJInit f fd) (TJ : TJd K c) : FnOk P w K mg base CX0 1 f fd ["self"] (spJInit c κ) := by
  refine F.ok scJInit (fun vs H Q E h => ?_) (fun cdv A outer s H vs Q E hr h => ?_)
  · obtain ⟨o, dx, rfl, _⟩ := h
    rfl
  · obtain ⟨o, dx, rfl, ho, k⟩ := h
    refine ⟨_, (pss_cons (ps_fld (pv 0) pe_dnewK rfl)
       (pss_cons (ps_fld (pv 0) pe_dnewT rfl)
       (pss_one (ps_fld (pv 0) pe_dnewK rfl)))), ?_⟩
    intro p n_p
    obtain ⟨H1, e_H1, s1, h1⟩ := new_any n_p
    rw [← e_H1]
    clear e_H1
    have ho1 := s1 _ _ ho
    have po : p ≠ o := fun z => by rw [z, ho] at n_p; cases n_p
    refine ⟨_, rfl, o, c.J κ, dx, _, rfl, ho1, TJ.cl κ, TJ.present κ, by decide, ?_⟩
    obtain ⟨H2, e_H2, k2, t2, h2⟩ := wr_any ho1 rfl
    rw [← e_H2]
    clear e_H2
    have hp2 := k2 _ _ (nin1 po) h1
    intro q n_q
    obtain ⟨H3, e_H3, s3, h3⟩ := new_any n_q
    rw [← e_H3]
    clear e_H3
    have ho3 := s3 _ _ h2
    have hp3 := s3 _ _ hp2
    have qo : q ≠ o := fun z => by rw [z, h2] at n_q; cases n_q
    refine ⟨_, rfl, o, c.J κ, dx, _, rfl, ho3, TJ.cl κ, TJ.posts κ, (by show 1 < 1000; decide), ?_⟩
    obtain ⟨H4, e_H4, k4, t4, h4⟩ := wr_any ho3 rfl
    rw [← e_H4]
    clear e_H4
    have hp4 := k4 _ _ (nin1 po) hp3
    have hq4 := k4 _ _ (nin1 qo) h3
    intro n n_n
    obtain ⟨H5, e_H5, s5, h5⟩ := new_any n_n
    rw [← e_H5]
    clear e_H5
    have ho5 := s5 _ _ h4
    have hp5 := s5 _ _ hp4
    have hq5 := s5 _ _ hq4
    have nno : n ≠ o := fun z => by rw [z, h4] at n_n; cases n_n
    refine ⟨_, rfl, o, c.J κ, dx, _, rfl, ho5, TJ.cl κ, TJ.newest κ, (by show 2 < 1000; decide), ?_⟩
    obtain ⟨H6, e_H6, k6, t6, h6⟩ := wr_any ho5 rfl
    rw [← e_H6]
    clear e_H6
    have fr : ∀ {G : Hp} {b : Addr}, Kp [o] H G → b ≠ o → G b = none → H b = none := fun {G b} kk hb hn => by
      cases e : H b with
      | none => rfl
      | some u => rw [kk _ _ (nin1 hb) e] at hn; cases hn
    have k12 : Kp [o] H H2 := (Kp.of s1).trans k2
    have k14 : Kp [o] H H4 := k12.trans ((Kp.of s3).trans k4)
    refine k H6 p q n n_p (fr k12 qo n_q) (fr k14 nno n_n) (fun z => by rw [← z, hp4] at n_n; cases n_n) (k14.trans ((Kp.of s5).trans k6)) h6 (k6 _ _ (nin1 po) hp5) (k6 _ _ (nin1 qo) hq5) (k6 _ _ (nin1 nno) h5)
theorem scTInit : FnScope ["self"] ["self"] (defScope sTInit) := ⟨rfl, rfl, rfl, by decide +kernel, rfl, by decide +kernel, by decide +kernel⟩
theorem ok_tinit {f : Addr} {fd : FuncData} (F : Fun K "__init__" "JudgeTurn.__init__" sTInit f fd) (TJ : TJd K c) {fJ : Addr} {fdJ : FuncData} (mgJ : mg "Judge" = some (.ref (c.J .lo))) (hsp : PySem.W.specialIn K (.ref (c.J .lo)) "__getattribute__" = some (some (.builtin "type.__getattribute__"))) (hrd : PySem.W.readsIn K (c.J .lo) (.type "type") = true)
    (vV : PySem.W.findCls K (.ref (c.J .lo)) (.type "type") "__init__" = some (.val (.ref fJ))) (hkJ : PySem.W.keepIn K (.ref fJ) = true) (GJ : FnOk P w K mg base CX0 1 fJ fdJ ["self"] (spJInit c .tu)) (bJ : Binds K fdJ ["self"] []) : FnOk P w K mg base CX0 2 f fd ["self"] (spTInit c) := by
  refine F.ok scTInit (fun vs H Q E h => ?_) (fun cdv A outer s H vs Q E hr h => ?_)
  · obtain ⟨o, dx, rfl, _⟩ := h
    rfl
  · obtain ⟨o, dx, rfl, ho, k⟩ := h
    have hr1 : Room 1 _ := hr.mono (by decide)
    refine ⟨_, (pss_cons (ps_expr (pe_clsfn (by rfl) mgJ hsp hrd vV hkJ GJ hr1 bJ .nil pass0 (pa_cons (pv 0) pa_nil)))
       (pss_one (ps_fld (pv 0) pe_dnewT rfl))), ?_⟩
    refine ⟨_, rfl, o, dx, rfl, ho, fun H1 p q n np nq nn pn k1 ho1 hp hq hn => ?_⟩
    intro h n_h
    obtain ⟨H2, e_H2, s2, h2⟩ := new_any n_h
    rw [← e_H2]
    clear e_H2
    have ho2 := s2 _ _ ho1
    have hno : h ≠ o := fun z => by rw [z, ho1] at n_h; cases n_h
    refine ⟨_, rfl, o, c.J .tu, dx, _, rfl, ho2, TJ.cl .tu, TJ.heights, (by show 3 < 1000; decide), ?_⟩
    obtain ⟨H3, e_H3, k3, t3, h3⟩ := wr_any ho2 rfl
    rw [← e_H3]
    clear e_H3
    have hp3 := k3 _ _ (nin1 (fun z => by rw [z, ho1] at hp; cases hp)) (s2 _ _ hp)
    have hq3 := k3 _ _ (nin1 (fun z => by rw [z, ho1] at hq; cases hq)) (s2 _ _ hq)
    have hn3 := k3 _ _ (nin1 (fun z => by rw [z, ho1] at hn; cases hn)) (s2 _ _ hn)
    have nh : H h = none := by
      cases e : H h with
      | none => rfl
      | some u => rw [k1 _ _ (nin1 hno) e] at n_h; cases n_h
    exact k H3 p q n h np nq nn nh pn (fun z => by rw [← z, hq] at n_h; cases n_h) (k1.trans ((Kp.of s2).trans k3)) h3 hp3 hq3 hn3 (k3 _ _ (nin1 hno) h2)
theorem scJEnd : FnScope ["self", "waiting", "letter", "post"] ["self", "waiting"] (defScope sJEnd) := ⟨rfl, rfl, rfl, by decide +kernel, rfl, by decide +kernel, by decide +kernel⟩
theorem ok_jend {f : Addr} {fd : FuncData} (F : Fun K "is_right_end" "Judge.is_right_end" sJEnd f fd) (TJ : TJd K c) (TP : TPo K c) (B : JB mg) (cDn : Md P w K mg base 1 c.P "is_done" ["self"] (spPDone c)) : FnOk P w K mg base CX0 2 f fd ["self", "waiting"] (spEnd K c κ) := by
  obtain ⟨fDn, fdDn, GDn, MDn, bDn⟩ := cDn
  refine F.ok scJEnd (fun vs H Q E h => ?_) (fun cdv A outer s H vs Q E hr h => ?_)
  · obtain ⟨H0, A, J, N, t, xs, ws, rfl, _⟩ := h
    rfl
  · obtain ⟨H0, A, J, N, t, xs, ws, rfl, h, hN, ht, lx, lw, hw, k⟩ := h
    have hu := hu_of hr
    have hr1 : Room 1 _ := hr.mono (by decide)
    unfold Jd.endOk at k
    have hNN := hN
    refine ⟨_, (pss_cons (ps_if (pt_not (pt_val (pe_callB (crAllK (K := K) rfl rfl) (by rfl) B.all (by decide +kernel) (pa_cons (pe_lc (own := [("letter", 2)]) (g := (gName 2)) (tt := tYes) rfl scJEnd.nd (pi_tup (pv 1)) (blkOk_by (N := ["self", "waiting", "letter", "post"]) (sc := defScope sJEnd) (by decide +kernel))
       (fun _ _ _ _ _ => (pg_name (i := 2) scJEnd.nd rfl (Or.inl rfl))) (fun _ _ _ _ _ => pts_nil) (fun _ _ _ _ _ => (pe_cmp (pc_din hu (pv 2) (fldK (K := K) rfl (pv 0) rfl)) rfl))) pa_nil))))
       (pss_one (ps_ret pe_bl))
       pss_nil)
       (pss_one (ps_ret (pe_callB (crAllK (K := K) rfl rfl) (by rfl) B.all (by decide +kernel) (pa_cons (pe_lock (pe_lc (own := [("letter", 2), ("post", 3)]) (g := (gTup K 2 (gCons (gName 2) (gCons (gName 3) gNil)))) (tt := tYes) rfl scJEnd.nd (pi_itemsT (fldK (K := K) rfl (pv 0) rfl)) (blkOk_by (N := ["self", "waiting", "letter", "post"]) (sc := defScope sJEnd) (by decide +kernel))
       (fun _ _ _ _ _ => (pg_tup rfl (pgs_cons (pg_name (i := 2) scJEnd.nd rfl (Or.inl rfl)) (pgs_cons (pg_name (i := 3) scJEnd.nd rfl (Or.inl rfl)) pgs_nil)))) (fun _ _ _ _ _ => pts_nil) (fun _ _ _ _ _ => (pe_or (pe_cmpR (inDTK (K := K) rfl (room65 hr)) (pv 2) (pv 1) (by rfl)) (pe_one (pe_meth0 (pv 3) TP.cl MDn GDn hr1 bDn .nil pass0)))))) pa_nil))))), ?_⟩
    refine ⟨_, rfl, t, rfl, ⟨_, ht⟩, fun D nD => ?_⟩
    refine comp_ls (L := ws) ((walk_tup (K := K) (a := t) (xs := xs)).cast lx) (fun H' s' => SqT.sm ht s') (fun _ => true) (fun q => .bl (lookP J.posts q).isSome) nD (by omega) ?_ ?_
    · rintro j b v H' H'' Q' N' hj s' ⟨rfl, hv⟩ hQ hN
      obtain ⟨ba, rfl, hb⟩ := hw j v b hv hj
      have hj' := h.same s'
      have g := DGet.t (k := pk b) hj'.posts (s' _ _ hb)
      rw [valV_gP] at g
      refine ⟨rfl, tYes_t (iteT ?_)⟩
      refine ⟨_, rfl, _, rfl, A.j, c.J κ, A.dx, _, _, rfl, hj'.o, TJ.cl κ, TJ.posts κ, jF_q, A.q, _, rfl, g, ?_⟩
      rw [Option.isSome_map]
      exact hQ rfl _ (L2.Same.refl _)
    intro H1 s1 hD1
    rw [filter_all] at hD1
    have h1 := h.same s1
    refine ⟨D, ws.map (fun q => (lookP J.posts q).isSome), rfl, .inl (.inl (by rw [List.map_map]; exact hD1)), ?_⟩
    rw [List.all_map]
    cases e1 : ws.all (fun k => (lookP J.posts k).isSome) with
    | false =>
      rw [e1] at k
      refine ⟨false, congrArg V.bl e1, ?_⟩
      exact k _ h1.sm
    | true =>
      rw [e1] at k
      refine ⟨true, congrArg V.bl e1, ?_⟩
      refine ⟨A.q, _, h1.posts, trivial, fun od => ?_⟩
      have ho := lock_at (od := od) (u := .dT (gP (poR A) J.posts)) h1.o (ne_of h1.o h1.posts (by intro z; cases z))
      have hpo : ∀ k x, lookP J.posts k = some x → PoAt c (upd H1 A.q (.frz od (.dT (gP (poR A) J.posts)))) A k x := fun k x e => by
        obtain ⟨q1, q2, q3⟩ := h1.po k x e
        exact ⟨lock_at q1 (ne_of q1 h1.posts (by intro z; cases z)), lock_at q2 (ne_of q2 h1.posts (by intro z; cases z)), lock_at q3 (ne_of q3 h1.posts (by intro z; cases z))⟩
      have hwt : ∀ b o, b ≠ A.q → H1 b = some o → upd H1 A.q (.frz od (.dT (gP (poR A) J.posts))) b = some o := fun b o nb e => lock_at e nb
      have htk : TK H1 (upd H1 A.q (.frz od (.dT (gP (poR A) J.posts)))) := (TK.refl _).wr h1.posts rfl
      generalize eG : upd H1 A.q (.frz od (.dT (gP (poR A) J.posts))) = G at ho hpo hwt htk
      have hp : G A.q = some (.frz od (.dT (gP (poR A) J.posts))) := by rw [← eG]; exact upd_same
      refine ⟨_, rfl, A.j, c.J κ, A.dx, _, _, rfl, ho, TJ.cl κ, TJ.posts κ, jF_q, A.q, od, _, rfl, hp, fun D2 nD2 => ?_⟩
      obtain ⟨nD0, ndq⟩ := lock_none h1.posts (by rw [eG]; exact nD2)
      have lp : J.posts.length ≤ 1000000 := Nat.le_trans h.l2 (by omega)
      refine comp_ls (L := J.posts) ((walk_itemsT (d := A.q) (o := od) (kvs := gP (poR A) J.posts)).cast (gP_len _ _)) (fun H' s' => s' _ _ hp) (fun _ => true) (fun e => .bl (decide (e.1 ∈ ws) || e.2.done)) nD2 lp ?_ ?_
      · rintro j b v H' H'' Q' N' hj s' ⟨T, k2, v2, q, hkv, rfl, nT, hq, rfl⟩ hQ hN
        unfold gP at hkv
        rw [List.getElem?_map, hj] at hkv
        cases hkv
        have bm : b ∈ J.posts := List.mem_of_getElem? hj
        have lb := lookP_of_mem h.nd (k := b.1) (v := b.2) bm
        have sT : Same H' (upd H' T (.tup [.ref q, poR A b.1 b.2])) := (L2.Same.refl _).new nT
        have hT : upd H' T (.tup [.ref q, poR A b.1 b.2]) T = some (.tup [.ref q, poR A b.1 b.2]) := upd_same
        generalize upd H' T (.tup [.ref q, poR A b.1 b.2]) = G2 at sT hT
        refine ⟨T, _, rfl, .inl (.inl hT), rfl, _, _, rfl, _, _, rfl, rfl, ?_⟩
        refine ⟨rfl, tYes_t (iteT ?_)⟩
        have sG := s'.trans sT
        refine ⟨_, rfl, _, rfl, prD b.1, ws.map prD, prD_dp (sT _ _ hq), .tup (SqT.sm (SqT.sm (SqT.tk (SqT.sm ht s1) htk) s') sT) (wts_dp lx fun i v k' e1 e2 => ?_), Shp.ok (prD_shp _) (by decide), Shp.ok (Shp.tup (n := 1) (Shp.map fun p => prD_shp p)) (by decide), ?_⟩
        · obtain ⟨ba, rfl, hb⟩ := hw i v k' e1 e2
          exact ⟨ba, rfl, sT _ _ (s' _ _ (htk.1 _ _ (s1 _ _ hb)))⟩
        rw [prD_any]
        have q' := hQ rfl
        by_cases eb : b.1 ∈ ws
        · rw [decide_eq_true eb] at q' ⊢
          exact ⟨_, rfl, iteT (q' _ sT)⟩
        · rw [decide_eq_false eb] at q' ⊢
          rw [Bool.false_or] at q'
          refine ⟨_, rfl, iteF ?_⟩
          obtain ⟨p1, p2, p3⟩ := hpo b.1 b.2 lb
          refine ⟨_, rfl, A.po b.1, A.pd b.1, _, rfl, sG _ _ p1, rfl, A, b.1, b.2, rfl, ⟨sG _ _ p1, sG _ _ p2, sG _ _ p3⟩, Nat.le_trans (h.l5 b.1 b.2 lb).2 hNN, fun H3 s3 => q' _ (sT.trans s3)⟩
      · intro H' s' hD
        rw [filter_all] at hD
        refine ⟨s' _ _ hp, D2, J.posts.map (fun e => decide (e.1 ∈ ws) || e.2.done), rfl, .inl (.inl (by rw [List.map_map, upd_ne ndq]; exact hD)), ?_⟩
        rw [List.all_map]
        exact k _ (h1.sm.trans (lock_same h1.posts (by rw [eG]; exact s')))
theorem scTkCome : FnScope ["judge", "parts"] ["judge", "parts"] (defScope sTkCome) := ⟨rfl, rfl, rfl, by decide +kernel, rfl, by decide +kernel, by decide +kernel⟩
theorem ok_tkcome {f : Addr} {fd : FuncData} (F : Fun K "take_come" "take_come" sTkCome f fd) (TJ : TJd K c) {fM : JK → Addr} {fdM : JK → FuncData} (M : ∀ κ, Meth K (c.J κ) "come" (fM κ)) (G : ∀ κ, FnOk P w K mg base CX0 3 (fM κ) (fdM κ) ["self", "hand", "sort"] (spRow c κ "come")) (b : ∀ κ, Binds K (fdM κ) ["self", "hand", "sort"] []) : FnOk P w K mg base CX0 4 f fd ["judge", "parts"] (spTake K c "come") := by
  refine F.ok scTkCome (fun vs H Q E h => ?_) (fun cdv A outer s H vs Q E hr h => ?_)
  · obtain ⟨κ, H0, A, J, N, r, pt, e, rfl, _⟩ := h
    rfl
  · obtain ⟨κ, H0, A, J, N, r, pt, e, rfl, hp, h, hN, k⟩ := h
    have hr3 : Room 3 _ := hr.mono (by decide)
    cases r with
    | come hd so =>
      refine ⟨_, (pss_one (ps_ret (pe_methI (pv 0) TJ.cl M G hr3 b .nil pass0 (pa_cons (pe_ix (ixT (K := K) rfl) (pv 1) pe_int (fun _ _ => rfl)) (pa_cons (pe_ix (ixT (K := K) rfl) (pv 1) pe_int (fun _ _ => rfl)) pa_nil))))), ?_⟩
      refine ⟨_, rfl, κ, A.j, A.dx, _, rfl, h.o, jF_no (by decide), _, rfl, pt, _, _, _, rfl, rfl, hp, atI_nat (j := 0) rfl, _, rfl, pt, _, _, _, rfl, rfl, hp, atI_nat (j := 1) rfl, H0, A, J, N, _, rfl, rfl, h, hN, k⟩
    | _ => cases e
theorem scTkGo : FnScope ["judge", "parts"] ["judge", "parts"] (defScope sTkGo) := ⟨rfl, rfl, rfl, by decide +kernel, rfl, by decide +kernel, by decide +kernel⟩
theorem ok_tkgo {f : Addr} {fd : FuncData} (F : Fun K "take_go" "take_go" sTkGo f fd) (TJ : TJd K c) {fM : JK → Addr} {fdM : JK → FuncData} (M : ∀ κ, Meth K (c.J κ) "go" (fM κ)) (G : ∀ κ, FnOk P w K mg base CX0 3 (fM κ) (fdM κ) ["self", "hand"] (spRow c κ "go")) (b : ∀ κ, Binds K (fdM κ) ["self", "hand"] []) : FnOk P w K mg base CX0 4 f fd ["judge", "parts"] (spTake K c "go") := by
  refine F.ok scTkGo (fun vs H Q E h => ?_) (fun cdv A outer s H vs Q E hr h => ?_)
  · obtain ⟨κ, H0, A, J, N, r, pt, e, rfl, _⟩ := h
    rfl
  · obtain ⟨κ, H0, A, J, N, r, pt, e, rfl, hp, h, hN, k⟩ := h
    have hr3 : Room 3 _ := hr.mono (by decide)
    cases r with
    | go hd =>
      refine ⟨_, (pss_one (ps_ret (pe_methI (pv 0) TJ.cl M G hr3 b .nil pass0 (pa_cons (pe_ix (ixT (K := K) rfl) (pv 1) pe_int (fun _ _ => rfl)) pa_nil)))), ?_⟩
      refine ⟨_, rfl, κ, A.j, A.dx, _, rfl, h.o, jF_no (by decide), _, rfl, pt, _, _, _, rfl, rfl, hp, atI_nat (j := 0) rfl, H0, A, J, N, _, rfl, rfl, h, hN, k⟩
    | _ => cases e
theorem scTkSend : FnScope ["judge", "parts"] ["judge", "parts"] (defScope sTkSend) := ⟨rfl, rfl, rfl, by decide +kernel, rfl, by decide +kernel, by decide +kernel⟩
theorem ok_tksend {f : Addr} {fd : FuncData} (F : Fun K "take_send" "take_send" sTkSend f fd) (TJ : TJd K c) {fM : JK → Addr} {fdM : JK → FuncData} (M : ∀ κ, Meth K (c.J κ) "send" (fM κ)) (G : ∀ κ, FnOk P w K mg base CX0 3 (fM κ) (fdM κ) ["self", "sender", "number", "hearer", "words"] (spRow c κ "send")) (b : ∀ κ, Binds K (fdM κ) ["self", "sender", "number", "hearer", "words"] []) : FnOk P w K mg base CX0 4 f fd ["judge", "parts"] (spTake K c "send") := by
  refine F.ok scTkSend (fun vs H Q E h => ?_) (fun cdv A outer s H vs Q E hr h => ?_)
  · obtain ⟨κ, H0, A, J, N, r, pt, e, rfl, _⟩ := h
    rfl
  · obtain ⟨κ, H0, A, J, N, r, pt, e, rfl, hp, h, hN, k⟩ := h
    have hr3 : Room 3 _ := hr.mono (by decide)
    cases r with
    | send a n aim tx =>
      refine ⟨_, (pss_one (ps_ret (pe_methI (pv 0) TJ.cl M G hr3 b .nil pass0 (pa_cons (pe_ix (ixT (K := K) rfl) (pv 1) pe_int (fun _ _ => rfl)) (pa_cons (pe_ix (ixT (K := K) rfl) (pv 1) pe_int (fun _ _ => rfl)) (pa_cons (pe_ix (ixT (K := K) rfl) (pv 1) pe_int (fun _ _ => rfl)) (pa_cons (pe_ix (ixT (K := K) rfl) (pv 1) pe_int (fun _ _ => rfl)) pa_nil))))))), ?_⟩
      refine ⟨_, rfl, κ, A.j, A.dx, _, rfl, h.o, jF_no (by decide), _, rfl, pt, _, _, _, rfl, rfl, hp, atI_nat (j := 0) rfl, _, rfl, pt, _, _, _, rfl, rfl, hp, atI_nat (j := 1) rfl, _, rfl, pt, _, _, _, rfl, rfl, hp, atI_nat (j := 2) rfl, _, rfl, pt, _, _, _, rfl, rfl, hp, atI_nat (j := 3) rfl, H0, A, J, N, _, rfl, rfl, h, hN, k⟩
    | _ => cases e
theorem scTkHear : FnScope ["judge", "parts"] ["judge", "parts"] (defScope sTkHear) := ⟨rfl, rfl, rfl, by decide +kernel, rfl, by decide +kernel, by decide +kernel⟩
theorem ok_tkhear {f : Addr} {fd : FuncData} (F : Fun K "take_hear" "take_hear" sTkHear f fd) (TJ : TJd K c) {fM : JK → Addr} {fdM : JK → FuncData} (M : ∀ κ, Meth K (c.J κ) "hear" (fM κ)) (G : ∀ κ, FnOk P w K mg base CX0 3 (fM κ) (fdM κ) ["self", "hand", "sender", "number", "words"] (spRow c κ "hear")) (b : ∀ κ, Binds K (fdM κ) ["self", "hand", "sender", "number", "words"] []) : FnOk P w K mg base CX0 4 f fd ["judge", "parts"] (spTake K c "hear") := by
  refine F.ok scTkHear (fun vs H Q E h => ?_) (fun cdv A outer s H vs Q E hr h => ?_)
  · obtain ⟨κ, H0, A, J, N, r, pt, e, rfl, _⟩ := h
    rfl
  · obtain ⟨κ, H0, A, J, N, r, pt, e, rfl, hp, h, hN, k⟩ := h
    have hr3 : Room 3 _ := hr.mono (by decide)
    cases r with
    | hear hd a n tx =>
      refine ⟨_, (pss_one (ps_ret (pe_methI (pv 0) TJ.cl M G hr3 b .nil pass0 (pa_cons (pe_ix (ixT (K := K) rfl) (pv 1) pe_int (fun _ _ => rfl)) (pa_cons (pe_ix (ixT (K := K) rfl) (pv 1) pe_int (fun _ _ => rfl)) (pa_cons (pe_ix (ixT (K := K) rfl) (pv 1) pe_int (fun _ _ => rfl)) (pa_cons (pe_ix (ixT (K := K) rfl) (pv 1) pe_int (fun _ _ => rfl)) pa_nil))))))), ?_⟩
      refine ⟨_, rfl, κ, A.j, A.dx, _, rfl, h.o, jF_no (by decide), _, rfl, pt, _, _, _, rfl, rfl, hp, atI_nat (j := 0) rfl, _, rfl, pt, _, _, _, rfl, rfl, hp, atI_nat (j := 1) rfl, _, rfl, pt, _, _, _, rfl, rfl, hp, atI_nat (j := 2) rfl, _, rfl, pt, _, _, _, rfl, rfl, hp, atI_nat (j := 3) rfl, H0, A, J, N, _, rfl, rfl, h, hN, k⟩
    | _ => cases e
theorem scTkLose : FnScope ["judge", "parts"] ["judge", "parts"] (defScope sTkLose) := ⟨rfl, rfl, rfl, by decide +kernel, rfl, by decide +kernel, by decide +kernel⟩
theorem ok_tklose {f : Addr} {fd : FuncData} (F : Fun K "take_lose" "take_lose" sTkLose f fd) (TJ : TJd K c) {fM : JK → Addr} {fdM : JK → FuncData} (M : ∀ κ, Meth K (c.J κ) "lose" (fM κ)) (G : ∀ κ, FnOk P w K mg base CX0 3 (fM κ) (fdM κ) ["self", "sender", "number"] (spRow c κ "lose")) (b : ∀ κ, Binds K (fdM κ) ["self", "sender", "number"] []) : FnOk P w K mg base CX0 4 f fd ["judge", "parts"] (spTake K c "lose") := by
  refine F.ok scTkLose (fun vs H Q E h => ?_) (fun cdv A outer s H vs Q E hr h => ?_)
  · obtain ⟨κ, H0, A, J, N, r, pt, e, rfl, _⟩ := h
    rfl
  · obtain ⟨κ, H0, A, J, N, r, pt, e, rfl, hp, h, hN, k⟩ := h
    have hr3 : Room 3 _ := hr.mono (by decide)
    cases r with
    | lose a n =>
      refine ⟨_, (pss_one (ps_ret (pe_methI (pv 0) TJ.cl M G hr3 b .nil pass0 (pa_cons (pe_ix (ixT (K := K) rfl) (pv 1) pe_int (fun _ _ => rfl)) (pa_cons (pe_ix (ixT (K := K) rfl) (pv 1) pe_int (fun _ _ => rfl)) pa_nil))))), ?_⟩
      refine ⟨_, rfl, κ, A.j, A.dx, _, rfl, h.o, jF_no (by decide), _, rfl, pt, _, _, _, rfl, rfl, hp, atI_nat (j := 0) rfl, _, rfl, pt, _, _, _, rfl, rfl, hp, atI_nat (j := 1) rfl, H0, A, J, N, _, rfl, rfl, h, hN, k⟩
    | _ => cases e
theorem scJOf : FnScope ["kind"] ["kind"] (defScope sJOf) := ⟨rfl, rfl, rfl, by decide +kernel, rfl, by decide +kernel, by decide +kernel⟩
theorem ok_jof {f : Addr} {fd : FuncData} (F : Fun K "judge_of" "judge_of" sJOf f fd) (cL : Nw0 P w K mg base 1 (c.J .lo) "Judge" ["self"] (spJInit c .lo)) (cO : Nw0 P w K mg base 1 (c.J .on) "JudgeOnce" ["self"] (spJInit c .on)) (cT : Nw0 P w K mg base 2 (c.J .tu) "JudgeTurn" ["self"] (spTInit c)) : FnOk P w K mg base CX0 4 f fd ["kind"] (spJOf c) := by
  obtain ⟨fL, fdL, GL, ML, mgL, bL⟩ := cL
  obtain ⟨fO, fdO, GO, MO, mgO, bO⟩ := cO
  obtain ⟨fT, fdT, GT, MT, mgT, bT⟩ := cT
  refine F.ok scJOf (fun vs H Q E h => ?_) (fun cdv A outer s H vs Q E hr h => ?_)
  · obtain ⟨κ, rfl, _⟩ := h
    rfl
  · obtain ⟨κ, rfl, k⟩ := h
    have hr2 : Room 2 _ := hr.mono (by decide)
    have hr3 : Room 3 _ := hr.mono (by decide)
    have fin : ∀ (κ' : JK) (o dx : Addr) (H1 H' : Hp) (p q n h : Addr), κ' = κ → H o = none → Same H H1 → H1 p = none → H1 q = none → H1 n = none → (κ' = .tu → H1 h = none) → p ≠ n → (κ' = .tu → q ≠ h) → Kp [o] H1 H' → H' o = some (.ins (c.J κ') dx (jF κ' ⟨o, dx, p, q, n, h, fun _ => 0, fun _ => 0, fun _ => 0, fun _ => 0⟩)) → H' p = some (.dK []) → H' q = some (.dT []) → H' n = some (.dK []) → (κ' = .tu → H' h = some (.dT [])) → Q (.ref o) H' := by
      rintro κ' o dx H1 H' p q n h rfl no s1 np nq nn nh pn qh k1 ho hp hq hn hh
      have fr : ∀ {b : Addr}, H1 b = none → H b = none := fun {b} hb => by
        cases e : H b with
        | none => rfl
        | some u => rw [s1 _ _ e] at hb; cases hb
      exact k H' ⟨o, dx, p, q, n, h, fun _ => 0, fun _ => 0, fun _ => 0, fun _ => 0⟩ ⟨jmk_same no s1 k1, ho, hp, hq, hn, hh, (by intro k x e; cases e), pn, qh, (by intro k hk; cases hk), (by intro k hk; cases hk), (by intro k hk; cases hk), List.nodup_nil, no, fr np, fr nq, fr nn, fun e => fr (nh e), (by intro k hk; cases hk), (by intro k hk; cases hk), List.nodup_nil, Nat.le_refl _, Nat.le_refl _, Nat.le_refl _, Nat.le_refl _, (by intro k x e; cases e)⟩
    refine ⟨_, (pss_cons (ps_if (pt_cmpR op_eq (pv 0) pe_str (nomark _))
       (pss_one (ps_ret (pe_make0 MO GO hr2 rfl mgO bO .nil pass0)))
       pss_nil)
       (pss_cons (ps_if (pt_cmpR op_eq (pv 0) pe_str (nomark _))
       (pss_one (ps_ret (pe_make0 MT GT hr3 rfl mgT bT .nil pass0)))
       pss_nil)
       (pss_one (ps_ret (pe_make0 ML GL hr2 rfl mgL bL .nil pass0))))), ?_⟩
    cases κ with
    | lo =>
      refine ⟨_, rfl, rfl, _, rfl, iteF ⟨_, rfl, rfl, _, rfl, iteF ?_⟩⟩
      intro o dx n_o n_dx ne
      obtain ⟨H1, e1, s1, h1⟩ := jmk_any (C := c.J .lo) n_o n_dx ne
      rw [e1]
      exact ⟨o, dx, rfl, h1, fun H' p q n np nq nn pn k1 ho hp hq hn => ⟨rfl, fin .lo o dx H1 H' p q n 0 rfl n_o s1 np nq nn (fun z => by cases z) pn (fun z => by cases z) k1 ho hp hq hn (fun z => by cases z)⟩⟩
    | on =>
      refine ⟨_, rfl, rfl, _, rfl, iteT ?_⟩
      intro o dx n_o n_dx ne
      obtain ⟨H1, e1, s1, h1⟩ := jmk_any (C := c.J .on) n_o n_dx ne
      rw [e1]
      exact ⟨o, dx, rfl, h1, fun H' p q n np nq nn pn k1 ho hp hq hn => ⟨rfl, fin .on o dx H1 H' p q n 0 rfl n_o s1 np nq nn (fun z => by cases z) pn (fun z => by cases z) k1 ho hp hq hn (fun z => by cases z)⟩⟩
    | tu =>
      refine ⟨_, rfl, rfl, _, rfl, iteF ⟨_, rfl, rfl, _, rfl, iteT ?_⟩⟩
      intro o dx n_o n_dx ne
      obtain ⟨H1, e1, s1, h1⟩ := jmk_any (C := c.J .tu) n_o n_dx ne
      rw [e1]
      exact ⟨o, dx, rfl, h1, fun H' p q n h np nq nn nh pn qh k1 ho hp hq hn hh => ⟨rfl, fin .tu o dx H1 H' p q n h rfl n_o s1 np nq nn (fun _ => nh) pn (fun _ => qh) k1 ho hp hq hn (fun _ => hh)⟩⟩
end
end Wn

set_option maxHeartbeats 800000
namespace Wn
open PySem L2
set_option pp.maxSteps 700
set_option pp.deepTerms false
local macro_rules | `(tactic| walk_at "h") => `(tactic| first | with_reducible assumption | (with_reducible exact upd_same) | (with_reducible apply g_upd; (walk_at "neq"); (walk_at "h")) | (with_reducible apply g_same; (with_reducible assumption); (walk_at "h")) | (with_reducible apply g_kp; (with_reducible assumption); (walk_at "nin"); (walk_at "h")) | (with_reducible apply g_tk; (with_reducible assumption); (walk_at "h")))
local macro_rules | `(tactic| walk_at "neq") => `(tactic| first | with_reducible assumption | (with_reducible apply Ne.symm; with_reducible assumption) | (with_reducible apply ne_upd; (with_reducible assumption)) | (with_reducible apply Ne.symm; with_reducible apply ne_upd; with_reducible assumption) | (with_reducible apply ne_fr; (with_reducible assumption); (walk_at "h")) | (with_reducible apply ne_fr'; (with_reducible assumption); (walk_at "h")) | (with_reducible apply ne_kd; (walk_at "h"); (walk_at "h"); (with_unfolding_all (intro z; cases z))))
local macro_rules | `(tactic| walk_at "nin") => `(tactic| first | (with_reducible exact nin0) | with_reducible assumption | (with_reducible apply ninc; (walk_at "neq"); (walk_at "nin")))
local macro_rules | `(tactic| walk_at "none") => `(tactic| first | with_reducible assumption | (with_reducible apply n_upd; (with_reducible assumption)) | (with_reducible apply n_same; (with_reducible assumption); (walk_at "none")) | (with_reducible apply n_kp; (with_reducible assumption); (walk_at "nin"); (walk_at "none")))
local macro_rules | `(tactic| walk_at "mem") => `(tactic| first | (with_reducible exact List.mem_cons_self) | (with_reducible apply List.mem_cons_of_mem; (walk_at "mem")))
local macro_rules | `(tactic| walk_at "am") => `(tactic| first | (with_reducible exact am0) | (with_reducible apply am1; (first | (apply Or.inl; walk_at "mem") | (apply Or.inr; walk_at "none")); (walk_at "am")))
local macro_rules | `(tactic| walk_at "tk") => `(tactic| first | (with_reducible exact TK.refl _) | with_reducible assumption | (with_reducible apply t_tk; (with_reducible assumption); (walk_at "tk")) | (with_reducible apply t_same; (with_reducible assumption); (walk_at "tk")) | (with_reducible apply t_new; (with_reducible assumption); (walk_at "tk")) | (with_reducible apply t_wr; (walk_at "h"); (with_unfolding_all rfl); (walk_at "tk")))
local macro_rules | `(tactic| walk_at "same") => `(tactic| first | (with_reducible exact L2.Same.refl _) | with_reducible assumption | (with_reducible apply s_same; (with_reducible assumption); (walk_at "same")) | (with_reducible apply s_new; (with_reducible assumption); (walk_at "same")) | (with_reducible apply s_wrn; (walk_at "none"); (walk_at "same")))
local macro_rules | `(tactic| walk_at "kp") => `(tactic| first | (with_reducible exact Kp.refl _ _) | with_reducible assumption | (with_reducible apply k_same; (with_reducible assumption); (walk_at "kp")) | (with_reducible apply k_kp; (with_reducible assumption); (walk_at "kp")) | (with_reducible apply k_kpm; (with_reducible assumption); (walk_at "am"); (walk_at "kp")) | (with_reducible apply k_new; (with_reducible assumption); (walk_at "kp")) | (with_reducible apply k_wr; (walk_at "mem"); (walk_at "kp")) | (with_reducible apply k_wrn; (walk_at "none"); (walk_at "kp")))
local macro_rules | `(tactic| walk_at "rp") => `(tactic| first | with_reducible assumption | (with_reducible exact Rp.int) | (with_reducible exact Rp.str) | (with_reducible exact Rp.none) | (with_reducible exact Rp.bool) | (with_reducible apply Rp.tk'; (with_reducible assumption); (walk_at "tk")) | (with_reducible apply Rp.tup; (walk_at "h"); (walk_at "rpl")))
local macro_rules | `(tactic| walk_at "rpl") => `(tactic| first | with_reducible assumption | (with_reducible exact RpL.nil) | (with_reducible apply RpL.tk'; (with_reducible assumption); (walk_at "tk")) | (with_reducible apply RpL.cons; (walk_at "rp"); (walk_at "rpl")))
local macro_rules | `(tactic| walk_at "g") => `(tactic| repeat (first | refine ⟨_, rfl, ?_⟩ | refine ⟨_, _, rfl, rfl, ?_⟩ | refine ⟨rfl, _, rfl, ?_⟩ | refine ⟨_, _, rfl, rfl, (by first | decide | omega), ?_⟩))
abbrev sDeck4 : Stmt := top 28
abbrev sMixed4 : Stmt := top 29
abbrev sNext4 : Stmt := top 30
abbrev sOne4 : Stmt := top 31
/-- a deck at d: its cells at cs; n draws were taken at most -/
def Deck4 (H : Hp) (d cs : Addr) (n : Int) : Prop :=
  ∃ (p l a : Int) (xs : List Int), H d = some (.lst [.ref cs, .int p, .int l, .int a]) ∧ H cs = some (.lst (xs.map V.int)) ∧ 0 ≤ p ∧ 0 ≤ l ∧ 0 ≤ a ∧ a ≤ n ∧ xs.length ≤ 63 ∧ (∀ x ∈ xs, 0 ≤ x) ∧ cs ≠ d
def spMixed4 : Sp := fun vs H Q _ => ∃ (c a : Int), vs = [.int c, .int a] ∧ 0 ≤ a ∧ a < 2 ^ 41 ∧ ∀ r : Int, Q (.int r) H
def spNext4 : Sp := fun vs H Q _ => ∃ (d cs : Addr) (m n : Int), vs = [.ref d, .int m] ∧ 0 < m ∧ m < 1000000000 ∧ n < 2 ^ 40 ∧ Deck4 H d cs n ∧
  ∀ (r : Int) (H' : Hp), 0 ≤ r → r < m → Kp [d] H H' → Deck4 H' d cs (n + 1) → Q (.int r) H'
def spDeck4 (K : PySem.W.Frag) : Sp := fun vs H Q _ => ∃ (a : Addr) (ns : List Int), vs = [.ref a] ∧ SqL K H a (ns.map V.int) ∧ ns.length ≤ 63 ∧
  ∀ (H' : Hp) (d cs : Addr), H d = none → H cs = none → Same H H' → Deck4 H' d cs 0 → Q (.ref d) H'
def spOne4 (K : PySem.W.Frag) : Sp := fun vs H Q _ => ∃ (d cs : Addr) (n : Int) (l : Addr) (xs : List V), vs = [.ref d, .ref l] ∧ n < 2 ^ 40 ∧ Deck4 H d cs n ∧ H l = some (.lst xs) ∧ l ≠ d ∧ 0 < xs.length ∧ xs.length ≤ 1000000 ∧
  ∀ (i : Nat) (x : V) (H' : Hp), xs[i]? = some x → Kp [d] H H' → Deck4 H' d cs (n + 1) → Q x H'
section
variable {H H' : Hp} {d cs : Addr} {n : Int}
theorem Deck4.kp {M : List Addr} (h : Deck4 H d cs n) (k : Kp M H H') (n1 : d ∉ M) (n2 : cs ∉ M) : Deck4 H' d cs n := by
  obtain ⟨p, l, a, xs, h1, h2, r⟩ := h
  exact ⟨p, l, a, xs, k _ _ n1 h1, k _ _ n2 h2, r⟩
theorem Deck4.mono {m : Int} (h : Deck4 H d cs n) (hm : n ≤ m) : Deck4 H d cs m := by
  obtain ⟨p, l, a, xs, h1, h2, h3, h4, h5, h6, r⟩ := h
  exact ⟨p, l, a, xs, h1, h2, h3, h4, h5, by omega, r⟩
theorem Deck4.same (h : Deck4 H d cs n) (s : Same H H') : Deck4 H' d cs n := h.kp (M := []) (Kp.of s) nin0 nin0
theorem Deck4.l1 (h : Deck4 H d cs n) : ∃ zs, H d = some (.lst zs) := by
  obtain ⟨p, l, a, xs, h1, h2, r⟩ := h
  exact ⟨_, h1⟩
theorem Deck4.l2 (h : Deck4 H d cs n) : ∃ zs, H cs = some (.lst zs) := by
  obtain ⟨p, l, a, xs, h1, h2, r⟩ := h
  exact ⟨_, h2⟩
theorem Deck4.new {p : Addr} (h : Deck4 H d cs n) (hp : H p = none) : p ≠ d ∧ p ≠ cs :=
  ⟨(ne_of_none h.l1.choose_spec hp).symm, (ne_of_none h.l2.choose_spec hp).symm⟩
end
theorem atInt4 {xs : List Int} {r : Int} (h0 : 0 ≤ r) (h1 : r < xs.length) : ∃ x, x ∈ xs ∧ atI (xs.map V.int) r = some (.int x) := by
  have hl : r.toNat < xs.length := by omega
  refine ⟨xs[r.toNat], List.getElem_mem hl, ?_⟩
  have e : ((r.toNat : Nat) : Int) = r := by omega
  have := atI_nat (xs := xs.map V.int) (j := r.toNat) (v := .int xs[r.toNat]) (by rw [List.getElem?_map, List.getElem?_eq_getElem hl]; rfl)
  rw [e] at this
  exact this
theorem rpl_ints4 {K : PySem.W.Frag} {H : Hp} (xs : List Int) : RpL K H (xs.map PyData.int) (xs.map V.int) := by
  induction xs with
  | nil => exact RpL.nil
  | cons n ns ih => exact RpL.cons Rp.int ih
theorem ints_eqv (xs : List Int) : PyData.eqv (.list (xs.map PyData.int)) (.list []) = decide (xs = []) := by
  cases xs <;> rfl
theorem ints_lay : ∀ xs : List Int, PyData.canLayAll0 (xs.map PyData.int) = true
  | [] => rfl
  | x :: xs => by
    rw [List.map_cons]
    show (PyData.canLay0 (.int x) && _) = true
    rw [ints_lay xs]
    rfl
theorem ints_dep : ∀ xs : List Int, PyData.depthAll (xs.map PyData.int) ≤ 1
  | [] => Nat.zero_le _
  | x :: xs => by
    rw [List.map_cons]
    show max (PyData.depth (.int x)) _ ≤ 1
    exact Nat.max_le.mpr ⟨Nat.zero_le _, ints_dep xs⟩

section
variable {P : Program} {w : World} {K : PySem.W.Frag} {mg : Str → Option Value} {base : Heap}
theorem scMixed4 : FnScope ["_law_cell", "_law_turn"] ["_law_cell", "_law_turn"] (defScope sMixed4) := ⟨rfl, rfl, rfl, by decide +kernel, rfl, by decide +kernel, by decide +kernel⟩
theorem ok_mixed4 {f : Addr} {fd : FuncData} (F : Fun K "_law_mixed" "_law_mixed" sMixed4 f fd) : FnOk P w K mg base CX0 1 f fd ["_law_cell", "_law_turn"] spMixed4 := by
  refine F.ok scMixed4 (fun vs H Q E h => ?_) (fun cdv A outer s H vs Q E hr h => ?_)
  · obtain ⟨c, a, rfl, _⟩ := h
    rfl
  · obtain ⟨c, a, rfl, a0, a1, k⟩ := h
    have z0 := Int.emod_nonneg c (show (2147483629 : Int) ≠ 0 by decide)
    have z1 := Int.emod_lt_of_pos c (show (0 : Int) < 2147483629 by decide)
    refine ⟨_, (pss_one (ps_ret (pe_op op_fdiv (pe_op op_mod (pe_op op_pow (pe_op op_add (pe_op op_add (pe_op op_mod (pv 0) pe_int) (pe_op op_mul (pv 1) pe_int)) pe_int) pe_int) pe_int) pe_int))), ?_⟩
    refine ⟨_, rfl, _, _, rfl, rfl, (by show (0 : Int) < 2147483629; decide), _, rfl, _, _, rfl, rfl, .inr ⟨by decide, by decide⟩, _, _, rfl, rfl, _, _, rfl, rfl, _, _, rfl, rfl, ⟨by decide, by decide, by omega⟩, _, _, rfl, rfl, (by show (0 : Int) < 2147483647; decide), _, _, rfl, rfl, ⟨by decide, by decide⟩, ?_⟩
    exact k _
theorem scNext4 : FnScope ["_law_deck_here", "_law_many", "_law_cell", "_law_digit", "_law_number_here"] ["_law_deck_here", "_law_many"] (defScope sNext4) := ⟨rfl, rfl, rfl, by decide +kernel, rfl, by decide +kernel, by decide +kernel⟩
theorem ok_next4 {f : Addr} {fd : FuncData} (F : Fun K "_law_next" "_law_next" sNext4 f fd) (mLen : mg "len" = none) (cM : Cd P w K mg base 1 "_law_mixed" ["_law_cell", "_law_turn"] spMixed4) : FnOk P w K mg base CX0 2 f fd ["_law_deck_here", "_law_many"] spNext4 := by
  obtain ⟨fM, fdM, GM, mM, kM, bM⟩ := cM
  refine F.ok scNext4 (fun vs H Q E h => ?_) (fun cdv A outer s H vs Q E hr h => ?_)
  · obtain ⟨d, cs, m, n, rfl, _⟩ := h
    rfl
  · obtain ⟨d, cs, m, n, rfl, m0, m1, hn, ⟨p, l, a, xs, h1, h2, p0, l0, a0, a1, lx, hx, ncd⟩, k⟩ := h
    have hr1 : Room 1 _ := hr.mono (by decide)
    refine ⟨_, (pss_cons (ps_asg (pe_op op_add (pe_ix (ixL (K := K) rfl) (pv 0) pe_int (fun _ _ => rfl)) pe_int) (pg_sub (pv 0) pe_int set_list))
       (pss_cons (ps_if (PW.pt (pw_and (pt_cmpR op_eq (pe_ix (ixL (K := K) rfl) (pv 0) pe_int (fun _ _ => rfl)) pe_int (nomark _)) (pw_and1 (pt_cmpR op_lt (pe_ix (ixL (K := K) rfl) (pv 0) pe_int (fun _ _ => rfl)) (pe_callB (lenK (K := K) rfl) (by rfl) mLen PySem.boot_len (pa_cons (pe_ix (ixL (K := K) rfl) (pv 0) pe_int (fun _ _ => rfl)) pa_nil)) (nomark _)))))
       (pss_cons (ps_set (i := 2) scNext4.nd rfl (Or.inl rfl) (pe_ix (ixL (K := K) rfl) (pe_ix (ixL (K := K) rfl) (pv 0) pe_int (fun _ _ => rfl)) (pe_ix (ixL (K := K) rfl) (pv 0) pe_int (fun _ _ => rfl)) (fun _ _ => rfl)))
       (pss_cons (ps_asg (pe_op op_add (pe_ix (ixL (K := K) rfl) (pv 0) pe_int (fun _ _ => rfl)) pe_int) (pg_sub (pv 0) pe_int set_list))
       (pss_cons (ps_if (pt_cmpR op_lt (pv 2) (pe_op op_pow pe_int pe_int) (nomark _))
       (pss_one (ps_ret (pe_op op_mod (pe_call GM hr1 rfl mM kM bM .nil pass0 (pa_cons (pv 2) (pa_cons (pe_ix (ixL (K := K) rfl) (pv 0) pe_int (fun _ _ => rfl)) pa_nil))) (pv 1))))
       pss_nil)
       (pss_one (ps_asg (pv 2) (pg_sub (pv 0) pe_int set_list))))))
       pss_nil)
       (pss_cons (ps_if (pt_cmpR op_gt (pe_ix (ixL (K := K) rfl) (pv 0) pe_int (fun _ _ => rfl)) pe_int (nomark _))
       (pss_cons (ps_set (i := 3) scNext4.nd rfl (Or.inl rfl) (pe_op op_mod (pe_ix (ixL (K := K) rfl) (pv 0) pe_int (fun _ _ => rfl)) (pv 1)))
       (pss_cons (ps_asg (pe_op op_fdiv (pe_ix (ixL (K := K) rfl) (pv 0) pe_int (fun _ _ => rfl)) (pv 1)) (pg_sub (pv 0) pe_int set_list))
       (pss_one (ps_ret (pv 3)))))
       pss_nil)
       (pss_cons (ps_set (i := 4) scNext4.nd rfl (Or.inl rfl) (pe_op op_mul (pe_ix (ixL (K := K) rfl) (pv 0) pe_int (fun _ _ => rfl)) pe_int))
       (pss_cons (ps_if (pt_cmpR (neDK (K := K) rfl hr.units) (pe_ix (ixL (K := K) rfl) (pv 0) pe_int (fun _ _ => rfl)) (pe_lst pa_nil) (nomark _))
       (pss_one (ps_set (i := 4) scNext4.nd rfl (Or.inl rfl) (pe_op op_add (pv 4) (pe_ix (ixL (K := K) rfl) (pe_ix (ixL (K := K) rfl) (pv 0) pe_int (fun _ _ => rfl)) (pe_op op_mod (pe_op op_mul (pe_ix (ixL (K := K) rfl) (pv 0) pe_int (fun _ _ => rfl)) pe_int) (pe_callB (lenK (K := K) rfl) (by rfl) mLen PySem.boot_len (pa_cons (pe_ix (ixL (K := K) rfl) (pv 0) pe_int (fun _ _ => rfl)) pa_nil))) (fun _ _ => rfl)))))
       pss_nil)
       (pss_one (ps_ret (pe_op op_mod (pe_call GM hr1 rfl mM kM bM .nil pass0 (pa_cons (pv 4) (pa_cons (pe_ix (ixL (K := K) rfl) (pv 0) pe_int (fun _ _ => rfl)) pa_nil))) (pv 1))))))))), ?_⟩
    refine ⟨_, rfl, d, _, _, _, rfl, rfl, SqL.of h1, rfl, _, _, rfl, rfl, _, rfl, d, _, _, 3, rfl, rfl, h1, rfl, ?_⟩
    rw [show [V.ref cs, .int p, .int l, .int a].set 3 (.int (a + 1)) = [V.ref cs, .int p, .int l, .int (a + 1)] from rfl]
    obtain ⟨H1, e_H1, k1, t1, g1⟩ := wr_any h1 rfl
    rw [← e_H1]
    clear e_H1
    have g2 : H1 cs = some (.lst (xs.map V.int)) := k1 _ _ (nin1 ncd) h2
    dsimp only [tNext]
    refine seq_if (fun σ' H' => ∃ (p' l' : Int) (v2 : Option V), σ' = [some (.ref d), some (.int m), v2, none, none] ∧ H' d = some (.lst [.ref cs, .int p', .int l', .int (a + 1)]) ∧ Kp [d] H H' ∧ 0 ≤ p' ∧ 0 ≤ l') ?rest (fun rest => ?_)
    case rest =>
      rintro σ' H' ⟨p', l', v2, rfl, g3, k3, p0', l0'⟩
      have g4 : H' cs = some (.lst (xs.map V.int)) := k3 _ _ (nin1 ncd) h2
      refine ⟨_, rfl, d, _, _, _, rfl, rfl, SqL.of g3, rfl, _, _, rfl, rfl, _, rfl, iteP (fun c => ?_) (fun c => ?_)⟩
      · refine ⟨_, rfl, d, _, _, _, rfl, rfl, SqL.of g3, rfl, _, rfl, _, _, rfl, rfl, m0, ?_⟩
        refine ⟨_, rfl, d, _, _, _, rfl, rfl, SqL.of g3, rfl, _, rfl, _, _, rfl, rfl, ⟨m0, by omega⟩, _, rfl, d, _, _, 2, rfl, rfl, g3, rfl, ?_⟩
        rw [show [V.ref cs, .int p', .int l', .int (a + 1)].set 2 (.int (l' / m)) = [V.ref cs, .int p', .int (l' / m), .int (a + 1)] from rfl]
        obtain ⟨H5, e_H5, k5, t5, g5⟩ := wr_any g3 rfl
        rw [← e_H5]
        clear e_H5
        refine ⟨_, rfl, ?_⟩
        exact k _ _ (Int.emod_nonneg _ (by omega)) (Int.emod_lt_of_pos _ m0) (k3.trans k5) ⟨p', l' / m, a + 1, xs, g5, k5 _ _ (nin1 ncd) g4, p0', Int.ediv_nonneg l0' (by omega), by omega, by omega, lx, hx, ncd⟩
      · have fin : ∀ (z : Int) (H6 : Hp), Same H' H6 → ∀ r, 0 ≤ r → r < m → Q (.int r) H6 := fun z H6 s6 r r0 r1 => k r H6 r0 r1 (k3.trans (Kp.of s6)) ⟨p', l', a + 1, xs, s6 _ _ g3, s6 _ _ g4, p0', l0', by omega, by omega, lx, hx, ncd⟩
        refine ⟨_, rfl, d, _, _, _, rfl, rfl, SqL.of g3, rfl, _, _, rfl, rfl, .inr ⟨by decide, by decide⟩, ?_⟩
        dsimp only [tNext, gName, List.set]
        refine seq_if (fun σ' H6 => Same H' H6 ∧ ∃ (z : Int), σ' = [some (.ref d), some (.int m), v2, none, some (.int z)]) ?rest2 (fun rest2 => ?_)
        case rest2 =>
          rintro σ' H6 ⟨s6, z, rfl⟩
          refine ⟨_, rfl, _, rfl, d, _, _, _, rfl, rfl, SqL.of (s6 _ _ g3), rfl, z, a + 1, rfl, by omega, by omega, fun r => ?_⟩
          refine ⟨_, rfl, _, _, rfl, rfl, m0, ?_⟩
          exact fin z H6 s6 _ (Int.emod_nonneg _ (by omega)) (Int.emod_lt_of_pos _ m0)
        refine ⟨_, rfl, d, _, _, _, rfl, rfl, SqL.of g3, rfl, ?_⟩
        refine ⟨Nat.zero_le _, fun e n_e => ?_⟩
        obtain ⟨H6, e_H6, s6, g6⟩ := new_any n_e
        rw [← e_H6]
        clear e_H6
        have g4' := s6 _ _ g4
        refine ⟨.list (xs.map PyData.int), .list [], .lst (SqL.of g4') (dp_ints xs), .lst (SqL.of g6) .nil, ?_, rfl, _, rfl, ?_⟩
        · exact Shp.ok (n := 2) (Shp.lst (Shp.map fun _ => Shp.int)) (by decide)
        rw [ints_eqv]
        by_cases ex : xs = []
        · rw [decide_eq_true ex]
          exact iteF (rest2 _ _ ⟨s6, _, rfl⟩)
        · rw [decide_eq_false ex]
          refine iteT ?_
          have lx0 : (0 : Int) < (xs.length : Int) := by have := List.length_pos_iff.mpr ex; omega
          have g3' := s6 _ _ g3
          refine ⟨_, rfl, _, rfl, d, _, _, _, rfl, rfl, SqL.of g3', rfl, _, rfl, d, _, _, _, rfl, rfl, SqL.of g3', rfl, _, _, rfl, rfl, .inr ⟨by decide, by decide⟩, _, rfl, d, _, _, _, rfl, rfl, SqL.of g3', rfl, _, xs.length, rfl, .inl ⟨_, SqL.of g4', (List.length_map _).symm⟩, _, _, rfl, rfl, lx0, ?_⟩
          obtain ⟨x, ex', ax⟩ := atInt4 (xs := xs) (Int.emod_nonneg ((a + 1) * 7) (show (xs.length : Int) ≠ 0 by omega)) (Int.emod_lt_of_pos ((a + 1) * 7) lx0)
          refine ⟨cs, _, _, _, rfl, rfl, SqL.of g4', ax, _, _, rfl, rfl, ?_⟩
          exact rest2 _ _ ⟨s6, _, rfl⟩
    refine ⟨_, rfl, d, _, _, _, rfl, rfl, SqL.of g1, rfl, rfl, _, rfl, iteI (fun c => ?_) (fun c => iteF (rest _ _ ⟨p, l, _, rfl, g1, k1, p0, l0⟩))⟩
    refine ⟨_, rfl, d, _, _, _, rfl, rfl, SqL.of g1, rfl, _, rfl, d, _, _, _, rfl, rfl, SqL.of g1, rfl, _, xs.length, rfl, .inl ⟨_, SqL.of g2, (List.length_map _).symm⟩, _, _, rfl, rfl, _, rfl, iteP (fun c2 => ?_) (fun c2 => rest _ _ ⟨p, l, _, rfl, g1, k1, p0, l0⟩)⟩
    obtain ⟨x, ex, ax⟩ := atInt4 (xs := xs) p0 c2
    refine ⟨_, rfl, d, _, _, _, rfl, rfl, SqL.of g1, rfl, _, rfl, d, _, _, _, rfl, rfl, SqL.of g1, rfl, cs, _, _, _, rfl, rfl, SqL.of g2, ax, ?_⟩
    refine ⟨_, rfl, d, _, _, _, rfl, rfl, SqL.of g1, rfl, _, _, rfl, rfl, _, rfl, d, _, _, 1, rfl, rfl, g1, rfl, ?_⟩
    rw [show [V.ref cs, .int p, .int l, .int (a + 1)].set 1 (.int (p + 1)) = [V.ref cs, .int (p + 1), .int l, .int (a + 1)] from rfl]
    obtain ⟨H2, e_H2, k2, t2, g3⟩ := wr_any g1 rfl
    rw [← e_H2]
    clear e_H2
    have g4 : H2 cs = some (.lst (xs.map V.int)) := k2 _ _ (nin1 ncd) g2
    refine ⟨_, rfl, _, _, rfl, rfl, ⟨by decide, by decide, by decide⟩, ?_⟩
    refine ⟨_, _, rfl, rfl, _, rfl, iteP (fun c3 => ?_) (fun c3 => ?_)⟩
    · refine ⟨_, rfl, _, rfl, d, _, _, _, rfl, rfl, SqL.of g3, rfl, x, a + 1, rfl, by omega, by omega, fun r => ?_⟩
      refine ⟨_, rfl, _, _, rfl, rfl, m0, ?_⟩
      exact k _ _ (Int.emod_nonneg _ (by omega)) (Int.emod_lt_of_pos _ m0) (k1.trans k2) ⟨p + 1, l, a + 1, xs, g3, g4, by omega, l0, by omega, by omega, lx, hx, ncd⟩
    · refine ⟨_, rfl, _, rfl, d, _, _, 2, rfl, rfl, g3, rfl, ?_⟩
      rw [show [V.ref cs, .int (p + 1), .int l, .int (a + 1)].set 2 (.int x) = [V.ref cs, .int (p + 1), .int x, .int (a + 1)] from rfl]
      obtain ⟨H3, e_H3, k3, t3, g5⟩ := wr_any g3 rfl
      rw [← e_H3]
      clear e_H3
      exact rest _ _ ⟨p + 1, x, _, rfl, g5, k1.trans (k2.trans k3), by omega, hx x ex⟩
theorem scOne4 : FnScope ["_law_deck_here", "_law_things"] ["_law_deck_here", "_law_things"] (defScope sOne4) := ⟨rfl, rfl, rfl, by decide +kernel, rfl, by decide +kernel, by decide +kernel⟩
theorem ok_one4 {f : Addr} {fd : FuncData} (F : Fun K "_law_one" "_law_one" sOne4 f fd) (mLen : mg "len" = none) (cN : Cd P w K mg base 2 "_law_next" ["_law_deck_here", "_law_many"] spNext4) : FnOk P w K mg base CX0 3 f fd ["_law_deck_here", "_law_things"] (spOne4 K) := by
  obtain ⟨fN, fdN, GN, mN, kN, bN⟩ := cN
  refine F.ok scOne4 (fun vs H Q E h => ?_) (fun cdv A outer s H vs Q E hr h => ?_)
  · obtain ⟨d, cs, n, l, xs, rfl, _⟩ := h
    rfl
  · obtain ⟨d, cs, n, l, xs, rfl, hn, D, hl, nl, x0, x1, k⟩ := h
    have hr2 : Room 2 _ := hr.mono (by decide)
    refine ⟨_, (pss_one (ps_ret (pe_ix (ixL (K := K) rfl) (pv 1) (pe_call GN hr2 rfl mN kN bN .nil pass0 (pa_cons (pv 0) (pa_cons (pe_callB (lenK (K := K) rfl) (by rfl) mLen PySem.boot_len (pa_cons (pv 1) pa_nil)) pa_nil))) (fun _ _ => rfl)))), ?_⟩
    refine ⟨_, rfl, _, rfl, _, rfl, _, xs.length, rfl, .inl ⟨_, SqL.of hl, rfl⟩, d, cs, xs.length, n, rfl, by omega, by omega, hn, D, fun r H1 r0 r1 k1 D1 => ?_⟩
    obtain ⟨v, ev, e2⟩ := at_of (xs := xs) r0 r1
    exact ⟨l, xs, r, v, rfl, rfl, SqL.of (k1 _ _ (nin1 nl) hl), ev, k r.toNat v _ e2 k1 D1⟩
theorem scDeck4 : FnScope ["_law_script", "_law_cell"] ["_law_script"] (defScope sDeck4) := ⟨rfl, rfl, rfl, by decide +kernel, rfl, by decide +kernel, by decide +kernel⟩
theorem ok_deck4 {f : Addr} {fd : FuncData} (F : Fun K "_law_deck" "_law_deck" sDeck4 f fd) (mAbs : mg "abs" = none) : FnOk P w K mg base CX0 1 f fd ["_law_script"] (spDeck4 K) := by
  refine F.ok scDeck4 (fun vs H Q E h => ?_) (fun cdv A outer s H vs Q E hr h => ?_)
  · obtain ⟨a, ns, rfl, _⟩ := h
    rfl
  · obtain ⟨a, ns, rfl, hS, hl, k⟩ := h
    refine ⟨_, (pss_one (ps_ret (pe_lst (pa_cons (pe_lc (own := [("_law_cell", 1)]) (g := (gName 1)) (tt := tYes) rfl scDeck4.nd (pi_list (pe_slice (slL (K := K) rfl) (pv 0) po_none (po_some pe_int))) (blkOk_by (N := ["_law_script", "_law_cell"]) (sc := defScope sDeck4) (by decide +kernel))
       (fun _ _ _ _ _ => (pg_name (i := 1) scDeck4.nd rfl (Or.inl rfl))) (fun _ _ _ _ _ => pts_nil) (fun _ _ _ _ _ => (pe_callB call_abs (by rfl) mAbs (by decide +kernel) (pa_cons (pv 1) pa_nil)))) (pa_cons pe_int (pa_cons pe_int (pa_cons pe_int pa_nil))))))), ?_⟩
    refine ⟨_, rfl, _, rfl, a, _, rfl, hS, fun l1 n_l1 => ?_⟩
    have ems : cutV (ns.map V.int) none (some 63) = ns.map V.int := by
      unfold cutV
      have e : HT.sIx (ns.map V.int).length (ns.map V.int).length (some 63) = min 63 (ns.map V.int).length := HT.sIx_nat _ _ 63
      rw [e, HT.sIx_none, List.drop_zero, Nat.sub_zero, List.length_map, Nat.min_eq_right hl]
      exact List.take_of_length_le (by rw [List.length_map]; exact Nat.le_refl _)
    rw [ems]
    obtain ⟨H1, e_H1, s1, e1⟩ := new_any n_l1
    rw [← e_H1]
    clear e_H1
    refine ⟨l1, rfl, ⟨_, SqL.of e1⟩, fun cs n_cs => ?_⟩
    refine mapI_lc (K := K) (i := 1) (enc := PyData.int) (fun x => if x < 0 then -x else x) e1 (rpl_ints4 ns) n_cs (by omega) ?_ ?_
    · intro b x H' Q' hb rx s' hQ
      have ex := Rp.int_eq rx
      subst ex
      exact ⟨_, rfl, _, rfl, hQ⟩
    · intro H2 s2 e2
      refine ⟨(by show 4 ≤ sizeLine; decide), fun d n_d => ?_⟩
      obtain ⟨H3, e_H3, s3, e3⟩ := new_any n_d
      rw [← e_H3]
      clear e_H3
      refine k _ d cs (by walk_at "none") (by walk_at "none") (by walk_at "same") ⟨0, 0, 0, _, e3, s3 _ _ e2, by omega, by omega, by omega, by omega, by rw [List.length_map]; exact hl, fun x hx => ?_, by walk_at "neq"⟩
      obtain ⟨y, _, rfl⟩ := List.mem_map.mp hx
      split <;> omega
end
end Wn

namespace Wn
open PySem L2
/-! ### where the stands of the laws' own judge lie -/
structure St5 where
  l : Addr
  T : Addr
  P : Addr
  E : Addr
  L : Addr
  N : Addr
def St5.ws (a : St5) : List Addr := [a.T, a.P, a.E, a.L, a.N]
def gA (as : List ((Int × Int) × Addr)) : List (List Key × V) := gP (fun _ b => V.ref b) as
structure Fam {α : Type} (as : List ((Int × Int) × Addr)) (xs : List ((Int × Int) × α)) (R : Addr → α → Prop) : Prop where
  ks : as.map (·.1) = xs.map (·.1)
  at_ : ∀ k b, lookP as k = some b → ∃ x, lookP xs k = some x ∧ R b x
section
variable {α : Type} {as : List ((Int × Int) × Addr)} {xs : List ((Int × Int) × α)} {R R' : Addr → α → Prop}
theorem Fam.mono (h : Fam as xs R) (m : ∀ b x, R b x → R' b x) : Fam as xs R' := ⟨h.ks, fun k b e => let ⟨x, e1, e2⟩ := h.at_ k b e; ⟨x, e1, m b x e2⟩⟩
theorem Fam.nil : Fam [] ([] : List ((Int × Int) × α)) R := ⟨rfl, fun k b e => by cases e⟩
theorem Fam.put {k : Int × Int} {b : Addr} {x : α} (h : Fam as xs R) (r : R b x) : Fam (putP as k b) (putP xs k x) R := by
  refine ⟨by rw [keysP_put, keysP_put, h.ks], fun j c e => ?_⟩
  rw [lookP_put] at e ⊢
  by_cases ej : j = k
  · rw [if_pos ej] at e ⊢
    cases e
    exact ⟨x, rfl, r⟩
  · rw [if_neg ej] at e ⊢
    exact h.at_ j c e
theorem Fam.none (h : Fam as xs R) {k : Int × Int} : lookP as k = none ↔ lookP xs k = none := by rw [lookP_none, lookP_none, h.ks]
theorem Fam.get (h : Fam as xs R) {k : Int × Int} {x : α} (e : lookP xs k = some x) : ∃ b, lookP as k = some b ∧ R b x := by
  cases ea : lookP as k with
  | none => rw [h.none.mp ea] at e; cases e
  | some b =>
    obtain ⟨y, ey, r⟩ := h.at_ k b ea
    rw [ey] at e
    cases e
    exact ⟨b, rfl, r⟩
theorem Fam.len (h : Fam as xs R) : as.length = xs.length := by
  have := congrArg List.length h.ks
  rwa [List.length_map, List.length_map] at this
end
def PoA (H0 H : Hp) (b : Addr) (x : Option Int × Str × List Int) : Prop := H0 b = none ∧ ∃ d, H0 d = none ∧ H b = some (.tup [aimV x.1, .str x.2.1, .ref d]) ∧ H d = some (.lst (x.2.2.map V.int))
def LiA (H0 H : Hp) (b : Addr) (xs : List Int) : Prop := H0 b = none ∧ H b = some (.lst (xs.map V.int))
structure SdAt (H0 H : Hp) (a : St5) (S : Sd) : Prop where
  o : H a.l = some (.lst [.ref a.T, .ref a.P, .ref a.E, .ref a.L, .ref a.N])
  t : H a.T = some (.dK (gK V.str S.there))
  p : ∃ as, H a.P = some (.dT (gA as)) ∧ Fam as S.posts (PoA H0 H)
  e : ∃ as, H a.E = some (.dT (gA as)) ∧ Fam as S.heard (LiA H0 H)
  l : H a.L = some (.dT (gP (fun _ => V.bl) S.lost))
  n : H a.N = some (.dK (gK V.int S.newest))
  tn : a.T ≠ a.N
  pe : a.P ≠ a.E
  pl : a.P ≠ a.L
  el : a.E ≠ a.L
  fr : ∀ x ∈ a.l :: a.ws, H0 x = none
  un : ∀ x, H x = none → H0 x = none
section
variable {H0 H H' : Hp} {a : St5} {S : Sd} {M : List Addr}
theorem PoA.kp {b : Addr} {x : Option Int × Str × List Int} (h : PoA H0 H b x) (k : Kp M H H') (n : ∀ d, H0 d = none → (∀ u, H d ≠ some (.dK u)) → (∀ u, H d ≠ some (.dT u)) → d ∉ M) : PoA H0 H' b x := by
  obtain ⟨h1, d, h2, h3, h4⟩ := h
  exact ⟨h1, d, h2, k _ _ (n b h1 (fun u z => by rw [h3] at z; cases z) (fun u z => by rw [h3] at z; cases z)) h3, k _ _ (n d h2 (fun u z => by rw [h4] at z; cases z) (fun u z => by rw [h4] at z; cases z)) h4⟩
theorem LiA.kp {b : Addr} {xs : List Int} (h : LiA H0 H b xs) (k : Kp M H H') (n : ∀ d, H0 d = none → (∀ u, H d ≠ some (.dK u)) → (∀ u, H d ≠ some (.dT u)) → d ∉ M) : LiA H0 H' b xs :=
  ⟨h.1, k _ _ (n b h.1 (fun u z => by rw [h.2] at z; cases z) (fun u z => by rw [h.2] at z; cases z)) h.2⟩
theorem SdAt.nin {x : Addr} (h : SdAt H0 H a S) (e : H0 x ≠ none) : x ∉ a.ws := fun z => e (h.fr x (List.mem_cons_of_mem _ z))
theorem SdAt.nel {x : Addr} (h : SdAt H0 H a S) (e : H0 x ≠ none) : x ≠ a.l := fun z => e (h.fr x (by rw [z]; exact List.mem_cons_self))
theorem SdAt.fT (h : SdAt H0 H a S) : H0 a.T = none := h.fr _ (by unfold St5.ws; simp)
theorem SdAt.fP (h : SdAt H0 H a S) : H0 a.P = none := h.fr _ (by unfold St5.ws; simp)
theorem SdAt.fE (h : SdAt H0 H a S) : H0 a.E = none := h.fr _ (by unfold St5.ws; simp)
theorem SdAt.fL (h : SdAt H0 H a S) : H0 a.L = none := h.fr _ (by unfold St5.ws; simp)
theorem SdAt.fN (h : SdAt H0 H a S) : H0 a.N = none := h.fr _ (by unfold St5.ws; simp)
theorem SdAt.fl (h : SdAt H0 H a S) : H0 a.l = none := h.fr _ List.mem_cons_self
theorem un_kp (u : ∀ x, H x = none → H0 x = none) (k : Kp M H H') (m : ∀ x ∈ M, H' x ≠ none) : ∀ x, H' x = none → H0 x = none := fun x e => u x (by
  by_cases hm : x ∈ M
  · exact absurd e (m x hm)
  · exact n_kp k hm e)
/-- elder things are written -/
theorem SdAt.old (h : SdAt H0 H a S) (k : Kp M H H') (m : ∀ x ∈ M, H0 x ≠ none ∧ H' x ≠ none) : SdAt H0 H' a S := by
  have nm : ∀ x, H0 x = none → x ∉ M := fun x e z => (m x z).1 e
  obtain ⟨as, p1, p2⟩ := h.p
  obtain ⟨es, e1, e2⟩ := h.e
  exact ⟨k _ _ (nm _ h.fl) h.o, k _ _ (nm _ h.fT) h.t, ⟨as, k _ _ (nm _ h.fP) p1, p2.mono fun b x q => q.kp k fun d e _ _ => nm d e⟩, ⟨es, k _ _ (nm _ h.fE) e1, e2.mono fun b x q => q.kp k fun d e _ _ => nm d e⟩, k _ _ (nm _ h.fL) h.l, k _ _ (nm _ h.fN) h.n, h.tn, h.pe, h.pl, h.el, h.fr, un_kp h.un k fun x hx => (m x hx).2⟩
theorem SdAt.same (h : SdAt H0 H a S) (s : Same H H') : SdAt H0 H' a S := h.old (M := []) (Kp.of s) fun x hx => by cases hx
theorem SdAt.deck {d cs : Addr} {n : Int} (h : SdAt H0 H a S) (k : Kp [d] H H') (D : Deck4 H' d cs n) (h0 : H0 d ≠ none) : SdAt H0 H' a S := h.old k fun x hx => by
  rw [List.mem_singleton.mp hx]
  obtain ⟨zs, hz⟩ := D.l1
  exact ⟨h0, by rw [hz]; exact Option.some_ne_none _⟩
theorem SdAt.setT (h : SdAt H0 H a S) (u : List (Int × Str)) : SdAt H0 (upd H a.T (.dK (gK V.str u))) a { S with there := u } := by
  have k : Kp [a.T] H (upd H a.T (.dK (gK V.str u))) := (Kp.refl _ _).wr (List.mem_singleton.mpr rfl)
  obtain ⟨as, p1, p2⟩ := h.p
  obtain ⟨es, e1, e2⟩ := h.e
  have nm : ∀ d, H0 d = none → (∀ u, H d ≠ some (.dK u)) → (∀ u, H d ≠ some (.dT u)) → d ∉ [a.T] := fun d _ n _ z => n _ ((congrArg H (List.mem_singleton.mp z)).trans h.t)
  exact ⟨k _ _ (nin1 (ne_kd h.o h.t (by intro z; cases z))) h.o, upd_same, ⟨as, k _ _ (nin1 (ne_kd p1 h.t (by intro z; cases z))) p1, p2.mono fun b x q => q.kp k nm⟩, ⟨es, k _ _ (nin1 (ne_kd e1 h.t (by intro z; cases z))) e1, e2.mono fun b x q => q.kp k nm⟩,
    k _ _ (nin1 (ne_kd h.l h.t (by intro z; cases z))) h.l, k _ _ (nin1 h.tn.symm) h.n, h.tn, h.pe, h.pl, h.el, h.fr, un_kp h.un k fun x hx => by rw [List.mem_singleton.mp hx, upd_same]; exact Option.some_ne_none _⟩
theorem SdAt.setN (h : SdAt H0 H a S) (u : List (Int × Int)) : SdAt H0 (upd H a.N (.dK (gK V.int u))) a { S with newest := u } := by
  have k : Kp [a.N] H (upd H a.N (.dK (gK V.int u))) := (Kp.refl _ _).wr (List.mem_singleton.mpr rfl)
  obtain ⟨as, p1, p2⟩ := h.p
  obtain ⟨es, e1, e2⟩ := h.e
  have nm : ∀ d, H0 d = none → (∀ u, H d ≠ some (.dK u)) → (∀ u, H d ≠ some (.dT u)) → d ∉ [a.N] := fun d _ n _ z => n _ ((congrArg H (List.mem_singleton.mp z)).trans h.n)
  exact ⟨k _ _ (nin1 (ne_kd h.o h.n (by intro z; cases z))) h.o, k _ _ (nin1 h.tn) h.t, ⟨as, k _ _ (nin1 (ne_kd p1 h.n (by intro z; cases z))) p1, p2.mono fun b x q => q.kp k nm⟩, ⟨es, k _ _ (nin1 (ne_kd e1 h.n (by intro z; cases z))) e1, e2.mono fun b x q => q.kp k nm⟩,
    k _ _ (nin1 (ne_kd h.l h.n (by intro z; cases z))) h.l, upd_same, h.tn, h.pe, h.pl, h.el, h.fr, un_kp h.un k fun x hx => by rw [List.mem_singleton.mp hx, upd_same]; exact Option.some_ne_none _⟩
theorem SdAt.setL (h : SdAt H0 H a S) (u : List ((Int × Int) × Bool)) : SdAt H0 (upd H a.L (.dT (gP (fun _ => V.bl) u))) a { S with lost := u } := by
  have k : Kp [a.L] H (upd H a.L (.dT (gP (fun _ => V.bl) u))) := (Kp.refl _ _).wr (List.mem_singleton.mpr rfl)
  obtain ⟨as, p1, p2⟩ := h.p
  obtain ⟨es, e1, e2⟩ := h.e
  have nm : ∀ d, H0 d = none → (∀ u, H d ≠ some (.dK u)) → (∀ u, H d ≠ some (.dT u)) → d ∉ [a.L] := fun d _ _ n z => n _ ((congrArg H (List.mem_singleton.mp z)).trans h.l)
  exact ⟨k _ _ (nin1 (ne_kd h.o h.l (by intro z; cases z))) h.o, k _ _ (nin1 (ne_kd h.t h.l (by intro z; cases z))) h.t, ⟨as, k _ _ (nin1 h.pl) p1, p2.mono fun b x q => q.kp k nm⟩, ⟨es, k _ _ (nin1 h.el) e1, e2.mono fun b x q => q.kp k nm⟩,
    upd_same, k _ _ (nin1 (ne_kd h.n h.l (by intro z; cases z))) h.n, h.tn, h.pe, h.pl, h.el, h.fr, un_kp h.un k fun x hx => by rw [List.mem_singleton.mp hx, upd_same]; exact Option.some_ne_none _⟩
theorem SdAt.setP (h : SdAt H0 H a S) {as : List ((Int × Int) × Addr)} {m : List ((Int × Int) × (Option Int × Str × List Int))} (F : Fam as m (PoA H0 H)) : SdAt H0 (upd H a.P (.dT (gA as))) a { S with posts := m } := by
  have k : Kp [a.P] H (upd H a.P (.dT (gA as))) := (Kp.refl _ _).wr (List.mem_singleton.mpr rfl)
  obtain ⟨bs, p1, p2⟩ := h.p
  obtain ⟨es, e1, e2⟩ := h.e
  have nm : ∀ d, H0 d = none → (∀ u, H d ≠ some (.dK u)) → (∀ u, H d ≠ some (.dT u)) → d ∉ [a.P] := fun d _ _ n z => n _ ((congrArg H (List.mem_singleton.mp z)).trans p1)
  exact ⟨k _ _ (nin1 (ne_kd h.o p1 (by intro z; cases z))) h.o, k _ _ (nin1 (ne_kd h.t p1 (by intro z; cases z))) h.t, ⟨as, upd_same, F.mono fun b x q => q.kp k nm⟩, ⟨es, k _ _ (nin1 h.pe.symm) e1, e2.mono fun b x q => q.kp k nm⟩,
    k _ _ (nin1 h.pl.symm) h.l, k _ _ (nin1 (ne_kd h.n p1 (by intro z; cases z))) h.n, h.tn, h.pe, h.pl, h.el, h.fr, un_kp h.un k fun x hx => by rw [List.mem_singleton.mp hx, upd_same]; exact Option.some_ne_none _⟩
theorem SdAt.setE (h : SdAt H0 H a S) {as : List ((Int × Int) × Addr)} {m : List ((Int × Int) × List Int)} (F : Fam as m (LiA H0 H)) : SdAt H0 (upd H a.E (.dT (gA as))) a { S with heard := m } := by
  have k : Kp [a.E] H (upd H a.E (.dT (gA as))) := (Kp.refl _ _).wr (List.mem_singleton.mpr rfl)
  obtain ⟨bs, p1, p2⟩ := h.p
  obtain ⟨es, e1, e2⟩ := h.e
  have nm : ∀ d, H0 d = none → (∀ u, H d ≠ some (.dK u)) → (∀ u, H d ≠ some (.dT u)) → d ∉ [a.E] := fun d _ _ n z => n _ ((congrArg H (List.mem_singleton.mp z)).trans e1)
  exact ⟨k _ _ (nin1 (ne_kd h.o e1 (by intro z; cases z))) h.o, k _ _ (nin1 (ne_kd h.t e1 (by intro z; cases z))) h.t, ⟨bs, k _ _ (nin1 h.pe) p1, p2.mono fun b x q => q.kp k nm⟩, ⟨as, upd_same, F.mono fun b x q => q.kp k nm⟩,
    k _ _ (nin1 h.el.symm) h.l, k _ _ (nin1 (ne_kd h.n e1 (by intro z; cases z))) h.n, h.tn, h.pe, h.pl, h.el, h.fr, un_kp h.un k fun x hx => by rw [List.mem_singleton.mp hx, upd_same]; exact Option.some_ne_none _⟩
theorem putK_gA {as : List ((Int × Int) × Addr)} {k : Int × Int} {b : Addr} : putK (gA as) (pk k) (.ref b) = gA (putP as k b) := putK_gP (fun _ b => V.ref b) k b as
theorem valV_gA {as : List ((Int × Int) × Addr)} {k : Int × Int} : valV (gA as) (pk k) = (lookP as k).map V.ref := valV_gP (fun _ b => V.ref b) k as
theorem gA_len (as : List ((Int × Int) × Addr)) : (gA as).length = as.length := gP_len _ _
end
/-! ### how great stands are -/
structure Sd.Sz (S : Sd) (n : Nat) : Prop where
  t : S.there.length ≤ n
  p : S.posts.length ≤ n
  e : S.heard.length ≤ n
  l : S.lost.length ≤ n
  w : S.newest.length ≤ n
  b : ∀ h a, (S.before h a).length ≤ n
  d : ∀ k x, lookP S.posts k = some x → x.2.2.length ≤ n
  nt : (S.there.map (·.1)).Nodup
  np : (S.posts.map (·.1)).Nodup
theorem Sd.Sz.nil : Sd.nil.Sz 0 := ⟨Nat.le_refl _, Nat.le_refl _, Nat.le_refl _, Nat.le_refl _, Nat.le_refl _, fun _ _ => Nat.le_refl _, (fun k x e => by cases e), List.nodup_nil, List.nodup_nil⟩
theorem Sd.Sz.mono {S : Sd} {n m : Nat} (h : S.Sz n) (e : n ≤ m) : S.Sz m := ⟨Nat.le_trans h.t e, Nat.le_trans h.p e, Nat.le_trans h.e e, Nat.le_trans h.l e, Nat.le_trans h.w e, fun x y => Nat.le_trans (h.b x y) e, fun k x q => Nat.le_trans (h.d k x q) e, h.nt, h.np⟩
theorem dueS_len {there : List (Int × Str)} {a : Int} {aim : Option Int} : (dueS there a aim).length ≤ there.length := by
  cases aim <;> (unfold dueS; rw [List.length_map]; exact List.length_filter_le _ _)
theorem nodup_dropA' {α : Type} {m : List (Int × α)} {k : Int} (h : (m.map (·.1)).Nodup) : ((dropA m k).map (·.1)).Nodup := List.Nodup.sublist (List.Sublist.map _ List.filter_sublist) h
theorem Sd.Sz.row {κ : JK} {S : Sd} {n : Nat} (h : S.Sz n) (r : Rw) : (S.row κ r).2.Sz (n + 1) := by
  have hm := h.mono (Nat.le_succ n)
  cases r with
  | come z s =>
    unfold Sd.row
    dsimp only
    split
    · exact ⟨Nat.le_trans (putA_len _ _ _) (Nat.succ_le_succ h.t), hm.p, hm.e, hm.l, hm.w, hm.b, hm.d, nodup_put h.nt, h.np⟩
    · exact hm
  | go z =>
    unfold Sd.row
    dsimp only
    split
    · exact hm
    · exact ⟨Nat.le_trans (List.length_filter_le _ _) hm.t, hm.p, hm.e, hm.l, hm.w, hm.b, hm.d, nodup_dropA' h.nt, h.np⟩
  | send a m aim t =>
    unfold Sd.row
    dsimp only
    split
    · exact hm
    · refine ⟨hm.t, Nat.le_trans (putP_len _ _ _) (Nat.succ_le_succ h.p), hm.e, hm.l, Nat.le_trans (putA_len _ _ _) (Nat.succ_le_succ h.w), hm.b, fun k x e => ?_, h.nt, nodup_putP h.np⟩
      rw [lookP_put] at e
      split at e
      · cases e
        exact Nat.le_trans dueS_len hm.t
      · exact hm.d k x e
  | hear z a m t =>
    unfold Sd.row
    dsimp only
    split
    · exact hm
    · split
      · exact hm
      · refine ⟨hm.t, hm.p, Nat.le_trans (putP_len _ _ _) (Nat.succ_le_succ h.e), hm.l, hm.w, fun x y => ?_, hm.d, h.nt, h.np⟩
        show ((lookP (putP S.heard (z, a) (S.before z a ++ [m])) (x, y)).getD []).length ≤ n + 1
        rw [before_put]
        split
        · rw [List.length_append]
          exact Nat.succ_le_succ (h.b z a)
        · exact hm.b x y
  | lose a m =>
    unfold Sd.row
    exact ⟨hm.t, hm.p, hm.e, Nat.le_trans (putP_len _ _ _) (Nat.succ_le_succ h.l), hm.w, hm.b, hm.d, h.nt, h.np⟩
end Wn

namespace Wn
open PySem L2
/-! ### a thing of a known type; whether it is a whole number -/
def isI : V → Option Int
  | .int i => some i
  | _ => none
/-- data, or a dict -/
def Th (K : PySem.W.Frag) (H : Hp) (v : V) : Prop := (∃ d, Dp K H v d) ∨ ∃ a kvs, v = .ref a ∧ H a = some (.dK kvs)
theorem Th.ty {K : PySem.W.Frag} {H : Hp} {v : V} (h : Th K H v) : ∃ t ∈ tyNames, TyX K H v (.type t) ∧ (t = "int" ↔ (isI v).isSome = true) := by
  rcases h with ⟨d, h⟩ | ⟨a, kvs, rfl, h⟩
  · refine ⟨tyN d, tyN_mem d, Wn.Dp.ty h, ?_⟩
    cases h <;> simp [tyN, isI]
  · exact ⟨"dict", by decide, .base (.dK h), by simp [isI]⟩
theorem Th.sm {K : PySem.W.Frag} {H H' : Hp} {v : V} (h : Th K H v) (s : Same H H') : Th K H' v := by
  rcases h with ⟨d, h⟩ | ⟨a, kvs, rfl, h⟩
  · exact .inl ⟨d, Wn.Dp.sm s h⟩
  · exact .inr ⟨a, kvs, rfl, s _ _ h⟩
theorem Th.dp {K : PySem.W.Frag} {H : Hp} {v : V} {d : PyData} (h : Dp K H v d) : Th K H v := .inl ⟨d, h⟩
theorem Th.any {K : PySem.W.Frag} {H : Hp} {v : V} {d : PyData} (h : AnyAt K H v d) : Th K H v := by
  rcases h with h | ⟨rfl, a, rfl, h⟩
  · exact .inl ⟨d, h⟩
  · exact .inr ⟨a, [], rfl, h⟩
theorem Th.rp {K : PySem.W.Frag} {H : Hp} {v : V} {d : PyData} (h : Rp K H d v) : Th K H v := Th.dp (Rp.dp d v h)
theorem Th.int {K : PySem.W.Frag} {H : Hp} {i : Int} : Th K H (.int i) := .inl ⟨_, .int i⟩
theorem kit_intT {K : PySem.W.Frag} {t : String} (h : t ∈ tyNames) : PySem.W.kitOne K (.type t) (.type "int") = some (decide (t = "int" ∨ t = "bool")) := kit_ty (kitB_int _ h)
theorem kit_boolT {K : PySem.W.Frag} {t : String} (h : t ∈ tyNames) : PySem.W.kitOne K (.type t) (.type "bool") = some (decide (t = "bool")) := kit_ty (kitB_bool _ h)
def fromV (v : V) (lo hi : Int) : Bool := match isI v with
  | some i => decide (lo ≤ i) && decide (i ≤ hi)
  | none => false
theorem isI_some {v : V} (h : (isI v).isSome = true) : ∃ i, v = .int i := by
  cases v <;> simp [isI] at h
  exact ⟨_, rfl⟩
def spWholeT (K : PySem.W.Frag) : Sp := fun vs H Q _ => ∃ v, vs = [v] ∧ Th K H v ∧ Q (.bl (isI v).isSome) H
def spFromT (K : PySem.W.Frag) : Sp := fun vs H Q _ => ∃ (v : V) (lo hi : Int), vs = [v, .int lo, .int hi] ∧ Th K H v ∧ Q (.bl (fromV v lo hi)) H
end Wn

set_option maxHeartbeats 800000
namespace Wn
open PySem L2
set_option pp.maxSteps 700
set_option pp.deepTerms false
local macro_rules | `(tactic| walk_at "h") => `(tactic| first | with_reducible assumption | (with_reducible exact upd_same) | (with_reducible apply g_upd; (walk_at "neq"); (walk_at "h")) | (with_reducible apply g_same; (with_reducible assumption); (walk_at "h")) | (with_reducible apply g_kp; (with_reducible assumption); (walk_at "nin"); (walk_at "h")) | (with_reducible apply g_tk; (with_reducible assumption); (walk_at "h")))
local macro_rules | `(tactic| walk_at "neq") => `(tactic| first | with_reducible assumption | (with_reducible apply Ne.symm; with_reducible assumption) | (with_reducible apply ne_upd; (with_reducible assumption)) | (with_reducible apply Ne.symm; with_reducible apply ne_upd; with_reducible assumption) | (with_reducible apply ne_fr; (with_reducible assumption); (walk_at "h")) | (with_reducible apply ne_fr'; (with_reducible assumption); (walk_at "h")) | (with_reducible apply ne_kd; (walk_at "h"); (walk_at "h"); (with_unfolding_all (intro z; cases z))))
local macro_rules | `(tactic| walk_at "nin") => `(tactic| first | (with_reducible exact nin0) | with_reducible assumption | (with_reducible apply ninc; (walk_at "neq"); (walk_at "nin")))
local macro_rules | `(tactic| walk_at "none") => `(tactic| first | with_reducible assumption | (with_reducible apply n_upd; (with_reducible assumption)) | (with_reducible apply n_same; (with_reducible assumption); (walk_at "none")) | (with_reducible apply n_kp; (with_reducible assumption); (walk_at "nin"); (walk_at "none")))
local macro_rules | `(tactic| walk_at "mem") => `(tactic| first | (with_reducible exact List.mem_cons_self) | (with_reducible apply List.mem_cons_of_mem; (walk_at "mem")))
local macro_rules | `(tactic| walk_at "am") => `(tactic| first | (with_reducible exact am0) | (with_reducible apply am1; (first | (apply Or.inl; walk_at "mem") | (apply Or.inr; walk_at "none")); (walk_at "am")))
local macro_rules | `(tactic| walk_at "tk") => `(tactic| first | (with_reducible exact TK.refl _) | with_reducible assumption | (with_reducible apply t_tk; (with_reducible assumption); (walk_at "tk")) | (with_reducible apply t_same; (with_reducible assumption); (walk_at "tk")) | (with_reducible apply t_new; (with_reducible assumption); (walk_at "tk")) | (with_reducible apply t_wr; (walk_at "h"); (with_unfolding_all rfl); (walk_at "tk")))
local macro_rules | `(tactic| walk_at "same") => `(tactic| first | (with_reducible exact L2.Same.refl _) | with_reducible assumption | (with_reducible apply s_same; (with_reducible assumption); (walk_at "same")) | (with_reducible apply s_new; (with_reducible assumption); (walk_at "same")) | (with_reducible apply s_wrn; (walk_at "none"); (walk_at "same")))
local macro_rules | `(tactic| walk_at "kp") => `(tactic| first | (with_reducible exact Kp.refl _ _) | with_reducible assumption | (with_reducible apply k_same; (with_reducible assumption); (walk_at "kp")) | (with_reducible apply k_kp; (with_reducible assumption); (walk_at "kp")) | (with_reducible apply k_kpm; (with_reducible assumption); (walk_at "am"); (walk_at "kp")) | (with_reducible apply k_new; (with_reducible assumption); (walk_at "kp")) | (with_reducible apply k_wr; (walk_at "mem"); (walk_at "kp")) | (with_reducible apply k_wrn; (walk_at "none"); (walk_at "kp")))
local macro_rules | `(tactic| walk_at "rp") => `(tactic| first | with_reducible assumption | (with_reducible exact Rp.int) | (with_reducible exact Rp.str) | (with_reducible exact Rp.none) | (with_reducible exact Rp.bool) | (with_reducible apply Rp.tk'; (with_reducible assumption); (walk_at "tk")) | (with_reducible apply Rp.tup; (walk_at "h"); (walk_at "rpl")))
local macro_rules | `(tactic| walk_at "rpl") => `(tactic| first | with_reducible assumption | (with_reducible exact RpL.nil) | (with_reducible apply RpL.tk'; (with_reducible assumption); (walk_at "tk")) | (with_reducible apply RpL.cons; (walk_at "rp"); (walk_at "rpl")))
local macro_rules | `(tactic| walk_at "g") => `(tactic| repeat (first | refine ⟨_, rfl, ?_⟩ | refine ⟨_, _, rfl, rfl, ?_⟩ | refine ⟨rfl, _, rfl, ?_⟩ | refine ⟨_, _, rfl, rfl, (by first | decide | omega), ?_⟩))
abbrev sWholeQ : Stmt := top 1
abbrev sCount : Stmt := top 6
abbrev sSort : Stmt := top 7
abbrev sAim : Stmt := top 8
abbrev sWords : Stmt := top 9
abbrev sForm : Stmt := top 11
/-! ### forms -/
inductive Lk where | cnt | srt | aim | wrd
def cntD : PyData → Bool
  | .int i => decide (0 ≤ i)
  | _ => false
def Lk.ok : Lk → PyData → Bool
  | .cnt, d => cntD d
  | .srt, .str z => decide (z = ("hand" : Str)) || decide (z = ("alias" : Str))
  | .srt, _ => false
  | .aim, .none => true
  | .aim, d => cntD d
  | .wrd, .str _ => true
  | .wrd, _ => false
def looksOf (z : Str) : Option (List Lk) :=
  if z = ("come" : Str) then some [.cnt, .srt] else if z = ("go" : Str) then some [.cnt] else if z = ("send" : Str) then some [.cnt, .cnt, .aim, .wrd] else if z = ("hear" : Str) then some [.cnt, .cnt, .cnt, .wrd]
  else if z = ("lose" : Str) then some [.cnt, .cnt] else none
theorem looks_len {z : Str} {ls : List Lk} (h : looksOf z = some ls) : ls.length ≤ 4 := by
  unfold looksOf at h
  split at h
  · cases h; decide
  split at h
  · cases h; decide
  split at h
  · cases h; decide
  split at h
  · cases h; decide
  split at h
  · cases h; decide
  · cases h
def formD : PyData → Bool
  | .tuple (.str w :: ds) => match looksOf w with
    | some ls => decide (ds.length = ls.length) && ((ls.zip ds).all fun p => p.1.ok p.2)
    | none => false
  | _ => false
structure PB (mg : Str → Option Value) : Prop where
  isinstance : mg "isinstance" = none
  int : mg "int" = none
  bool : mg "bool" = none
  str : mg "str" = none
  tuple : mg "tuple" = none
  len : mg "len" = none
  all : mg "all" = none
  zip : mg "zip" = none
  enumerate : mg "enumerate" = none
/-- the tables of the top -/
structure PT (K : PySem.W.Frag) (w : World) (mg : Str → Option Value) (lk : Lk → Addr) (tk : Str → Addr) : Prop where
  sorts : ∃ a, mg "SORTS" = some (.ref a) ∧ ∀ H, SqT K H a [.str "hand", .str "alias"]
  forms : ∃ (a : Addr) (es : Array DictEntry) (n : Nat) (T : Str → Addr), mg "FORMS" = some (.ref a) ∧ KDict K w a es n ∧ (∀ z, PySem.W.nsIn K a z = some ((looksOf z).map fun _ => Value.ref (T z))) ∧ ∀ z ls, looksOf z = some ls → ∀ H, SqT K H (T z) (ls.map fun l => V.ref (lk l))
  takes : ∃ (a : Addr) (es : Array DictEntry) (n : Nat), mg "TAKES" = some (.ref a) ∧ KDict K w a es n ∧ ∀ r : Rw, PySem.W.nsIn K a (rwW r) = some (some (.ref (tk (rwW r))))
def spWholeQ : Sp := fun vs H Q _ => ∃ v d, vs = [v] ∧ Dq H v d ∧ Q (.bl (isI v).isSome) H
def spLook (l : Lk) : Sp := fun vs H Q _ => ∃ v d, vs = [v] ∧ Dq H v d ∧ Q (.bl (l.ok d)) H
def spForm : Sp := fun vs H Q _ => ∃ v d, vs = [v] ∧ Dq H v d ∧ ∀ H', Same H H' → Q (.bl (formD d)) H'
theorem walk_zipTT {K : PySem.W.Frag} {a b : Addr} {xs ys : List V} {n : Nat} (hn : n = min xs.length ys.length) : Walk (RZ.ItzT K a b) n (fun H => SqT K H a xs ∧ SqT K H b ys) (YPair (fun i => xs[i]?) (fun i => ys[i]?)) := by
  subst hn
  refine ⟨fun i _ hi q => ?_, fun _ q => ⟨xs, ys, q.1, q.2, by omega⟩, fun i H v H' _ q y => ?_⟩
  · have h1 : i < xs.length := by omega
    have h2 : i < ys.length := by omega
    exact ⟨xs, ys, xs[i], ys[i], q.1, q.2, by simp [h1], by simp [h2]⟩
  · obtain ⟨T, x, z, h1, h2, h3, h4, h5⟩ := y
    exact ⟨T, x, z, h1, h2, h3, h4 xs q.1, h5 ys q.2⟩
theorem Dq.isI_int {H : Hp} {v : V} {d : PyData} (h : Dq H v d) : tyN d = "int" ↔ (isI v).isSome = true := by
  cases h <;> simp [tyN, isI]

/-- the looks by their places -/
def SLk (lk : Lk → Addr) : Addr → Sp → Prop := fun f sp => ∃ l, f = lk l ∧ sp = spLook l
section
variable {P : Program} {w : World} {K : PySem.W.Frag} {mg : Str → Option Value} {base : Heap} {lk : Lk → Addr} {tk : Str → Addr}
theorem scWholeQ : FnScope ["thing"] ["thing"] (defScope sWholeQ) := ⟨rfl, rfl, rfl, by decide +kernel, rfl, by decide +kernel, by decide +kernel⟩
theorem ok_wholeq {f : Addr} {fd : FuncData} (F : Fun K "is_whole" "is_whole" sWholeQ f fd) (B : PB mg) : FnOk P w K mg base CX0 1 f fd ["thing"] spWholeQ := by
  refine F.ok scWholeQ (fun vs H Q E h => ?_) (fun cdv A outer s H vs Q E hr h => ?_)
  · obtain ⟨v, d, rfl, _⟩ := h
    rfl
  · obtain ⟨v, d, rfl, hd, k⟩ := h
    have hi := hd.isI_int
    have e : decide (tyN d = "int") = (isI v).isSome := by
      rw [Bool.eq_iff_iff, decide_eq_true_eq]
      exact hi
    rw [← e] at k
    refine ⟨_, (pss_one (ps_ret (pe_and (pe_callB (isiK (K := K) rfl) (by rfl) B.isinstance (by decide +kernel) (pa_cons (pv 0) (pa_cons (pe_bltn (v := .ty "int") (by rfl) B.int PyProof.Rows.boot_int rfl) pa_nil))) (pe_one (pe_not (pe_callB (isiK (K := K) rfl) (by rfl) B.isinstance (by decide +kernel) (pa_cons (pv 0) (pa_cons (pe_bltn (v := .ty "bool") (by rfl) B.bool PyProof.Rows.boot_bool rfl) pa_nil)))))))), ?_⟩
    refine ⟨_, rfl, _, _, _, _, _, rfl, .ty _, hd.ty, kit_int d, _, rfl, iteP (fun c => ?_) (fun c => ?_)⟩
    · refine ⟨_, rfl, _, _, _, _, _, rfl, .ty _, hd.ty, kit_bool d, _, rfl, ?_⟩
      have e2 : (!decide (tyN d = "bool")) = decide (tyN d = "int") := by
        rcases c with c | c <;> rw [c] <;> rfl
      rw [e2]
      exact k
    · rw [decide_eq_false (fun z => c (.inl z))] at k
      exact k
theorem scCount : FnScope ["thing"] ["thing"] (defScope sCount) := ⟨rfl, rfl, rfl, by decide +kernel, rfl, by decide +kernel, by decide +kernel⟩
theorem ok_count {f : Addr} {fd : FuncData} (F : Fun K "is_count" "is_count" sCount f fd) (cW : Cd P w K mg base 1 "is_whole" ["thing"] spWholeQ) : FnOk P w K mg base CX0 2 f fd ["thing"] (spLook .cnt) := by
  obtain ⟨fW, fdW, GW, mW, kW, bW⟩ := cW
  refine F.ok scCount (fun vs H Q E h => ?_) (fun cdv A outer s H vs Q E hr h => ?_)
  · obtain ⟨v, d, rfl, _⟩ := h
    rfl
  · obtain ⟨v, d, rfl, hd, k⟩ := h
    have hr1 : Room 1 _ := hr.mono (by decide)
    refine ⟨_, (pss_one (ps_ret (pe_and (pe_call GW hr1 rfl mW kW bW .nil pass0 (pa_cons (pv 0) pa_nil)) (pe_one (pe_cmpR op_ge (pv 0) pe_int (nomark _)))))), ?_⟩
    refine ⟨_, rfl, v, d, rfl, hd, _, rfl, iteB (fun c => ?_) (fun c => ?_)⟩
    · obtain ⟨i, rfl⟩ := isI_some c
      cases hd
      exact ⟨_, rfl, _, _, rfl, rfl, k⟩
    · have e : Lk.ok .cnt d = false := by
        cases hd <;> first | rfl | cases c
      rw [e] at k
      exact k
theorem scSort : FnScope ["thing"] ["thing"] (defScope sSort) := ⟨rfl, rfl, rfl, by decide +kernel, rfl, by decide +kernel, by decide +kernel⟩
theorem ok_sort {f : Addr} {fd : FuncData} (F : Fun K "is_sort" "is_sort" sSort f fd) (B : PB mg) (T : PT K w mg lk tk) : FnOk P w K mg base CX0 2 f fd ["thing"] (spLook .srt) := by
  obtain ⟨aS, mSORTS, hS⟩ := T.sorts
  refine F.ok scSort (fun vs H Q E h => ?_) (fun cdv A outer s H vs Q E hr h => ?_)
  · obtain ⟨v, d, rfl, _⟩ := h
    rfl
  · obtain ⟨v, d, rfl, hd, k⟩ := h
    refine ⟨_, (pss_one (ps_ret (pe_and (pe_callB (isiK (K := K) rfl) (by rfl) B.isinstance (by decide +kernel) (pa_cons (pv 0) (pa_cons (pe_bltn (v := .ty "str") (by rfl) B.str PyProof.Rows.boot_str rfl) pa_nil))) (pe_one (pe_cmpR (inSeqK (K := K) rfl) (pv 0) (pe_glob (v := .ref aS) (by rfl) mSORTS rfl) (by rfl)))))), ?_⟩
    refine ⟨_, rfl, _, _, _, _, _, rfl, .ty _, hd.ty, kit_str d, _, rfl, iteP (fun c => ?_) (fun c => ?_)⟩
    · obtain ⟨z, rfl⟩ : ∃ z, d = .str z := by
        cases hd with
        | str z => exact ⟨z, rfl⟩
        | _ => simp [tyN] at c
      cases hd
      refine ⟨_, rfl, aS, _, rfl, .inr (hS H), rfl, rfl, ?_⟩
      have e : inV (.str z) [V.str "hand", V.str "alias"] = Lk.ok .srt (.str z) := by
        unfold inV
        show (_ || (_ || false)) = (decide (z = ("hand" : Str)) || decide (z = ("alias" : Str)))
        rw [Bool.or_false]
        have q : ∀ y : Str, (y == z) = decide (z = y) := fun y => by rw [Bool.eq_iff_iff, beq_iff_eq, decide_eq_true_eq]; exact eq_comm
        show ((("hand" : Str) == z) || (("alias" : Str) == z)) = _
        rw [q, q]
      rw [← e] at k
      exact k
    · have e : Lk.ok .srt d = false := by
        cases hd <;> first | rfl | exact absurd rfl c
      rw [e] at k
      exact k
theorem scAim : FnScope ["thing"] ["thing"] (defScope sAim) := ⟨rfl, rfl, rfl, by decide +kernel, rfl, by decide +kernel, by decide +kernel⟩
theorem ok_aim {f : Addr} {fd : FuncData} (F : Fun K "is_aim" "is_aim" sAim f fd) (cC : Cd P w K mg base 2 "is_count" ["thing"] (spLook .cnt)) : FnOk P w K mg base CX0 3 f fd ["thing"] (spLook .aim) := by
  obtain ⟨fC, fdC, GC, mC, kC, bC⟩ := cC
  refine F.ok scAim (fun vs H Q E h => ?_) (fun cdv A outer s H vs Q E hr h => ?_)
  · obtain ⟨v, d, rfl, _⟩ := h
    rfl
  · obtain ⟨v, d, rfl, hd, k⟩ := h
    have hr2 : Room 2 _ := hr.mono (by decide)
    refine ⟨_, (pss_one (ps_ret (pe_or (pe_cmp (pc_isN (pv 0)) rfl) (pe_one (pe_call GC hr2 rfl mC kC bC .nil pass0 (pa_cons (pv 0) pa_nil)))))), ?_⟩
    refine ⟨_, rfl, _, rfl, iteP (fun c => ?_) (fun c => ?_)⟩
    · subst c
      cases hd
      exact k
    · refine ⟨_, rfl, v, d, rfl, hd, ?_⟩
      have e : Lk.ok .aim d = Lk.ok .cnt d := by
        cases hd <;> first | rfl | exact absurd rfl c
      rw [← e]
      exact k
theorem scWords : FnScope ["thing"] ["thing"] (defScope sWords) := ⟨rfl, rfl, rfl, by decide +kernel, rfl, by decide +kernel, by decide +kernel⟩
theorem ok_words {f : Addr} {fd : FuncData} (F : Fun K "is_words" "is_words" sWords f fd) (B : PB mg) : FnOk P w K mg base CX0 1 f fd ["thing"] (spLook .wrd) := by
  refine F.ok scWords (fun vs H Q E h => ?_) (fun cdv A outer s H vs Q E hr h => ?_)
  · obtain ⟨v, d, rfl, _⟩ := h
    rfl
  · obtain ⟨v, d, rfl, hd, k⟩ := h
    refine ⟨_, (pss_one (ps_ret (pe_callB (isiK (K := K) rfl) (by rfl) B.isinstance (by decide +kernel) (pa_cons (pv 0) (pa_cons (pe_bltn (v := .ty "str") (by rfl) B.str PyProof.Rows.boot_str rfl) pa_nil))))), ?_⟩
    refine ⟨_, rfl, _, _, _, _, _, rfl, .ty _, hd.ty, kit_str d, ?_⟩
    have e : Lk.ok .wrd d = decide (tyN d = "str") := by cases hd <;> rfl
    rw [← e]
    exact k
theorem scForm : FnScope ["row", "looks", "look", "thing"] ["row"] (defScope sForm) := ⟨rfl, rfl, rfl, by decide +kernel, rfl, by decide +kernel, by decide +kernel⟩
theorem ok_form {f : Addr} {fd : FuncData} (F : Fun K "is_form" "is_form" sForm f fd) (B : PB mg) (T : PT K w mg lk tk) (AL : ∀ f sp, SLk lk f sp → Held P w K mg base 3 f sp) : FnOk P w K mg base CX0 4 f fd ["row"] spForm := by
  obtain ⟨aF, es, n, TT, mFORMS, DF, eF, hT⟩ := T.forms
  refine F.ok scForm (fun vs H Q E h => ?_) (fun cdv A outer s H vs Q E hr h => ?_)
  · obtain ⟨v, d, rfl, _⟩ := h
    rfl
  · obtain ⟨v, d, rfl, hd, k⟩ := h
    have hr3 : Room 3 _ := hr.mono (by decide)
    refine ⟨_, (pss_cons (ps_if (PW.pt (pw_or (pt_not (pt_val (pe_callB (isiK (K := K) rfl) (by rfl) B.isinstance (by decide +kernel) (pa_cons (pv 0) (pa_cons (pe_bltn (v := .ty "tuple") (by rfl) B.tuple PyProof.Rows.boot_tuple rfl) pa_nil))))) (pw_or (pt_cmpR op_eq (pe_callB (lenK (K := K) rfl) (by rfl) B.len PySem.boot_len (pa_cons (pv 0) pa_nil)) pe_int (nomark _)) (pw_or (pt_not (pt_val (pe_callB (isiK (K := K) rfl) (by rfl) B.isinstance (by decide +kernel) (pa_cons (pe_ix (ixT (K := K) rfl) (pv 0) pe_int (fun _ _ => rfl)) (pa_cons (pe_bltn (v := .ty "str") (by rfl) B.str PyProof.Rows.boot_str rfl) pa_nil))))) (pw_or1 (pt_cmpR (op_notIn_kd DF) (pe_ix (ixT (K := K) rfl) (pv 0) pe_int (fun _ _ => rfl)) (pe_glob (v := .ref aF) (by rfl) mFORMS rfl) (by rfl)))))))
       (pss_one (ps_ret pe_bl))
       pss_nil)
       (pss_cons (ps_set (i := 1) scForm.nd rfl (Or.inl rfl) (pe_ix ix_kdict (pe_glob (v := .ref aF) (by rfl) mFORMS rfl) (pe_ix (ixT (K := K) rfl) (pv 0) pe_int (fun _ _ => rfl)) (fun _ _ => rfl)))
       (pss_one (ps_ret (pe_and (pe_cmpR op_eq (pe_callB (lenK (K := K) rfl) (by rfl) B.len PySem.boot_len (pa_cons (pv 0) pa_nil)) (pe_op op_add (pe_callB (lenK (K := K) rfl) (by rfl) B.len PySem.boot_len (pa_cons (pv 1) pa_nil)) pe_int) (nomark _)) (pe_one (pe_callB (crAllK (K := K) rfl rfl) (by rfl) B.all (by decide +kernel) (pa_cons (pe_lc (own := [("look", 2), ("thing", 3)]) (g := (gTup K 2 (gCons (gName 2) (gCons (gName 3) gNil)))) (tt := tYes) rfl scForm.nd (RZ.pi_zipA (by rfl) B.zip (pa_cons (pv 1) (pa_cons (pe_slice (slA (K := K) rfl) (pv 0) (po_some pe_int) po_none) pa_nil))) (blkOk_by (N := ["row", "looks", "look", "thing"]) (sc := defScope sForm) (by decide +kernel))
       (fun _ _ _ _ _ => (pg_tup rfl (pgs_cons (pg_name (i := 2) scForm.nd rfl (Or.inl rfl)) (pgs_cons (pg_name (i := 3) scForm.nd rfl (Or.inl rfl)) pgs_nil)))) (fun _ _ _ _ _ => pts_nil) (fun _ _ _ _ _ => (pe_callE (S := SLk lk) AL hr3 (pv 2) (pa_cons (pv 3) pa_nil)))) pa_nil)))))))), ?_⟩
    by_cases ht : tyN d = "tuple"
    · obtain ⟨ds, rfl⟩ : ∃ ds, d = .tuple ds := by
        cases hd with
        | tup h1 h2 => exact ⟨_, rfl⟩
        | _ => simp [tyN] at ht
      obtain ⟨a, xs, rfl, ha, hds⟩ := hd.inv_tup
      refine ⟨_, rfl, _, _, _, _, true, rfl, .ty _, hd.ty, kit_tuple _, true, rfl, iteF ?_⟩
      refine ⟨_, rfl, _, xs.length, rfl, .inr ⟨_, SqT.of ha, rfl⟩, rfl, _, rfl, iteI (fun e0 => ?_) (fun e0 => ?_)⟩
      · have : ds = [] := List.length_eq_zero_iff.mp (by rw [← hds.len]; omega)
        subst this
        exact k _ (L2.Same.refl _)
      · cases hds with
        | nil => exact absurd rfl e0
        | @cons x xs' d0 ds' hx hxs =>
          have at0 : atI (x :: xs') 0 = some x := atI_nat (j := 0) rfl
          by_cases hs : tyN d0 = "str"
          · obtain ⟨z, rfl⟩ : ∃ z, d0 = .str z := by
              cases hx with
              | str z => exact ⟨z, rfl⟩
              | _ => simp [tyN] at hs
            cases hx
            refine ⟨_, rfl, a, _, 0, _, rfl, rfl, SqT.of ha, at0, _, _, _, _, true, rfl, .ty _, .base (.str z), kit_str (.str z), true, rfl, iteF ?_⟩
            refine ⟨_, rfl, a, _, 0, _, rfl, rfl, SqT.of ha, at0, z, _, rfl, rfl, eF z, ?_⟩
            have k : ∀ H', Same H H' → Q (.bl (match looksOf z with
              | some ls => decide (ds'.length = ls.length) && ((ls.zip ds').all fun p => p.1.ok p.2)
              | none => false)) H' := k
            cases el : looksOf z with
            | none =>
              rw [el] at k
              exact ⟨_, rfl, iteT (k _ (L2.Same.refl _))⟩
            | some ls =>
              rw [el] at k
              have k : ∀ H', Same H H' → Q (.bl (decide (ds'.length = ls.length) && ((ls.zip ds').all fun p => p.1.ok p.2))) H' := k
              refine ⟨_, rfl, iteF ?_⟩
              refine ⟨_, rfl, a, _, 0, _, rfl, rfl, SqT.of ha, at0, aF, z, .ref (TT z), rfl, rfl, ⟨es, n, .ref (TT z), DF.at_, DF.lit, (eF z).trans (congrArg some (by rw [el]; rfl)), rfl⟩, ?_⟩
              have hl := hT z ls el H
              refine ⟨_, rfl, _, (V.str z :: xs').length, rfl, .inr ⟨_, SqT.of ha, rfl⟩, _, rfl, _, (ls.map fun l => V.ref (lk l)).length, rfl, .inr ⟨_, hl, rfl⟩, _, _, rfl, rfl, rfl, _, rfl, iteI (fun e1 => ?_) (fun e1 => ?_)⟩
              · have e2 : ds'.length = ls.length := by rw [← hxs.len]; rw [List.length_cons, List.length_map] at e1; omega
                rw [decide_eq_true e2, Bool.true_and] at k
                refine ⟨_, rfl, _, rfl, _, rfl, ?_⟩
                dsimp only [tNoPart]
                refine slA_sq (SqT.of ha) fun H1 sl s1 hsl => ?_
                rw [show cutL (V.str z :: xs') (some 1) none = xs' from cutL_from (V.str z :: xs') 1] at hsl
                have lz : (ls.zip ds').length = min (ls.map fun l => V.ref (lk l)).length xs'.length := by rw [List.length_zip, List.length_map, hxs.len]
                refine ⟨TT z, sl, _, _, rfl, .inr ⟨SqT.sm hl s1, hsl, fun D nD => ?_⟩⟩
                refine comp_ls (L := ls.zip ds') (walk_zipTT (K := K) (a := TT z) (b := sl) lz) (fun H' s' => ⟨SqT.sm (SqT.sm hl s1) s', SqT.sm hsl s'⟩) (fun _ => true) (fun p => .bl (p.1.ok p.2)) nD ?_ ?_ ?_
                · rw [List.length_zip]
                  have := looks_len el
                  omega
                · rintro j b v H' H'' Q' N' hj s' ⟨T, x0, y0, rfl, nT, rfl, ex, ey⟩ hQ hN
                  have sT : Same H' (upd H' T (.tup [x0, y0])) := (L2.Same.refl _).new nT
                  have hT2 : upd H' T (.tup [x0, y0]) T = some (.tup [x0, y0]) := upd_same
                  generalize upd H' T (.tup [x0, y0]) = G2 at sT hT2
                  refine ⟨T, _, rfl, .inl (.inl hT2), rfl, _, _, rfl, _, _, rfl, rfl, ?_⟩
                  refine ⟨rfl, tYes_t (iteT ?_)⟩
                  have hz : (ls.zip ds')[j]? = some b := hj
                  rw [List.getElem?_zip_eq_some] at hz
                  dsimp only at ex ey
                  rw [List.getElem?_map, hz.1] at ex
                  cases ex
                  obtain ⟨u, eu, hu'⟩ := hxs.get hz.2
                  rw [eu] at ey
                  cases ey
                  refine ⟨_, rfl, lk b.1, spLook b.1, rfl, ⟨b.1, rfl, rfl⟩, _, rfl, _, b.2, rfl, Dq.sm sT (Dq.sm s' (Dq.sm s1 hu')), hQ rfl _ sT⟩
                · intro H' s' hD
                  rw [filter_all] at hD
                  refine ⟨D, (ls.zip ds').map (fun p => p.1.ok p.2), rfl, .inl (.inl (by rw [List.map_map]; exact hD)), ?_⟩
                  rw [List.all_map]
                  exact k _ (s1.trans s')
              · have e2 : ¬ ds'.length = ls.length := fun z2 => e1 (by rw [List.length_cons, List.length_map, hxs.len, z2]; omega)
                rw [decide_eq_false e2, Bool.false_and] at k
                exact k _ (L2.Same.refl _)
          · have e : formD (.tuple (d0 :: ds')) = false := by
              cases d0 <;> first | rfl | exact absurd rfl hs
            rw [e] at k
            refine ⟨_, rfl, a, _, 0, _, rfl, rfl, SqT.of ha, at0, _, _, _, _, _, rfl, .ty _, hx.ty, kit_str d0, _, rfl, ?_⟩
            rw [decide_eq_false hs]
            exact iteT (k _ (L2.Same.refl _))
    · have e : formD d = false := by
        cases hd with
        | tup h1 h2 => exact absurd rfl ht
        | _ => rfl
      rw [e] at k
      refine ⟨_, rfl, _, _, _, _, _, rfl, .ty _, hd.ty, kit_tuple d, _, rfl, ?_⟩
      rw [decide_eq_false ht]
      exact iteT (k _ (L2.Same.refl _))
end
end Wn

namespace Wn
open PySem PySem.Spec PyProof.Rows L2
/-- enumerate of a text: each sign in a new pair -/
def ItsE (x : Str) : It :=
  ⟨fun i _ => i < x.cps.size, fun i H v H' => ∃ T c, v = .ref T ∧ H T = none ∧ H' = upd H T (.tup [.int (i : Nat), .str ⟨#[c]⟩]) ∧ x.cps[i]? = some c, fun i _ => x.cps.size ≤ i⟩
theorem turn_enumS {P : Program} {w : World} {K : PySem.W.Frag} {elts : List Expr} {kk : Nat} {tpos : Pos} (e it : Addr) (x : Str) (t : Tok) (ty : String) (hty : ty = "str_ascii_iterator" ∨ ty = "str_iterator") :
    Turn P w K (.Tuple elts kk tpos) (ItsE x) [e, it] e (fun i h => (∃ old, IsEnum h e it ((i : Nat) : Int) old) ∧ h.IsStrIter it ty x t i ∧ e ≠ it) where
  mem := by simp
  obj := fun i h st b hb => by
    obtain ⟨⟨old, he⟩, ⟨o, ho, hc, hd⟩, _⟩ := st
    have e' : b = e ∨ b = it := by simpa using hb
    rcases e' with z | z
    · rw [z]; exact ⟨_, he, fun v q => nomatch q⟩
    · rw [z]; exact ⟨o, ho, fun v q => by rw [hd] at q; cases q⟩
  keep := fun i h h' st k => let ⟨⟨old, he⟩, ⟨o, ho, r⟩, hne⟩ := st; ⟨⟨old, k e (by simp) _ he⟩, ⟨o, k it (by simp) o ho, r⟩, hne⟩
  item := by
    intro X hP hw hK hc i pins s σ H E I hf st hg
    subst hP hw hK
    obtain ⟨⟨old, he⟩, hit, hne⟩ := st
    have hh : X.A.in1.handled = none := I.ok.hd hc
    have hel : e < s.heap.objs.size := Heap.lt_size he
    have hil : it < s.heap.objs.size := by obtain ⟨_, q, _⟩ := hit; exact Heap.lt_size q
    have D : Draws X.prog X.w X.A.in1 it [it] x.cps.size (fun i v => ∃ c u, x.cps[i]? = some c ∧ v = .str ⟨#[c]⟩ u) (fun i h => h.IsStrIter it ty x t i) := by
      rcases hty with z | z
      · rw [z]; exact Draws.strAscii hh it x t
      · rw [z]; exact Draws.strWide hh it x t
    refine wpAny_pyNext_enum_itemD D he hit hg hne (by simpa using hne) fun v h' tk hv ho hit' hT hsz hk => ?_
    obtain ⟨c, u, hcx, rfl⟩ := hv
    refine ⟨_, rfl, wpAny_letOwnedTupleGo_enum (s := { s with heap := h', toks := tk + 1 }) ho fun h'' he' sb => ?_⟩
    have hT2 : h''.get? s.heap.objs.size = some { cls := .type "tuple", data := .seq #[.int i tk, .str ⟨#[c]⟩ u] } := (sb.2 _ (Nat.ne_of_gt hel)).trans hT
    have new : ObjOk X.prog X.w (upd H s.heap.objs.size (.tup [.int (i : Nat), .str ⟨#[c]⟩])) h'' s.heap.objs.size (.tup [.int (i : Nat), .str ⟨#[c]⟩]) :=
      ⟨by show 2 ≤ sizeLine; decide, [.int i tk, .str ⟨#[c]⟩ u], .cons ⟨_, rfl⟩ (.cons ⟨_, rfl⟩ .nil), ⟨_, hT2, rfl, _, rfl⟩⟩
    have I1 : Inv X pins σ (upd H s.heap.objs.size (.tup [.int (i : Nat), .str ⟨#[c]⟩])) { s with heap := h'', toks := tk + 1 } :=
      I.turnedNew (ch := [e, it]) (fun b ob hb q => (sb.2 b (fun z => hb (by simp [z]))).trans (hk b ob (fun z => hb (by simp [z])) (fun z => hb (by simp [z])) q)) hf (Nat.le_refl _) new
    refine ⟨.ref s.heap.objs.size, _, I1, rfl, ⟨_, c, rfl, I.hok.fresh (Nat.le_refl _), rfl, hcx⟩, ⟨⟨.str ⟨#[c]⟩ u, ?_⟩, ?_, hne⟩, fun b hb => ?_⟩
    · have e1 : ((i + 1 : Nat) : Int) = (i : Int) + 1 := by omega
      rw [e1]; exact he'
    · obtain ⟨o, q, r⟩ := hit'
      exact ⟨o, (sb.2 it (Ne.symm hne)).trans q, r⟩
    · have hb' : b < s.heap.objs.size := by
        have e' : b = e ∨ b = it := by simpa using hb
        rcases e' with z | z
        · rw [z]; exact hel
        · rw [z]; exact hil
      rw [upd_ne (Nat.ne_of_lt hb')]
      exact (hf b hb).1
  done := by
    intro X hP hw hK hc i pins s σ H E I hf st hg
    subst hP hw hK
    obtain ⟨⟨old, he⟩, hit, hne⟩ := st
    have hh : X.A.in1.handled = none := I.ok.hd hc
    obtain ⟨f0, f1, f2, f3, f4, f5⟩ := hf it (by simp)
    have D : Draws X.prog X.w X.A.in1 it [it] i (fun i v => False) (fun j h => j = i ∧ h.IsStrIter it ty x t i) := by
      refine ⟨fun _ _ st => let ⟨o, ho, _⟩ := st.2; ⟨o, ho⟩, fun _ _ _ st hk => let ⟨o, ho, r⟩ := st.2; ⟨st.1, o, hk it (by simp) o ho, r⟩, fun j s Q E hj st => absurd st.1 (Nat.ne_of_lt hj), fun s Q E st hE => ?_⟩
      have hx : x.cps[i]? = none := Array.getElem?_eq_none hg
      have st2 := st.2
      rcases hty with z | z
      · rw [z] at st2; exact wpAny_nextOf_ascii_end hh st2 hx hE
      · rw [z] at st2; exact wpAny_nextOf_wide_end hh st2 hx hE
    exact wpAny_pyNext_enum_endD D he ⟨rfl, hit⟩ fun h' eb => ⟨rfl, I.turned (t' := s.toks) (fun b o hb q => eb b o hb q) f0 f1 f3 f4 f5⟩
  self := fun A i s Q E st h => let ⟨⟨_, he⟩, _⟩ := st; wpAny_pyIter_enum he h
def iEnumS (ta : TA) : TI := fun σ H R => ta σ H fun vs H1 => ∃ x, vs = [.str x] ∧ R (ItsE x) H1
theorem pi_enumS {X : Cx} {e : Expr} {ta : TA} {p pos tpos : Pos} {elts : List Expr} {kk : Nat} (hg : Gl X "enumerate") (hm : X.mg "enumerate" = none) (ha : PA X [e] ta) (hs : starEach [e] X.env = [(false, eval e X.env)] := by rfl) :
    PI X (.Tuple elts kk tpos) (.Call (.Name "enumerate" p) [e] [] pos) (iEnumS ta) := by
  refine ⟨fun pins s σ H R I h => ?_⟩
  refine Call_ (ld_blt I hg hm boot_enumerate (PyProof.Rows.callWith_type1 (thn (ha.run pos pins s σ H _ I h) fun us s1 ⟨vs, H1, I1, r1, q1⟩ => ?_) hs rfl))
  obtain ⟨x, ex, q⟩ := q1
  subst ex
  cases r1 with
  | cons r rr =>
    cases rr
    obtain ⟨t, rfl⟩ := r
    refine call_enumerate_str fun h' he hit hsz hk => wpAny_pyIter_enum he ?_
    have I2 : Inv X pins σ H1 { s1 with heap := h' } := I1.kept (t' := s1.toks) hk
    refine ⟨s1.heap.objs.size + 1, [s1.heap.objs.size + 1, s1.heap.objs.size], _, _, H1, rfl, I2, turn_enumS (s1.heap.objs.size + 1) s1.heap.objs.size x t (strIterType x) ?_, ⟨⟨.none, he⟩, hit, Nat.succ_ne_self _⟩, fun b hb => ?_, q⟩
    · unfold strIterType
      split
      · exact .inl rfl
      · exact .inr rfl
    have e' : b = s1.heap.objs.size + 1 ∨ b = s1.heap.objs.size := by simpa using hb
    have hle : s1.heap.objs.size ≤ b := by
      rcases e' with z | z
      · rw [z]; exact Nat.le_add_right _ _
      · rw [z]; exact Nat.le_refl _
    exact I1.fpOk hle (I1.hok.fresh hle)
theorem walk_enumS {x : Str} : Walk (ItsE x) x.cps.size (fun _ => True) (fun i H v H' => ∃ T c, v = .ref T ∧ H T = none ∧ H' = upd H T (.tup [.int (i : Nat), .str ⟨#[c]⟩]) ∧ x.cps[i]? = some c) :=
  ⟨fun _ _ hi _ => hi, fun _ _ => Nat.le_refl _, fun _ _ _ _ _ _ y => y⟩
end Wn

namespace Wn
open PySem PySem.Spec PyProof.Rows L2
section
open AutoSeq1 (wpAny_loadPart')
theorem drawsTuple {prog : Program} {w : World} {A : Around} (hh : A.handled = none) (it l : Addr) (hne : l ≠ it) (items : Array Value) :
    Draws prog w A it [it, l] items.size (fun i v => items[i]? = some v) (fun i h => h.IsTupleIter it l i ∧ h.IsTuple l items) where
  live := fun _ _ st => let ⟨o, ho, _⟩ := st.1; ⟨o, ho⟩
  frame := fun _ _ _ st hk => ⟨st.1.at fun o e => hk it (by simp) o e, let ⟨o, ho, r⟩ := st.2; ⟨o, hk l (by simp) o ho, r⟩⟩
  item := fun i s Q E hi st hQ => by
    refine RZ.nextOf_tuple_item st.1 st.2 (x := items[i]) (by simp [hi]) fun h' hit' hs' => ?_
    exact hQ _ h' s.toks (by simp [hi]) ⟨hit', let ⟨o, ho, r⟩ := st.2; ⟨o, (hs'.2 l hne).trans ho, r⟩⟩ hs'
  done := fun s Q E st hE => RZ.nextOf_tuple_end hh st.1 st.2 (by simp) hE
theorem meets_enumerate_newT (l : Addr) (items : Array Value) (n : Nat) (dct : Option Addr) (sl : Array (Option Value)) :
    Meets (Builtin.«enumerate.__new__» ⟨[.type "enumerate", .ref l], []⟩) (fun _ R s => s.heap.get? l = some { cls := .type "tuple", dict := dct, data := .seq items n, slots := sl } ∧
      R (.ok (.ret (.ref (s.heap.push { cls := .type "tuple_iterator", data := .fields #[.ref l, .int 0 0] }).objs.size)))
        { s with heap := (s.heap.push { cls := .type "tuple_iterator", data := .fields #[.ref l, .int 0 0] }).push { cls := .type "enumerate", data := .fields #[.none, .bool false, .ref s.heap.objs.size, rawInt 0, .none, .none] } }) :=
  .of_wp fun prog w A R s h => by
    obtain ⟨hp, g, d, tk, os⟩ := s; obtain ⟨hl, h⟩ := h
    have hsub := sub_enumerate
    have hL : Heap.IsTuple (Shared.heap ⟨hp, g, d, tk, os⟩) l items := ⟨_, hl, rfl, n, rfl⟩
    wp_walk using wpAny_loadPart' hl
    refine wpAny_stack_any fun st => wpAny_pure ?_
    split
    · rename_i c _ _ _ _ _
      cases (c == Value.type "enumerate")
      · wp_walk using wpAny_loadPart' hl, wpAny_pyIter_tuple hL
        exact ⟨_, rfl, h⟩
      · wp_walk using wpAny_loadPart' hl, wpAny_pyIter_tuple hL
        exact ⟨_, rfl, h⟩
    · wp_walk using wpAny_loadPart' hl, wpAny_pyIter_tuple hL
      exact ⟨_, rfl, h⟩
theorem call_enumerate_tuple {prog : Program} {w : World} {A : Around} {E : Value → Shared → Prop} {s : Shared} {l : Addr} {items : Array Value} {Q : Value → Shared → Prop} (hL : s.heap.IsTuple l items)
    (h : ∀ h', IsEnum h' (s.heap.objs.size + 1) s.heap.objs.size 0 .none → h'.IsTupleIter s.heap.objs.size l 0 → h'.objs.size = s.heap.objs.size + 2 →
      (∀ b o, s.heap.get? b = some o → h'.get? b = some o) → Q (.ref (s.heap.objs.size + 1)) { s with heap := h' }) :
    wpAny (model prog w) A (call (.type "enumerate") [.ref l]) Q E s := by
  obtain ⟨⟨c, dct, dt, sl⟩, hl, hc, n, hd⟩ := hL
  replace hc : c = .type "tuple" := hc
  replace hd : dt = .seq items n := hd
  subst hc hd
  refine callType_new F.called_enumerate (by decide) (F.typeCall_enumerate_1 _) (F.newCall_enumerate_1 _) (fun obj => F.args_object_init_2 obj _) F.entry_enumerate_new
    (meets_enumerate_newT l items n dct sl) ⟨hl, ?_⟩
  have hz : (s.heap.push { cls := .type "tuple_iterator", data := .fields #[.ref l, .int 0 0] }).objs.size = s.heap.objs.size + 1 := Heap.size_push ..
  show _ ∧ _
  rw [hz]
  have he : IsEnum ((s.heap.push { cls := .type "tuple_iterator", data := .fields #[.ref l, .int 0 0] }).push
      { cls := .type "enumerate", data := .fields #[.none, .bool false, .ref s.heap.objs.size, rawInt 0, .none, .none] }) (s.heap.objs.size + 1) s.heap.objs.size 0 .none := by
    have := Heap.get?_push_size (s.heap.push { cls := .type "tuple_iterator", data := .fields #[.ref l, .int 0 0] })
      (o := { cls := .type "enumerate", data := .fields #[.none, .bool false, .ref s.heap.objs.size, rawInt 0, .none, .none] }) rfl
    rw [hz] at this; exact this
  refine ⟨⟨_, he, rfl⟩, h _ he ⟨_, Heap.get?_push_of_some _ (Heap.get?_push_size _ rfl), rfl, rfl⟩ (by rw [Heap.size_push, hz]) fun b o x => Heap.get?_push_of_some _ (Heap.get?_push_of_some _ x)⟩
end
/-- enumerate of a tuple: each item in a new pair -/
def IttE (K : PySem.W.Frag) (a : Addr) : It :=
  ⟨fun i H => ∃ (xs : List V) (x : V), SqT K H a xs ∧ xs[i]? = some x, fun i H v H' => ∃ T x, v = .ref T ∧ H T = none ∧ H' = upd H T (.tup [.int (i : Nat), x]) ∧ ∀ xs, SqT K H a xs → xs[i]? = some x, fun i H => ∃ xs : List V, SqT K H a xs ∧ xs.length ≤ i⟩
theorem turn_enumT {P : Program} {w : World} {K : PySem.W.Frag} {elts : List Expr} {kk : Nat} {tpos : Pos} (a e it : Addr) :
    Turn P w K (.Tuple elts kk tpos) (IttE K a) [e, it] e (fun i h => (∃ old, IsEnum h e it ((i : Nat) : Int) old) ∧ h.IsTupleIter it a i ∧ e ≠ it) where
  mem := by simp
  obj := fun i h st b hb => by
    obtain ⟨⟨old, he⟩, ⟨o, ho, hc, hd⟩, _⟩ := st
    have e' : b = e ∨ b = it := by simpa using hb
    rcases e' with z | z
    · rw [z]; exact ⟨_, he, fun v q => nomatch q⟩
    · rw [z]; exact ⟨o, ho, fun v q => by rw [hd] at q; cases q⟩
  keep := fun i h h' st k => let ⟨⟨old, he⟩, hi, hne⟩ := st; ⟨⟨old, k e (by simp) _ he⟩, hi.at fun o q => k it (by simp) o q, hne⟩
  item := by
    intro X hP hw hK hc i pins s σ H E I hf st hg
    subst hP hw hK
    obtain ⟨⟨old, he⟩, hit, hne⟩ := st
    obtain ⟨xs, x, hq, hx⟩ := hg
    obtain ⟨its, rv, p, hz⟩ := I.tuple hq
    obtain ⟨u, hu, ru⟩ := rv.get hx
    have hh : X.A.in1.handled = none := I.ok.hd hc
    have hel : e < s.heap.objs.size := Heap.lt_size he
    have hil : it < s.heap.objs.size := by obtain ⟨_, q, _⟩ := hit; exact Heap.lt_size q
    have p' : s.heap.IsTuple a its.toArray := p
    have hai : a ≠ it := fun z => by
      obtain ⟨o, ho, hc1, _⟩ := hit
      obtain ⟨o2, ho2, hc2, _⟩ := p'
      rw [z, ho] at ho2
      cases ho2
      rw [hc1] at hc2
      exact absurd hc2 (by decide)
    have hae : a ≠ e := fun z => by
      have he' : s.heap.get? e = _ := he
      obtain ⟨o2, ho2, hc2, _⟩ := p'
      rw [z, he'] at ho2
      cases ho2
      have hc3 : Value.type "enumerate" = Value.type "tuple" := hc2
      exact absurd hc3 (by decide)
    have D := drawsTuple (prog := X.prog) (w := X.w) (A := X.A.in1) hh it a hai its.toArray
    refine wpAny_pyNext_enum_itemD D he ⟨hit, p'⟩ (by have := (List.getElem?_eq_some_iff.mp hu).1; simpa using this) hne (by simp [hne, Ne.symm hae]) fun v h' tk hv ho hit' hT hsz hk => ?_
    obtain rfl : v = u := by
      have hv : its.toArray[i]? = some v := hv
      rw [List.getElem?_toArray, hu] at hv
      exact (Option.some.inj hv).symm
    refine ⟨_, rfl, wpAny_letOwnedTupleGo_enum (s := { s with heap := h', toks := tk + 1 }) ho fun h'' he' sb => ?_⟩
    have hT2 : h''.get? s.heap.objs.size = some { cls := .type "tuple", data := .seq #[.int i tk, v] } := (sb.2 _ (Nat.ne_of_gt hel)).trans hT
    have new : ObjOk X.prog X.w (upd H s.heap.objs.size (.tup [.int (i : Nat), x])) h'' s.heap.objs.size (.tup [.int (i : Nat), x]) :=
      ⟨by show 2 ≤ sizeLine; decide, [.int i tk, v], .cons ⟨_, rfl⟩ (.cons ru .nil), ⟨_, hT2, rfl, _, rfl⟩⟩
    have I1 : Inv X pins σ (upd H s.heap.objs.size (.tup [.int (i : Nat), x])) { s with heap := h'', toks := tk + 1 } :=
      I.turnedNew (ch := [e, it]) (fun b ob hb q => (sb.2 b (fun z => hb (by simp [z]))).trans (hk b ob (fun z => hb (by simp [z])) (fun z => hb (by simp [z])) q)) hf (Nat.le_refl _) new
    refine ⟨.ref s.heap.objs.size, _, I1, rfl, ⟨_, x, rfl, I.hok.fresh (Nat.le_refl _), rfl, fun ys hy => by rw [I.tuple_inj hy hq]; exact hx⟩, ⟨⟨v, ?_⟩, hit'.1.at fun o q => (sb.2 it (Ne.symm hne)).trans q, hne⟩, fun b hb => ?_⟩
    · have e1 : ((i + 1 : Nat) : Int) = (i : Int) + 1 := by omega
      rw [e1]; exact he'
    · have hb' : b < s.heap.objs.size := by
        have e' : b = e ∨ b = it := by simpa using hb
        rcases e' with z | z
        · rw [z]; exact hel
        · rw [z]; exact hil
      rw [upd_ne (Nat.ne_of_lt hb')]
      exact (hf b hb).1
  done := by
    intro X hP hw hK hc i pins s σ H E I hf st hg
    subst hP hw hK
    obtain ⟨⟨old, he⟩, hit, hne⟩ := st
    obtain ⟨xs, hq, hx⟩ := hg
    obtain ⟨its, rv, p, hz⟩ := I.tuple hq
    have hh : X.A.in1.handled = none := I.ok.hd hc
    obtain ⟨f0, f1, f2, f3, f4, f5⟩ := hf it (by simp)
    have hl := rv.length
    have p' : s.heap.IsTuple a its.toArray := p
    have D : Draws X.prog X.w X.A.in1 it [it, a] i (fun i v => False) (fun j h => j = i ∧ h.IsTupleIter it a i ∧ h.IsTuple a its.toArray) := by
      refine ⟨fun _ _ st => let ⟨o, ho, _⟩ := st.2.1; ⟨o, ho⟩, fun _ _ _ st hk => ⟨st.1, st.2.1.at fun o e => hk it (by simp) o e, let ⟨o, ho, r⟩ := st.2.2; ⟨o, hk a (by simp) o ho, r⟩⟩, fun j s Q E hj st => absurd st.1 (Nat.ne_of_lt hj), fun s Q E st hE => ?_⟩
      exact RZ.nextOf_tuple_end hh st.2.1 st.2.2 (by simp; omega) hE
    exact wpAny_pyNext_enum_endD D he ⟨rfl, hit, p'⟩ fun h' eb => ⟨rfl, I.turned (t' := s.toks) (fun b o hb q => eb b o hb q) f0 f1 f3 f4 f5⟩
  self := fun A i s Q E st h => let ⟨⟨_, he⟩, _⟩ := st; wpAny_pyIter_enum he h
def iEnumT (K : PySem.W.Frag) (ta : TA) : TI := fun σ H R => ta σ H fun vs H1 => ∃ a xs, vs = [.ref a] ∧ SqT K H1 a xs ∧ R (IttE K a) H1
theorem pi_enumT {X : Cx} {e : Expr} {ta : TA} {p pos tpos : Pos} {elts : List Expr} {kk : Nat} (hg : Gl X "enumerate") (hm : X.mg "enumerate" = none) (ha : PA X [e] ta) (hs : starEach [e] X.env = [(false, eval e X.env)] := by rfl) :
    PI X (.Tuple elts kk tpos) (.Call (.Name "enumerate" p) [e] [] pos) (iEnumT X.K ta) := by
  refine ⟨fun pins s σ H R I h => ?_⟩
  refine Call_ (ld_blt I hg hm boot_enumerate (PyProof.Rows.callWith_type1 (thn (ha.run pos pins s σ H _ I h) fun us s1 ⟨vs, H1, I1, r1, q1⟩ => ?_) hs rfl))
  obtain ⟨a, xs, ex, hq, q⟩ := q1
  subst ex
  cases r1 with
  | cons r rr =>
    cases rr
    cases r
    obtain ⟨its, rv, p', hz⟩ := I1.tuple hq
    refine call_enumerate_tuple p' fun h' he hit hsz hk => wpAny_pyIter_enum he ?_
    have I2 : Inv X pins σ H1 { s1 with heap := h' } := I1.kept (t' := s1.toks) hk
    refine ⟨s1.heap.objs.size + 1, [s1.heap.objs.size + 1, s1.heap.objs.size], _, _, H1, rfl, I2, turn_enumT a (s1.heap.objs.size + 1) s1.heap.objs.size, ⟨⟨.none, he⟩, hit, Nat.succ_ne_self _⟩, fun b hb => ?_, q⟩
    have e' : b = s1.heap.objs.size + 1 ∨ b = s1.heap.objs.size := by simpa using hb
    have hle : s1.heap.objs.size ≤ b := by
      rcases e' with z | z
      · rw [z]; exact Nat.le_add_right _ _
      · rw [z]; exact Nat.le_refl _
    exact I1.fpOk hle (I1.hok.fresh hle)
theorem walk_enumT {K : PySem.W.Frag} {a : Addr} {xs : List V} : Walk (IttE K a) xs.length (fun H => SqT K H a xs) (fun i H v H' => ∃ T x, v = .ref T ∧ H T = none ∧ H' = upd H T (.tup [.int (i : Nat), x]) ∧ xs[i]? = some x) :=
  ⟨fun i H hi g => ⟨xs, xs[i], g, List.getElem?_eq_getElem hi⟩, fun H g => ⟨xs, g, Nat.le_refl _⟩, fun i H v H' hi g y => by
    obtain ⟨T, x, e1, e2, e3, e4⟩ := y
    exact ⟨T, x, e1, e2, e3, e4 xs g⟩⟩
/-- str of a number or a text -/
theorem call_strU {X : Cx} : CallR X (.type "str") (fun xs H Q => (∃ i : Int, xs = [.int i] ∧ i.natAbs.log2 < 1920 ∧ Q (.str (toString i)) H) ∨ ∃ a, xs = [.str a] ∧ Q (.str a) H) := by
  intro pins s σ H xs us Q I r h
  rcases h with h | h
  · exact call_str_int pins s σ H xs us Q I r h
  · exact SkE.call_str_str pins s σ H xs us Q I r h
/-- a text no times or once -/
theorem op_rep_str {X : Cx} : OpR X (binaryOp .Mult) (fun x y H Q => ∃ (a : Str) (k : Int), x = .str a ∧ y = .int k ∧ ((k = 0 ∧ Q (.str Str.empty) H) ∨ (k = 1 ∧ Q (.str a) H))) := by
  intro pins s σ H x y v u Q I rx ry h
  obtain ⟨a, k, rfl, rfl, h⟩ := h
  obtain ⟨t, rfl⟩ := rx
  obtain ⟨t', rfl⟩ := ry
  rcases h with ⟨rfl, q⟩ | ⟨rfl, q⟩
  · exact PySem.P.mul_str_none (by decide) (by decide) ⟨.str Str.empty, H, I.tok _, ⟨_, rfl⟩, q⟩
  · refine PySem.P.mul_str (by decide) (fun _ h => absurd h (by simp)) (fun _ h => absurd h (by simp)) ?_
    rw [if_neg (by decide), if_pos (by simp)]
    exact ⟨.str a, H, I, ⟨_, rfl⟩, q⟩
end Wn

set_option maxHeartbeats 800000
namespace Wn
open PySem L2
set_option pp.maxSteps 700
set_option pp.deepTerms false
local macro_rules | `(tactic| walk_at "h") => `(tactic| first | with_reducible assumption | (with_reducible exact upd_same) | (with_reducible apply g_upd; (walk_at "neq"); (walk_at "h")) | (with_reducible apply g_same; (with_reducible assumption); (walk_at "h")) | (with_reducible apply g_kp; (with_reducible assumption); (walk_at "nin"); (walk_at "h")) | (with_reducible apply g_tk; (with_reducible assumption); (walk_at "h")))
local macro_rules | `(tactic| walk_at "neq") => `(tactic| first | with_reducible assumption | (with_reducible apply Ne.symm; with_reducible assumption) | (with_reducible apply ne_upd; (with_reducible assumption)) | (with_reducible apply Ne.symm; with_reducible apply ne_upd; with_reducible assumption) | (with_reducible apply ne_fr; (with_reducible assumption); (walk_at "h")) | (with_reducible apply ne_fr'; (with_reducible assumption); (walk_at "h")) | (with_reducible apply ne_kd; (walk_at "h"); (walk_at "h"); (with_unfolding_all (intro z; cases z))))
local macro_rules | `(tactic| walk_at "nin") => `(tactic| first | (with_reducible exact nin0) | with_reducible assumption | (with_reducible apply ninc; (walk_at "neq"); (walk_at "nin")))
local macro_rules | `(tactic| walk_at "none") => `(tactic| first | with_reducible assumption | (with_reducible apply n_upd; (with_reducible assumption)) | (with_reducible apply n_same; (with_reducible assumption); (walk_at "none")) | (with_reducible apply n_kp; (with_reducible assumption); (walk_at "nin"); (walk_at "none")))
local macro_rules | `(tactic| walk_at "mem") => `(tactic| first | (with_reducible exact List.mem_cons_self) | (with_reducible apply List.mem_cons_of_mem; (walk_at "mem")))
local macro_rules | `(tactic| walk_at "am") => `(tactic| first | (with_reducible exact am0) | (with_reducible apply am1; (first | (apply Or.inl; walk_at "mem") | (apply Or.inr; walk_at "none")); (walk_at "am")))
local macro_rules | `(tactic| walk_at "tk") => `(tactic| first | (with_reducible exact TK.refl _) | with_reducible assumption | (with_reducible apply t_tk; (with_reducible assumption); (walk_at "tk")) | (with_reducible apply t_same; (with_reducible assumption); (walk_at "tk")) | (with_reducible apply t_new; (with_reducible assumption); (walk_at "tk")) | (with_reducible apply t_wr; (walk_at "h"); (with_unfolding_all rfl); (walk_at "tk")))
local macro_rules | `(tactic| walk_at "same") => `(tactic| first | (with_reducible exact L2.Same.refl _) | with_reducible assumption | (with_reducible apply s_same; (with_reducible assumption); (walk_at "same")) | (with_reducible apply s_new; (with_reducible assumption); (walk_at "same")) | (with_reducible apply s_wrn; (walk_at "none"); (walk_at "same")))
local macro_rules | `(tactic| walk_at "kp") => `(tactic| first | (with_reducible exact Kp.refl _ _) | with_reducible assumption | (with_reducible apply k_same; (with_reducible assumption); (walk_at "kp")) | (with_reducible apply k_kp; (with_reducible assumption); (walk_at "kp")) | (with_reducible apply k_kpm; (with_reducible assumption); (walk_at "am"); (walk_at "kp")) | (with_reducible apply k_new; (with_reducible assumption); (walk_at "kp")) | (with_reducible apply k_wr; (walk_at "mem"); (walk_at "kp")) | (with_reducible apply k_wrn; (walk_at "none"); (walk_at "kp")))
local macro_rules | `(tactic| walk_at "rp") => `(tactic| first | with_reducible assumption | (with_reducible exact Rp.int) | (with_reducible exact Rp.str) | (with_reducible exact Rp.none) | (with_reducible exact Rp.bool) | (with_reducible apply Rp.tk'; (with_reducible assumption); (walk_at "tk")) | (with_reducible apply Rp.tup; (walk_at "h"); (walk_at "rpl")))
local macro_rules | `(tactic| walk_at "rpl") => `(tactic| first | with_reducible assumption | (with_reducible exact RpL.nil) | (with_reducible apply RpL.tk'; (with_reducible assumption); (walk_at "tk")) | (with_reducible apply RpL.cons; (walk_at "rp"); (walk_at "rpl")))
local macro_rules | `(tactic| walk_at "g") => `(tactic| repeat (first | refine ⟨_, rfl, ?_⟩ | refine ⟨_, _, rfl, rfl, ?_⟩ | refine ⟨rfl, _, rfl, ?_⟩ | refine ⟨_, _, rfl, rfl, (by first | decide | omega), ?_⟩))
abbrev sPair : Stmt := top 23
abbrev sRising : Stmt := top 24
abbrev sFirst : Stmt := top 25
theorem ltTK {X : Cx} {K : PySem.W.Frag} (hK : X.K = K) (hu : X.A.units < cLine) : OpR X (compareOp .Lt) (rLtT K) := hK ▸ op_ltT hu
def pairOf : PyData → Option (Int × Int)
  | .tuple [.int a, .int b] => if 0 ≤ a ∧ 0 ≤ b then some (a, b) else none
  | _ => none
theorem pairOf_some {d : PyData} {k : Int × Int} (h : pairOf d = some k) : d = prD k ∧ 0 ≤ k.1 ∧ 0 ≤ k.2 := by
  unfold pairOf at h
  split at h
  · split at h
    · rename_i c
      cases h
      exact ⟨rfl, c⟩
    · cases h
  · cases h
theorem pairOf_prD {k : Int × Int} (h : 0 ≤ k.1 ∧ 0 ≤ k.2) : pairOf (prD k) = some k := by
  show (if 0 ≤ k.1 ∧ 0 ≤ k.2 then some (k.1, k.2) else none) = some k
  rw [if_pos h]
def risB (ws : List (Int × Int)) : Bool := (ws.zip ws.tail).all fun p => HT.lexLt [p.1.1, p.1.2] [p.2.1, p.2.2]
def wsOf : PyData → Option (List (Int × Int))
  | .tuple ds => if (ds.all fun d => (pairOf d).isSome) = true ∧ risB (ds.filterMap pairOf) = true then some (ds.filterMap pairOf) else none
  | _ => none
theorem pairs_map : ∀ {ds : List PyData}, (ds.all fun d => (pairOf d).isSome) = true → ds = (ds.filterMap pairOf).map prD
  | [], _ => rfl
  | d :: ds, h => by
    rw [List.all_cons, Bool.and_eq_true] at h
    obtain ⟨k, e⟩ := Option.isSome_iff_exists.mp h.1
    rw [List.filterMap_cons, e, List.map_cons, ← pairs_map h.2, (pairOf_some e).1]
theorem wsOf_some {d : PyData} {ws : List (Int × Int)} (h : wsOf d = some ws) : d = .tuple (ws.map prD) := by
  unfold wsOf at h
  split at h
  · split at h
    · rename_i c
      cases h
      rw [← pairs_map c.1]
    · cases h
  · cases h
theorem filterMap_prD : ∀ {ws : List (Int × Int)}, (∀ k ∈ ws, 0 ≤ k.1 ∧ 0 ≤ k.2) → (ws.map prD).filterMap pairOf = ws
  | [], _ => rfl
  | k :: ws, h => by
    rw [List.map_cons, List.filterMap_cons, pairOf_prD (h k List.mem_cons_self), filterMap_prD fun z hz => h z (List.mem_cons_of_mem _ hz)]
theorem wsOf_prD {ws : List (Int × Int)} (h : ∀ k ∈ ws, 0 ≤ k.1 ∧ 0 ≤ k.2) (r : risB ws = true) : wsOf (.tuple (ws.map prD)) = some ws := by
  have e := filterMap_prD h
  show (if ((ws.map prD).all fun d => (pairOf d).isSome) = true ∧ risB ((ws.map prD).filterMap pairOf) = true then some ((ws.map prD).filterMap pairOf) else none) = _
  have c : ((ws.map prD).all fun d => (pairOf d).isSome) = true := by
    rw [List.all_map, List.all_eq_true]
    intro k hk
    show (pairOf (prD k)).isSome = true
    rw [pairOf_prD (h k hk)]
    rfl
  rw [e, if_pos ⟨c, r⟩]
/-- a row of a good form -/
theorem cnt_inv {d : PyData} (h : Lk.ok .cnt d = true) : ∃ i, d = .int i ∧ 0 ≤ i := by
  cases d with
  | int i => exact ⟨i, rfl, of_decide_eq_true h⟩
  | _ => cases h
theorem srt_inv {d : PyData} (h : Lk.ok .srt d = true) : ∃ z, d = .str z ∧ (z = ("hand" : Str) ∨ z = ("alias" : Str)) := by
  cases d with
  | str z =>
    have h : (decide (z = ("hand" : Str)) || decide (z = ("alias" : Str))) = true := h
    rw [Bool.or_eq_true, decide_eq_true_eq, decide_eq_true_eq] at h
    exact ⟨z, rfl, h⟩
  | _ => cases h
theorem aim_inv {d : PyData} (h : Lk.ok .aim d = true) : ∃ o, d = aimD o ∧ aimOk o := by
  cases d with
  | none => exact ⟨none, rfl, trivial⟩
  | int i => exact ⟨some i, rfl, of_decide_eq_true h⟩
  | _ => cases h
theorem wrd_inv {d : PyData} (h : Lk.ok .wrd d = true) : ∃ z, d = .str z := by
  cases d with
  | str z => exact ⟨z, rfl⟩
  | _ => cases h
theorem len1 {α : Type} {l : List α} (h : l.length = 1) : ∃ a, l = [a] := by
  match l, h with
  | [a], _ => exact ⟨a, rfl⟩
theorem len2 {α : Type} {l : List α} (h : l.length = 2) : ∃ a b, l = [a, b] := by
  match l, h with
  | [a, b], _ => exact ⟨a, b, rfl⟩
theorem len4 {α : Type} {l : List α} (h : l.length = 4) : ∃ a b c d, l = [a, b, c, d] := by
  match l, h with
  | [a, b, c, d], _ => exact ⟨a, b, c, d, rfl⟩
theorem form_inv {d : PyData} (h : formD d = true) : ∃ r : Rw, r.ok ∧ d = rwD r := by
  unfold formD at h
  split at h
  · rename_i w ds
    split at h
    · rename_i ls el
      rw [Bool.and_eq_true, decide_eq_true_eq] at h
      obtain ⟨hl, ha⟩ := h
      unfold looksOf at el
      split at el
      · rename_i ew
        cases el
        obtain ⟨a, b, rfl⟩ := len2 hl
        simp only [List.zip_cons_cons, List.zip_nil_right, List.all_cons, List.all_nil, Bool.and_true, Bool.and_eq_true] at ha
        obtain ⟨i, rfl, hi⟩ := cnt_inv ha.1
        obtain ⟨z, rfl, hz⟩ := srt_inv ha.2
        exact ⟨.come i z, ⟨hi, hz⟩, by rw [ew]; rfl⟩
      split at el
      · rename_i ew
        cases el
        obtain ⟨a, rfl⟩ := len1 hl
        simp only [List.zip_cons_cons, List.zip_nil_right, List.all_cons, List.all_nil, Bool.and_true, Bool.and_eq_true] at ha
        obtain ⟨i, rfl, hi⟩ := cnt_inv ha
        exact ⟨.go i, hi, by rw [ew]; rfl⟩
      split at el
      · rename_i ew
        cases el
        obtain ⟨a, b, c, e, rfl⟩ := len4 hl
        simp only [List.zip_cons_cons, List.zip_nil_right, List.all_cons, List.all_nil, Bool.and_true, Bool.and_eq_true] at ha
        obtain ⟨i, rfl, hi⟩ := cnt_inv ha.1
        obtain ⟨j, rfl, hj⟩ := cnt_inv ha.2.1
        obtain ⟨o, rfl, ho⟩ := aim_inv ha.2.2.1
        obtain ⟨z, rfl⟩ := wrd_inv ha.2.2.2
        exact ⟨.send i j o z, ⟨hi, hj, ho⟩, by rw [ew]; rfl⟩
      split at el
      · rename_i ew
        cases el
        obtain ⟨a, b, c, e, rfl⟩ := len4 hl
        simp only [List.zip_cons_cons, List.zip_nil_right, List.all_cons, List.all_nil, Bool.and_true, Bool.and_eq_true] at ha
        obtain ⟨i, rfl, hi⟩ := cnt_inv ha.1
        obtain ⟨j, rfl, hj⟩ := cnt_inv ha.2.1
        obtain ⟨o, rfl, ho⟩ := cnt_inv ha.2.2.1
        obtain ⟨z, rfl⟩ := wrd_inv ha.2.2.2
        exact ⟨.hear i j o z, ⟨hi, hj, ho⟩, by rw [ew]; rfl⟩
      split at el
      · rename_i ew
        cases el
        obtain ⟨a, b, rfl⟩ := len2 hl
        simp only [List.zip_cons_cons, List.zip_nil_right, List.all_cons, List.all_nil, Bool.and_true, Bool.and_eq_true] at ha
        obtain ⟨i, rfl, hi⟩ := cnt_inv ha.1
        obtain ⟨j, rfl, hj⟩ := cnt_inv ha.2
        exact ⟨.lose i j, ⟨hi, hj⟩, by rw [ew]; rfl⟩
      · cases el
    · cases h
  · cases h
theorem aim_ok {o : Option Int} (h : aimOk o) : Lk.ok .aim (aimD o) = true := by
  cases o with
  | none => rfl
  | some i => exact decide_eq_true h
theorem looks_rw (r : Rw) : looksOf (rwW r) = some (match r with
    | .come _ _ => [.cnt, .srt]
    | .go _ => [.cnt]
    | .send .. => [.cnt, .cnt, .aim, .wrd]
    | .hear .. => [.cnt, .cnt, .cnt, .wrd]
    | .lose .. => [.cnt, .cnt]) := by
  cases r <;> rfl
theorem form_rwD {r : Rw} (h : r.ok) : formD (rwD r) = true := by
  show (match looksOf (rwW r) with
    | some ls => decide ((rwPD r).length = ls.length) && ((ls.zip (rwPD r)).all fun p => p.1.ok p.2)
    | none => false) = true
  rw [looks_rw]
  cases r with
  | come i z =>
    obtain ⟨h1, h2⟩ := h
    have e1 : Lk.ok .cnt (.int i) = true := decide_eq_true h1
    have e2 : Lk.ok .srt (.str z) = true := by
      show (decide (z = ("hand" : Str)) || decide (z = ("alias" : Str))) = true
      rw [Bool.or_eq_true, decide_eq_true_eq, decide_eq_true_eq]
      exact h2
    show (true && (Lk.ok .cnt (.int i) && (Lk.ok .srt (.str z) && true))) = true
    rw [e1, e2]; rfl
  | go i =>
    have e1 : Lk.ok .cnt (.int i) = true := decide_eq_true h
    show (true && (Lk.ok .cnt (.int i) && true)) = true
    rw [e1]; rfl
  | send i j o z =>
    obtain ⟨h1, h2, h3⟩ := h
    have e1 : Lk.ok .cnt (.int i) = true := decide_eq_true h1
    have e2 : Lk.ok .cnt (.int j) = true := decide_eq_true h2
    show (true && (Lk.ok .cnt (.int i) && (Lk.ok .cnt (.int j) && (Lk.ok .aim (aimD o) && (true && true))))) = true
    rw [e1, e2, aim_ok h3]; rfl
  | hear i j o z =>
    obtain ⟨h1, h2, h3⟩ := h
    have e1 : Lk.ok .cnt (.int i) = true := decide_eq_true h1
    have e2 : Lk.ok .cnt (.int j) = true := decide_eq_true h2
    have e3 : Lk.ok .cnt (.int o) = true := decide_eq_true h3
    show (true && (Lk.ok .cnt (.int i) && (Lk.ok .cnt (.int j) && (Lk.ok .cnt (.int o) && (true && true))))) = true
    rw [e1, e2, e3]; rfl
  | lose i j =>
    obtain ⟨h1, h2⟩ := h
    have e1 : Lk.ok .cnt (.int i) = true := decide_eq_true h1
    have e2 : Lk.ok .cnt (.int j) = true := decide_eq_true h2
    show (true && (Lk.ok .cnt (.int i) && (Lk.ok .cnt (.int j) && true))) = true
    rw [e1, e2]; rfl
open Classical in
noncomputable def rwOf (d : PyData) : Option Rw := if h : ∃ r : Rw, r.ok ∧ d = rwD r then some h.choose else none
theorem aimD_inj {o o' : Option Int} (h : aimD o = aimD o') : o = o' := by
  cases o <;> cases o' <;> first | rfl | cases h
  rfl
def rwT : Rw → Fin 5
  | .come .. => 0
  | .go .. => 1
  | .send .. => 2
  | .hear .. => 3
  | .lose .. => 4
def rwN (i : Fin 5) : Str := ([("come" : Str), "go", "send", "hear", "lose"].getD i.val "")
theorem rwN_inj : ∀ i j : Fin 5, rwN i = rwN j → i = j := by decide +kernel
theorem rwW_tag (r : Rw) : rwW r = rwN (rwT r) := by cases r <;> rfl
theorem rwD_inj {r r' : Rw} (h : rwD r = rwD r') : r = r' := by
  unfold rwD at h
  injection h with h
  injection h with h1 h2
  injection h1 with h1
  rw [rwW_tag, rwW_tag] at h1
  have ht := rwN_inj _ _ h1
  clear h1
  cases r with
  | come a s =>
    cases r' with
    | come b z => injection h2 with e1 e2; injection e1 with e1; injection e2 with e2 _; injection e2 with e2; rw [e1, e2]
    | _ => simp [rwT] at ht
  | go a =>
    cases r' with
    | go b => injection h2 with e1 e2; injection e1 with e1; rw [e1]
    | _ => simp [rwT] at ht
  | send a n o z =>
    cases r' with
    | send b m p y => injection h2 with e1 e2; injection e1 with e1; injection e2 with e2 e3; injection e2 with e2; injection e3 with e3 e4; injection e4 with e4 _; injection e4 with e4; rw [e1, e2, aimD_inj e3, e4]
    | _ => simp [rwT] at ht
  | hear a n o z =>
    cases r' with
    | hear b m p y => injection h2 with e1 e2; injection e1 with e1; injection e2 with e2 e3; injection e2 with e2; injection e3 with e3 e4; injection e3 with e3; injection e4 with e4 _; injection e4 with e4; rw [e1, e2, e3, e4]
    | _ => simp [rwT] at ht
  | lose a n =>
    cases r' with
    | lose b m => injection h2 with e1 e2; injection e1 with e1; injection e2 with e2 _; injection e2 with e2; rw [e1, e2]
    | _ => simp [rwT] at ht
theorem rwOf_rwD {r : Rw} (h : r.ok) : rwOf (rwD r) = some r := by
  unfold rwOf
  rw [dif_pos ⟨r, h, rfl⟩]
  have e := (⟨r, h, rfl⟩ : ∃ r' : Rw, r'.ok ∧ rwD r = rwD r').choose_spec
  rw [← rwD_inj e.2]
theorem rwOf_none {d : PyData} (h : formD d = false) : rwOf d = none := by
  unfold rwOf
  rw [dif_neg]
  rintro ⟨r, ho, rfl⟩
  rw [form_rwD ho] at h
  cases h
/-- the first wrong row of things of any kind -/
noncomputable def judgeD (κ : JK) : Jd → List PyData → Nat → Nat ⊕ Jd
  | J, [], _ => .inr J
  | J, d :: ds, i => match rwOf d with
    | none => .inl i
    | some r => match J.row κ r with
      | none => .inl i
      | some J' => judgeD κ J' ds (i + 1)
noncomputable def firstD (κ : JK) (ds : List PyData) (wd : PyData) : Option Nat := match judgeD κ Jd.nil ds 0 with
  | .inl i => some i
  | .inr J => match wsOf wd with
    | none => some ds.length
    | some ws => if J.endOk ws = true then none else some ds.length
theorem judgeD_map {κ : JK} : ∀ {rs : List Rw} {J : Jd} {i : Nat}, (∀ r ∈ rs, r.ok) → judgeD κ J (rs.map rwD) i = judge κ J rs i
  | [], _, _, _ => rfl
  | r :: rs, J, i, h => by
    rw [List.map_cons]
    unfold judgeD judge
    rw [rwOf_rwD (h r List.mem_cons_self)]
    dsimp only
    cases J.row κ r with
    | none => rfl
    | some J' => exact judgeD_map fun z hz => h z (List.mem_cons_of_mem _ hz)
theorem firstD_map {κ : JK} {rs : List Rw} {ws : List (Int × Int)} (h : ∀ r ∈ rs, r.ok) (hw : ∀ k ∈ ws, 0 ≤ k.1 ∧ 0 ≤ k.2) (hr : risB ws = true) : firstD κ (rs.map rwD) (.tuple (ws.map prD)) = firstWrong κ rs ws := by
  unfold firstD firstWrong
  rw [judgeD_map h, wsOf_prD hw hr, List.length_map] <;> cases judge κ Jd.nil rs 0 <;> rfl
theorem aim_val {H : Hp} {v : V} {o : Option Int} (h : Dq H v (aimD o)) : v = aimV o := by
  cases o with
  | none => exact h.inv_none
  | some i => exact h.inv_int
theorem rw_vals {H : Hp} {xs : List V} {r : Rw} (h : DqAll H xs (.str (rwW r) :: rwPD r)) : xs = rwV r := by
  obtain ⟨v0, r0, rfl, h0, h⟩ := h.inv_cons
  rw [h0.inv_str]
  cases r with
  | come a s =>
    obtain ⟨v1, r1, rfl, h1, h⟩ := h.inv_cons
    obtain ⟨v2, r2, rfl, h2, h⟩ := h.inv_cons
    rw [h1.inv_int, h2.inv_str, h.inv_nil]; rfl
  | go a =>
    obtain ⟨v1, r1, rfl, h1, h⟩ := h.inv_cons
    rw [h1.inv_int, h.inv_nil]; rfl
  | send a n o z =>
    obtain ⟨v1, r1, rfl, h1, h⟩ := h.inv_cons
    obtain ⟨v2, r2, rfl, h2, h⟩ := h.inv_cons
    obtain ⟨v3, r3, rfl, h3, h⟩ := h.inv_cons
    obtain ⟨v4, r4, rfl, h4, h⟩ := h.inv_cons
    rw [h1.inv_int, h2.inv_int, aim_val h3, h4.inv_str, h.inv_nil]; rfl
  | hear a n o z =>
    obtain ⟨v1, r1, rfl, h1, h⟩ := h.inv_cons
    obtain ⟨v2, r2, rfl, h2, h⟩ := h.inv_cons
    obtain ⟨v3, r3, rfl, h3, h⟩ := h.inv_cons
    obtain ⟨v4, r4, rfl, h4, h⟩ := h.inv_cons
    rw [h1.inv_int, h2.inv_int, h3.inv_int, h4.inv_str, h.inv_nil]; rfl
  | lose a n =>
    obtain ⟨v1, r1, rfl, h1, h⟩ := h.inv_cons
    obtain ⟨v2, r2, rfl, h2, h⟩ := h.inv_cons
    rw [h1.inv_int, h2.inv_int, h.inv_nil]; rfl
theorem judgeD_at {κ : JK} {J : Jd} {ds : List PyData} {i : Nat} {d : PyData} (h : ds[i]? = some d) : judgeD κ J (ds.drop i) i = match rwOf d with
    | none => .inl i
    | some r => match J.row κ r with
      | none => .inl i
      | some J' => judgeD κ J' (ds.drop (i + 1)) (i + 1) := by
  obtain ⟨hi, e⟩ := List.getElem?_eq_some_iff.mp h
  rw [List.drop_eq_getElem_cons hi, e]
  rfl
def natV : Option Nat → V
  | none => .non
  | some n => .int (n : Int)
def spPair : Sp := fun vs H Q _ => ∃ v d, vs = [v] ∧ Dq H v d ∧ Q (.bl (pairOf d).isSome) H
def spRising : Sp := fun vs H Q _ => ∃ v d, vs = [v] ∧ Dq H v d ∧ (∀ ds, d = .tuple ds → ds.length ≤ 100000) ∧ ∀ H', Same H H' → Q (.bl (wsOf d).isSome) H'
def spFirst : Sp := fun vs H Q _ => ∃ (κ : JK) (x : V) (ds : List PyData) (wd : PyData), vs = [.str (jkS κ), x] ∧ Dq H x (.tuple [.tuple ds, wd]) ∧ ds.length ≤ 40000 ∧ (∀ es, wd = .tuple es → es.length ≤ 100000) ∧
  ∀ H', Same H H' → Q (natV (firstD κ ds wd)) H'

/-- what a row of a word does, by the defs' places -/
def STk (K : PySem.W.Frag) (c : Pc) (tk : Str → Addr) : Addr → Sp → Prop := fun f sp => ∃ r : Rw, f = tk (rwW r) ∧ sp = spTake K c (rwW r)
section
variable {P : Program} {w : World} {K : PySem.W.Frag} {mg : Str → Option Value} {base : Heap} {lk : Lk → Addr} {tk : Str → Addr} {c : Pc}
theorem scPair : FnScope ["thing"] ["thing"] (defScope sPair) := ⟨rfl, rfl, rfl, by decide +kernel, rfl, by decide +kernel, by decide +kernel⟩
theorem ok_pair {f : Addr} {fd : FuncData} (F : Fun K "is_pair" "is_pair" sPair f fd) (B : PB mg) (cC : Cd P w K mg base 2 "is_count" ["thing"] (spLook .cnt)) : FnOk P w K mg base CX0 3 f fd ["thing"] spPair := by
  obtain ⟨fC, fdC, GC, mC, kC, bC⟩ := cC
  refine F.ok scPair (fun vs H Q E h => ?_) (fun cdv A outer s H vs Q E hr h => ?_)
  · obtain ⟨v, d, rfl, _⟩ := h
    rfl
  · obtain ⟨v, d, rfl, hd, k⟩ := h
    have hr2 : Room 2 _ := hr.mono (by decide)
    refine ⟨_, (pss_one (ps_ret (pe_and (pe_callB (isiK (K := K) rfl) (by rfl) B.isinstance (by decide +kernel) (pa_cons (pv 0) (pa_cons (pe_bltn (v := .ty "tuple") (by rfl) B.tuple PyProof.Rows.boot_tuple rfl) pa_nil))) (pe_and (pe_cmpR op_eq (pe_callB (lenK (K := K) rfl) (by rfl) B.len PySem.boot_len (pa_cons (pv 0) pa_nil)) pe_int (nomark _)) (pe_and (pe_call GC hr2 rfl mC kC bC .nil pass0 (pa_cons (pe_ix (ixT (K := K) rfl) (pv 0) pe_int (fun _ _ => rfl)) pa_nil)) (pe_one (pe_call GC hr2 rfl mC kC bC .nil pass0 (pa_cons (pe_ix (ixT (K := K) rfl) (pv 0) pe_int (fun _ _ => rfl)) pa_nil)))))))), ?_⟩
    by_cases ht : tyN d = "tuple"
    · obtain ⟨ds, rfl⟩ : ∃ ds, d = .tuple ds := by
        cases hd with
        | tup h1 h2 => exact ⟨_, rfl⟩
        | _ => simp [tyN] at ht
      obtain ⟨a, xs, rfl, ha, hds⟩ := hd.inv_tup
      refine ⟨_, rfl, _, _, _, _, true, rfl, .ty _, hd.ty, kit_tuple _, true, rfl, iteT ?_⟩
      refine ⟨_, rfl, _, xs.length, rfl, .inr ⟨_, SqT.of ha, rfl⟩, rfl, _, rfl, iteI (fun e0 => ?_) (fun e0 => ?_)⟩
      · obtain ⟨d1, d2, rfl⟩ := len2 (show ds.length = 2 by rw [← hds.len]; omega)
        obtain ⟨v1, r1, rfl, h1, hr1⟩ := hds.inv_cons
        obtain ⟨v2, r2, rfl, h2, hr2'⟩ := hr1.inv_cons
        have := hr2'.inv_nil
        subst this
        refine ⟨_, rfl, a, _, 0, _, rfl, rfl, SqT.of ha, atI_nat (j := 0) rfl, v1, d1, rfl, h1, _, rfl, iteB (fun e1 => ?_) (fun e1 => ?_)⟩
        · refine ⟨_, rfl, a, _, 1, _, rfl, rfl, SqT.of ha, atI_nat (j := 1) rfl, v2, d2, rfl, h2, ?_⟩
          obtain ⟨i, rfl, hi⟩ := cnt_inv e1
          have e : (pairOf (.tuple [.int i, d2])).isSome = Lk.ok .cnt d2 := by
            cases d2 with
            | int j =>
              show (if 0 ≤ i ∧ 0 ≤ j then some (i, j) else none).isSome = decide (0 ≤ j)
              by_cases hj : 0 ≤ j
              · rw [if_pos ⟨hi, hj⟩, decide_eq_true hj]; rfl
              · rw [if_neg (fun z => hj z.2), decide_eq_false hj]; rfl
            | _ => rfl
          rw [e] at k
          exact k
        · have e : (pairOf (.tuple [d1, d2])).isSome = false := by
            cases d1 with
            | int i =>
              have hi : ¬ 0 ≤ i := of_decide_eq_false e1
              cases d2 with
              | int j =>
                show (if 0 ≤ i ∧ 0 ≤ j then some (i, j) else none).isSome = false
                rw [if_neg (fun z => hi z.1)]; rfl
              | _ => rfl
            | _ => rfl
          rw [e] at k
          exact k
      · have e : (pairOf (.tuple ds)).isSome = false := by
          unfold pairOf
          split
          · rename_i h1
            injection h1 with h1
            rw [hds.len, h1] at e0
            exact absurd rfl e0
          · rfl
        rw [e] at k
        exact k
    · have e : (pairOf d).isSome = false := by
        cases hd with
        | tup h1 h2 => exact absurd rfl ht
        | _ => rfl
      rw [e] at k
      refine ⟨_, rfl, _, _, _, _, _, rfl, .ty _, hd.ty, kit_tuple d, _, rfl, ?_⟩
      rw [decide_eq_false ht]
      exact k
theorem scRising : FnScope ["thing", "one", "other"] ["thing"] (defScope sRising) := ⟨rfl, rfl, rfl, by decide +kernel, rfl, by decide +kernel, by decide +kernel⟩
theorem ok_rising {f : Addr} {fd : FuncData} (F : Fun K "is_rising" "is_rising" sRising f fd) (B : PB mg) (cP : Cd P w K mg base 3 "is_pair" ["thing"] spPair) : FnOk P w K mg base CX0 4 f fd ["thing"] spRising := by
  obtain ⟨fP, fdP, GP, mP, kP, bP⟩ := cP
  refine F.ok scRising (fun vs H Q E h => ?_) (fun cdv A outer s H vs Q E hr h => ?_)
  · obtain ⟨v, d, rfl, _⟩ := h
    rfl
  · obtain ⟨v, d, rfl, hd, hl, k⟩ := h
    have hr3 : Room 3 _ := hr.mono (by decide)
    refine ⟨_, (pss_cons (ps_if (PW.pt (pw_or (pt_not (pt_val (pe_callB (isiK (K := K) rfl) (by rfl) B.isinstance (by decide +kernel) (pa_cons (pv 0) (pa_cons (pe_bltn (v := .ty "tuple") (by rfl) B.tuple PyProof.Rows.boot_tuple rfl) pa_nil))))) (pw_or1 (pt_not (pt_val (pe_callB (crAllK (K := K) rfl rfl) (by rfl) B.all (by decide +kernel) (pa_cons (pe_lc (own := [("one", 1)]) (g := (gName 1)) (tt := tYes) rfl scRising.nd (pi_tup (pv 0)) (blkOk_by (N := ["thing", "one", "other"]) (sc := defScope sRising) (by decide +kernel))
       (fun _ _ _ _ _ => (pg_name (i := 1) scRising.nd rfl (Or.inl rfl))) (fun _ _ _ _ _ => pts_nil) (fun _ _ _ _ _ => (pe_call GP hr3 rfl mP kP bP .nil pass0 (pa_cons (pv 1) pa_nil)))) pa_nil)))))))
       (pss_one (ps_ret pe_bl))
       pss_nil)
       (pss_one (ps_ret (pe_callB (crAllK (K := K) rfl rfl) (by rfl) B.all (by decide +kernel) (pa_cons (pe_lc (own := [("one", 1), ("other", 2)]) (g := (gTup K 2 (gCons (gName 1) (gCons (gName 2) gNil)))) (tt := tYes) rfl scRising.nd (RZ.pi_zipA (by rfl) B.zip (pa_cons (pv 0) (pa_cons (pe_slice (slA (K := K) rfl) (pv 0) (po_some pe_int) po_none) pa_nil))) (blkOk_by (N := ["thing", "one", "other"]) (sc := defScope sRising) (by decide +kernel))
       (fun _ _ _ _ _ => (pg_tup rfl (pgs_cons (pg_name (i := 1) scRising.nd rfl (Or.inl rfl)) (pgs_cons (pg_name (i := 2) scRising.nd rfl (Or.inl rfl)) pgs_nil)))) (fun _ _ _ _ _ => pts_nil) (fun _ _ _ _ _ => (pe_cmpR (ltTK (K := K) rfl (show _ < cLine from Nat.lt_of_le_of_lt (Nat.le_add_right _ 65) (room65 hr))) (pv 1) (pv 2) (nomark _)))) pa_nil))))), ?_⟩
    by_cases ht : tyN d = "tuple"
    · obtain ⟨ds, rfl⟩ : ∃ ds, d = .tuple ds := by
        cases hd with
        | tup h1 h2 => exact ⟨_, rfl⟩
        | _ => simp [tyN] at ht
      obtain ⟨a, xs, rfl, ha, hds⟩ := hd.inv_tup
      have ld := hl ds rfl
      have k : ∀ H', Same H H' → Q (.bl (if (ds.all fun d => (pairOf d).isSome) = true ∧ risB (ds.filterMap pairOf) = true then some (ds.filterMap pairOf) else none).isSome) H' := k
      refine ⟨_, rfl, _, _, _, _, true, rfl, .ty _, hd.ty, kit_tuple _, true, rfl, iteF ?_⟩
      refine ⟨_, rfl, a, rfl, ⟨_, SqT.of ha⟩, fun D nD => ?_⟩
      refine comp_ls (L := ds) ((walk_tup (K := K) (a := a) (xs := xs)).cast hds.len) (fun H' s' => SqT.of (s' _ _ ha)) (fun _ => true) (fun q => .bl (pairOf q).isSome) nD (by omega) ?_ ?_
      · rintro j b v H' H'' Q' N' hj s' ⟨rfl, hv⟩ hQ hN
        obtain ⟨u, eu, hu'⟩ := hds.get hj
        rw [eu] at hv
        cases hv
        exact ⟨rfl, tYes_t (iteT ⟨_, rfl, _, b, rfl, Dq.sm s' hu', hQ rfl _ (L2.Same.refl _)⟩)⟩
      intro H1 s1 hD1
      rw [filter_all] at hD1
      refine ⟨D, ds.map (fun q => (pairOf q).isSome), rfl, .inl (.inl (by rw [List.map_map]; exact hD1)), ?_⟩
      rw [List.all_map]
      cases e1 : ds.all (fun d => (pairOf d).isSome) with
      | false =>
        rw [if_neg (fun z => by rw [e1] at z; exact Bool.noConfusion z.1)] at k
        exact ⟨false, congrArg V.bl e1, iteT (k _ s1)⟩
      | true =>
        refine ⟨true, congrArg V.bl e1, iteF ?_⟩
        have em := pairs_map e1
        generalize ds.filterMap pairOf = ws at k em
        subst em
        have lw : (ws.map prD).length ≤ 100000 := ld
        rw [List.length_map] at lw
        have lx : xs.length = ws.length := by rw [hds.len, List.length_map]
        have at1 : ∀ (i : Nat) (v : V) (q : Int × Int), xs[i]? = some v → ws[i]? = some q → ∃ b, v = .ref b ∧ H b = some (.tup [.int q.1, .int q.2]) := fun i v q h1 h2 => by
          obtain ⟨u, eu, hu'⟩ := hds.get (i := i) (d := prD q) (by rw [List.getElem?_map, h2]; rfl)
          rw [eu] at h1
          cases h1
          obtain ⟨b, ys, rfl, hb, hys⟩ := hu'.inv_tup
          obtain ⟨v1, r1, rfl, q1, hr1⟩ := hys.inv_cons
          obtain ⟨v2, r2, rfl, q2, hr2'⟩ := hr1.inv_cons
          rw [hr2'.inv_nil, q1.inv_int, q2.inv_int] at hb
          exact ⟨b, rfl, hb⟩
        refine ⟨_, rfl, _, rfl, _, rfl, ?_⟩
        dsimp only [tNoPart]
        refine slA_sq (SqT.of (s1 _ _ ha)) fun H2 sl s2 hsl => ?_
        rw [show cutL xs (some 1) none = xs.tail from by rw [show (1 : Int) = ((1 : Nat) : Int) from rfl, cutL_from, List.drop_one]] at hsl
        have s12 := s1.trans s2
        have lz : (ws.zip ws.tail).length = min xs.length xs.tail.length := by rw [List.length_zip, List.length_tail, List.length_tail, lx]
        refine ⟨a, sl, _, _, rfl, .inr ⟨SqT.of (s12 _ _ ha), hsl, fun D2 nD2 => ?_⟩⟩
        refine comp_ls (L := ws.zip ws.tail) (walk_zipTT (K := K) (a := a) (b := sl) lz) (fun H' s' => ⟨SqT.of (s' _ _ (s12 _ _ ha)), SqT.sm hsl s'⟩) (fun _ => true) (fun p => .bl (HT.lexLt [p.1.1, p.1.2] [p.2.1, p.2.2])) nD2 (by rw [List.length_zip]; omega) ?_ ?_
        · rintro j b v H' H'' Q' N' hj s' ⟨T, x0, y0, rfl, nT, rfl, ex, ey⟩ hQ hN
          have sT : Same H' (upd H' T (.tup [x0, y0])) := (L2.Same.refl _).new nT
          have hT2 : upd H' T (.tup [x0, y0]) T = some (.tup [x0, y0]) := upd_same
          generalize upd H' T (.tup [x0, y0]) = G2 at sT hT2
          refine ⟨T, _, rfl, .inl (.inl hT2), rfl, _, _, rfl, _, _, rfl, rfl, ?_⟩
          refine ⟨rfl, tYes_t (iteT ?_)⟩
          have hz : (ws.zip ws.tail)[j]? = some b := hj
          rw [List.getElem?_zip_eq_some] at hz
          dsimp only at ex ey
          obtain ⟨b1, rfl, g1⟩ := at1 j x0 b.1 ex hz.1
          rw [List.getElem?_tail] at ey
          have hz2 := hz.2
          rw [List.getElem?_tail] at hz2
          obtain ⟨b2, rfl, g2⟩ := at1 (j + 1) y0 b.2 ey hz2
          have sa := s12.trans (s'.trans sT)
          exact ⟨_, rfl, _, rfl, b1, b2, [b.1.1, b.1.2], [b.2.1, b.2.2], rfl, rfl, SqT.of (sa _ _ g1), SqT.of (sa _ _ g2), hQ rfl _ sT⟩
        · intro H' s' hD
          rw [filter_all] at hD
          refine ⟨D2, (ws.zip ws.tail).map (fun p => HT.lexLt [p.1.1, p.1.2] [p.2.1, p.2.2]), rfl, .inl (.inl (by rw [List.map_map]; exact hD)), ?_⟩
          rw [List.all_map]
          have q := k _ (s12.trans s')
          have e3 : (if (List.map prD ws).all (fun d => (pairOf d).isSome) = true ∧ risB ws = true then some ws else none).isSome = risB ws := by
            cases hr : risB ws with
            | true => rw [if_pos ⟨e1, rfl⟩]; rfl
            | false => rw [if_neg (fun z => Bool.noConfusion z.2)]; rfl
          rw [e3] at q
          exact q
    · have e : (wsOf d).isSome = false := by
        cases hd with
        | tup h1 h2 => exact absurd rfl ht
        | _ => rfl
      rw [e] at k
      refine ⟨_, rfl, _, _, _, _, _, rfl, .ty _, hd.ty, kit_tuple d, _, rfl, ?_⟩
      rw [decide_eq_false ht]
      exact iteT (k _ (L2.Same.refl _))
theorem scFirst : FnScope ["kind", "paper", "rows", "waiting", "judge", "at", "row"] ["kind", "paper"] (defScope sFirst) := ⟨rfl, rfl, rfl, by decide +kernel, rfl, by decide +kernel, by decide +kernel⟩
theorem ok_first {f : Addr} {fd : FuncData} (F : Fun K "first_wrong" "first_wrong" sFirst f fd) (B : PB mg) (T : PT K w mg lk tk) (TJ : TJd K c) (AT : ∀ f sp, STk K c tk f sp → Held P w K mg base 4 f sp) (cJ : Cd P w K mg base 4 "judge_of" ["kind"] (spJOf c)) (cF : Cd P w K mg base 4 "is_form" ["row"] spForm) (cR : Cd P w K mg base 4 "is_rising" ["thing"] spRising)
    {fE : JK → Addr} {fdE : JK → FuncData} (ME : ∀ κ, Meth K (c.J κ) "is_right_end" (fE κ)) (GE : ∀ κ, FnOk P w K mg base CX0 4 (fE κ) (fdE κ) ["self", "waiting"] (spEnd K c κ)) (bE : ∀ κ, Binds K (fdE κ) ["self", "waiting"] []) : FnOk P w K mg base CX0 5 f fd ["kind", "paper"] spFirst := by
  obtain ⟨aT, es, n, mTAKES, DT, eT⟩ := T.takes
  obtain ⟨fJ, fdJ, GJ, mJ, kJ, bJ⟩ := cJ
  obtain ⟨fF, fdF, GF, mF, kF, bF⟩ := cF
  obtain ⟨fR, fdR, GR, mR, kR, bR⟩ := cR
  refine F.ok scFirst (fun vs H Q E h => ?_) (fun cdv A outer s H vs Q E hr h => ?_)
  · obtain ⟨κ, x, ds, wd, rfl, _⟩ := h
    rfl
  · obtain ⟨κ, x, ds, wd, rfl, hx, hl, hw, k⟩ := h
    have hr4 : Room 4 _ := hr.mono (by decide)
    obtain ⟨a, xs, rfl, ha, hds⟩ := hx.inv_tup
    obtain ⟨vr, r1, rfl, hr', hds⟩ := hds.inv_cons
    obtain ⟨vw, r2, rfl, hwd, hds⟩ := hds.inv_cons
    have := hds.inv_nil
    subst this
    obtain ⟨ar, rs, rfl, har, hrs⟩ := hr'.inv_tup
    refine ⟨_, (pss_cons (ps_asg (pv 1) (pg_tup rfl (pgs_cons (pg_name (i := 2) scFirst.nd rfl (Or.inl rfl)) (pgs_cons (pg_name (i := 3) scFirst.nd rfl (Or.inl rfl)) pgs_nil))))
       (pss_cons (ps_set (i := 4) scFirst.nd rfl (Or.inl rfl) (pe_call GJ hr4 rfl mJ kJ bJ .nil pass0 (pa_cons (pv 0) pa_nil)))
       (pss_cons (ps_for PassesOwn.never rfl (pi_enumT (by rfl) B.enumerate (pa_cons (pv 2) pa_nil)) (pg_tup rfl (pgs_cons (pg_name (i := 5) scFirst.nd rfl (Or.inl rfl)) (pgs_cons (pg_name (i := 6) scFirst.nd rfl (Or.inl rfl)) pgs_nil)))
       (pss_one (ps_if (PW.pt (pw_or (pt_not (pt_val (pe_call GF hr4 rfl mF kF bF .nil pass0 (pa_cons (pv 6) pa_nil)))) (pw_or1 (pt_not (pt_val (pe_callE (S := STk K c tk) AT hr4 (pe_ix ix_kdict (pe_glob (v := .ref aT) (by rfl) mTAKES rfl) (pe_ix (ixT (K := K) rfl) (pv 6) pe_int (fun _ _ => rfl)) (fun _ _ => rfl)) (pa_cons (pv 4) (pa_cons (pe_slice (slA (K := K) rfl) (pv 6) (po_some pe_int) po_none) pa_nil))))))))
       (pss_one (ps_ret (pv 5)))
       pss_nil)))
       (pss_cons (ps_if (PW.pt (pw_or (pt_not (pt_val (pe_call GR hr4 rfl mR kR bR .nil pass0 (pa_cons (pv 3) pa_nil)))) (pw_or1 (pt_not (pt_val (pe_methI (pv 4) TJ.cl ME GE hr4 bE .nil pass0 (pa_cons (pv 3) pa_nil)))))))
       (pss_one (ps_ret (pe_callB (lenK (K := K) rfl) (by rfl) B.len PySem.boot_len (pa_cons (pv 2) pa_nil))))
       pss_nil)
       (pss_one (ps_ret pe_non)))))), ?_⟩
    refine ⟨_, rfl, a, _, rfl, .inl (.inl ha), rfl, _, _, rfl, _, _, rfl, rfl, ?_⟩
    refine ⟨_, rfl, κ, rfl, fun H1 A0 h1 => ?_⟩
    have lr := hrs.len
    refine ⟨_, rfl, ar, rs, rfl, SqT.of (h1.sm _ _ har), ?_⟩
    refine for_it (walk_enumT (K := K) (a := ar) (xs := rs)) (fun i σ H' => ∃ (A : Ja) (J : Jd) (v5 v6 : Option V), σ = [some (.str (jkS κ)), some (.ref a), some (.ref ar), some vw, some (.ref A.j), v5, v6] ∧ JdAt c κ H H' A J (2 * i) ∧ judgeD κ Jd.nil ds 0 = judgeD κ J (ds.drop i) i)
      ⟨A0, Jd.nil, _, _, rfl, h1, rfl⟩ (fun i σ H' _ ⟨_, _, _, _, _, h', _⟩ => SqT.of (h'.sm _ _ har)) ?_ ?_
    · rintro i y σ H2 H2' hi ⟨A, J, v5, v6, rfl, h2, ej⟩ ⟨T, y, rfl, nT, rfl, hy⟩
      obtain ⟨d, ed, hd⟩ := hrs.getV hy
      have sT : Same H2 (upd H2 T (.tup [.int (i : Int), y])) := (L2.Same.refl _).new nT
      have hT2 : upd H2 T (.tup [.int (i : Int), y]) T = some (.tup [.int (i : Int), y]) := upd_same
      generalize upd H2 T (.tup [.int (i : Int), y]) = H3 at sT hT2
      have h3 := h2.same sT
      refine ⟨T, _, rfl, .inl (.inl hT2), rfl, _, _, rfl, _, _, rfl, rfl, ?_⟩
      refine ⟨_, rfl, y, d, rfl, Dq.sm h3.sm hd, fun H4 s4 => ?_⟩
      have h4 := h3.same s4
      rw [judgeD_at ed] at ej
      cases ef : formD d with
      | false =>
        rw [rwOf_none ef] at ej
        refine ⟨_, rfl, iteT ?_⟩
        have q := k H4 h4.sm
        unfold firstD at q
        rw [ej] at q
        exact ⟨_, rfl, q⟩
      | true =>
        obtain ⟨r, ro, rfl⟩ := form_inv ef
        rw [rwOf_rwD ro] at ej
        dsimp only at ej
        refine ⟨_, rfl, iteF ?_⟩
        obtain ⟨ay, ys, rfl, hay, hys⟩ := hd.inv_tup
        have := rw_vals hys
        subst this
        have hay4 := h4.sm _ _ hay
        refine ⟨_, rfl, ay, _, 0, _, rfl, rfl, SqT.of hay4, atI_nat (j := 0) rfl, aT, rwW r, .ref (tk (rwW r)), rfl, rfl, ⟨es, n, .ref (tk (rwW r)), DT.at_, DT.lit, eT r, rfl⟩, ?_⟩
        refine ⟨tk (rwW r), _, rfl, ⟨r, rfl, rfl⟩, _, rfl, _, rfl, _, rfl, ?_⟩
        dsimp only [tNoPart]
        refine slA_sq (SqT.of hay4) fun H5 pt s5 hpt => ?_
        rw [show cutL (rwV r) (some 1) none = rwP r from cutL_from (rwV r) 1] at hpt
        have h5 := h4.same s5
        refine ⟨κ, H, A, J, 2 * i, r, pt, rfl, rfl, hpt, h5, by omega, ?_⟩
        unfold RowOut
        cases er : J.row κ r with
        | none =>
          rw [er] at ej
          intro H6 s6
          refine ⟨_, rfl, iteT ?_⟩
          have q := k H6 s6
          unfold firstD at q
          rw [ej] at q
          exact ⟨_, rfl, q⟩
        | some J' =>
          rw [er] at ej
          intro H6 A6 e6 h6
          refine ⟨_, rfl, iteF ⟨A6, J', _, _, by rw [e6]; rfl, h6, ej⟩⟩
    · rintro σ H2 ⟨A, J, v5, v6, rfl, h2, ej⟩
      rw [lr, List.drop_length] at ej
      have ej : judgeD κ Jd.nil ds 0 = .inr J := ej
      unfold firstD at k
      rw [ej] at k
      dsimp only at k
      refine ⟨_, rfl, vw, wd, rfl, Dq.sm h2.sm hwd, hw, fun H3 s3 => ?_⟩
      have h3 := h2.same s3
      cases ew : wsOf wd with
      | none =>
        rw [ew] at k
        refine ⟨_, rfl, iteT ⟨_, rfl, _, rs.length, rfl, .inr ⟨_, SqT.of (h3.sm _ _ har), rfl⟩, ?_⟩⟩
        have q := k H3 h3.sm
        rw [lr]
        exact q
      | some ws =>
        rw [ew] at k
        dsimp only at k
        refine ⟨_, rfl, iteF ?_⟩
        have e1 := wsOf_some ew
        subst e1
        obtain ⟨t, zs, rfl, ht, hzs⟩ := hwd.inv_tup
        have lz := hzs.len
        rw [List.length_map] at lz
        have lw := hw _ rfl
        rw [List.length_map] at lw
        refine ⟨_, rfl, κ, A.j, A.dx, _, rfl, h3.o, jF_no (by decide), _, rfl, H, A, J, 2 * rs.length, t, zs, ws, rfl, h3, by omega, SqT.of (h3.sm _ _ ht), lz, lw, fun i v q g1 g2 => ?_, fun H4 s4 => ?_⟩
        · obtain ⟨u, eu, hu'⟩ := hzs.get (i := i) (d := prD q) (by rw [List.getElem?_map, g2]; rfl)
          rw [eu] at g1
          cases g1
          obtain ⟨b, ys, rfl, hb, hys⟩ := hu'.inv_tup
          obtain ⟨v1, r1, rfl, q1, hr1⟩ := hys.inv_cons
          obtain ⟨v2, r2, rfl, q2, hr2'⟩ := hr1.inv_cons
          rw [hr2'.inv_nil, q1.inv_int, q2.inv_int] at hb
          exact ⟨b, rfl, h3.sm _ _ hb⟩
        · have q := k H4 s4
          cases ee : J.endOk ws with
          | false =>
            rw [ee, if_neg Bool.noConfusion] at q
            refine ⟨_, rfl, iteT ⟨_, rfl, _, rs.length, rfl, .inr ⟨_, SqT.of (s4 _ _ har), rfl⟩, ?_⟩⟩
            rw [lr]
            exact q
          | true =>
            rw [ee, if_pos rfl] at q
            exact ⟨_, rfl, iteF q⟩
end
end Wn

namespace Wn
open PySem L2
/-- a list that rises already is its own sorted one -/
theorem sorted_self {le lt : V → V → Prop} (h : ∀ x y, lt x y → le y x → False) : ∀ {xs ys : List V}, ys.Perm xs → ys.Pairwise le → xs.Pairwise lt → ys = xs
  | [], ys, p, _, _ => List.Perm.eq_nil p
  | x :: xs, [], p, _, _ => by
    have := p.length_eq
    cases this
  | x :: xs, y :: ys, p, sy, sx => by
    rw [List.pairwise_cons] at sy sx
    by_cases e : y = x
    · subst e
      rw [sorted_self h (List.Perm.cons_inv p) sy.2 sx.2]
    · have hy : y ∈ xs := by
        have : y ∈ x :: xs := p.mem_iff.mp List.mem_cons_self
        rcases List.mem_cons.mp this with z | z
        · exact absurd z e
        · exact z
      have hx : x ∈ ys := by
        have : x ∈ y :: ys := p.mem_iff.mpr List.mem_cons_self
        rcases List.mem_cons.mp this with z | z
        · exact absurd z.symm e
        · exact z
      exact (h x y (sx.1 y hy) (sy.1 x hx)).elim
theorem code3 (B a b c : Int) : TS.code B [a, b, c] = a * (B * B) + (b * B + c) := by
  show a * B ^ 2 + (b * B ^ 1 + (c * B ^ 0 + 0)) = _
  rw [show B ^ 2 = B * B by rw [Int.pow_succ, Int.pow_succ, Int.pow_zero, Int.one_mul], show B ^ 1 = B by rw [Int.pow_succ, Int.pow_zero, Int.one_mul], Int.pow_zero]
  omega
theorem code2 (B a b : Int) : TS.code B [a, b] = a * B + b := by
  show a * B ^ 1 + (b * B ^ 0 + 0) = _
  rw [show B ^ 1 = B by rw [Int.pow_succ, Int.pow_zero, Int.one_mul], Int.pow_zero]
  omega
end Wn

namespace Wn
open PySem L2
/-! ### papers that the laws make: what their rows are -/
def txt (t : Str) : Prop := t.length ≤ 4 ∧ PyData.strOk t = true
def tOk (B : Int) (t : Str) : Prop := (t.length : Int) ≤ B ∧ PyData.strOk t = true
def in5 (h : Int) : Prop := 0 ≤ h ∧ h < 5
structure PSd (S : Sd) (i : Nat) : Prop where
  z : S.Sz i
  h : ∀ h, (lookA S.there h).isSome = true → in5 h
  k : ∀ k x, lookP S.posts k = some x → in5 k.1 ∧ (0 ≤ k.2 ∧ k.2 ≤ 3 * (i : Int)) ∧ (∀ h ∈ x.2.2, in5 h) ∧ txt x.2.1
theorem PSd.nil : PSd Sd.nil 0 := ⟨Sd.Sz.nil, (fun h e => by cases e), (fun k x e => by cases e)⟩
theorem PSd.mono {S : Sd} {i j : Nat} (p : PSd S i) (h : i ≤ j) : PSd S j := ⟨p.z.mono h, p.h, fun k x e => let ⟨a, b, c⟩ := p.k k x e; ⟨a, ⟨b.1, by omega⟩, c⟩⟩
def Rw.nx (i : Nat) : Rw → Prop
  | .come h s => in5 h ∧ (s = ("hand" : Str) ∨ s = ("alias" : Str))
  | .go h => in5 h
  | .send a n aim t => in5 a ∧ (0 ≤ n ∧ n ≤ 3 * (i : Int) + 3) ∧ (∀ j, aim = some j → in5 j) ∧ txt t
  | .hear h a n t => in5 h ∧ in5 a ∧ (0 ≤ n ∧ n ≤ 3 * (i : Int)) ∧ txt t
  | .lose a n => in5 a ∧ (0 ≤ n ∧ n ≤ 3 * (i : Int))
theorem Rw.nx.ok {i : Nat} {r : Rw} (h : r.nx i) : r.ok := by
  cases r with
  | come z s => exact ⟨h.1.1, h.2⟩
  | go z => exact h.1
  | send a n aim t =>
    refine ⟨h.1.1, h.2.1.1, ?_⟩
    cases aim with
    | none => trivial
    | some j => exact (h.2.2.1 j rfl).1
  | hear z a n t => exact ⟨h.1.1, h.2.1.1, h.2.2.1.1⟩
  | lose a n => exact ⟨h.1.1, h.2.1⟩
def Rw.h5 : Rw → Prop
  | .come h _ => in5 h
  | .go h => in5 h
  | .send a _ aim _ => in5 a ∧ ∀ j, aim = some j → in5 j
  | .hear h a _ _ => in5 h ∧ in5 a
  | .lose a _ => in5 a
theorem Rw.nx.h5 {i : Nat} {r : Rw} (h : r.nx i) : r.h5 := by
  cases r with
  | come z s => exact h.1
  | go z => exact h
  | send a n aim t => exact ⟨h.1, h.2.2.1⟩
  | hear z a n t => exact ⟨h.1, h.2.1⟩
  | lose a n => exact h.1
/-- all whole numbers of a row are small -/
def Rw.sm (B : Int) : Rw → Prop
  | .come h s => h ≤ B ∧ tOk B s
  | .go h => h ≤ B
  | .send a n aim t => a ≤ B ∧ n ≤ B ∧ (∀ j, aim = some j → j ≤ B) ∧ tOk B t
  | .hear h a n t => h ≤ B ∧ a ≤ B ∧ n ≤ B ∧ tOk B t
  | .lose a n => a ≤ B ∧ n ≤ B
theorem Rw.nx.sm {i : Nat} {r : Rw} {B : Int} (h : r.nx i) (hB : 3 * (i : Int) + 5 ≤ B) : r.sm B := by
  cases r with
  | come z s =>
    have h1 := h.1.2
    have h2 : s.length ≤ 5 := by
      rcases h.2 with rfl | rfl <;> decide
    have h3 : PyData.strOk s = true := by
      rcases h.2 with rfl | rfl <;> decide +kernel
    exact ⟨by omega, by omega, h3⟩
  | go z => have := h.2; show z ≤ B; omega
  | send a n aim t =>
    have h1 := h.1.2
    have h2 := h.2.1.2
    have h3 := h.2.2.2.1
    exact ⟨by omega, by omega, (fun j e => by have := (h.2.2.1 j e).2; omega), by omega, h.2.2.2.2⟩
  | hear z a n t =>
    have h1 := h.1.2
    have h2 := h.2.1.2
    have h3 := h.2.2.1.2
    have h4 := h.2.2.2.1
    exact ⟨by omega, by omega, by omega, by omega, h.2.2.2.2⟩
  | lose a n =>
    have h1 := h.1.2
    have h2 := h.2.2
    exact ⟨by omega, by omega⟩
theorem mem_dueS {there : List (Int × Str)} {a h : Int} {aim : Option Int} (m : h ∈ dueS there a aim) : (lookA there h).isSome = true := by
  refine mem_keys.mp ?_
  cases aim <;> (unfold dueS at m; exact ((List.filter_sublist).map _).subset m)
theorem PSd.row {κ : JK} {S : Sd} {i : Nat} {r : Rw} (p : PSd S i) (h : r.nx i) : PSd (S.row κ r).2 (i + 1) := by
  have pm := p.mono (Nat.le_succ i)
  refine ⟨p.z.row r, ?_, ?_⟩
  · cases r with
    | come z s =>
      unfold Sd.row
      dsimp only
      split
      · intro y hy
        rw [lookA_put] at hy
        split at hy
        · rename_i e; rw [e]; exact h.1
        · exact p.h y hy
      · exact p.h
    | go z =>
      unfold Sd.row
      dsimp only
      split
      · exact p.h
      · intro y hy
        refine p.h y ?_
        rw [← mem_keys] at hy ⊢
        exact ((List.filter_sublist).map _).subset hy
    | send a m aim t =>
      unfold Sd.row
      dsimp only
      split <;> exact p.h
    | hear z a m t =>
      unfold Sd.row
      dsimp only
      split
      · exact p.h
      · split <;> exact p.h
    | lose a m => exact p.h
  · cases r with
    | come z s =>
      unfold Sd.row
      dsimp only
      split <;> exact pm.k
    | go z =>
      unfold Sd.row
      dsimp only
      split <;> exact pm.k
    | send a m aim t =>
      unfold Sd.row
      dsimp only
      split
      · exact pm.k
      · intro k x e
        rw [lookP_put] at e
        split at e
        · rename_i ek
          cases e
          rw [ek]
          exact ⟨h.1, ⟨h.2.1.1, by have := h.2.1.2; show m ≤ 3 * ((i + 1 : Nat) : Int); omega⟩, (fun y hy => p.h y (mem_dueS hy)), h.2.2.2⟩
        · exact pm.k k x e
    | hear z a m t =>
      unfold Sd.row
      dsimp only
      split
      · exact pm.k
      · split <;> exact pm.k
    | lose a m => exact pm.k
/-! keys, sorted -/
def kLt (x y : Int × Int) : Prop := x.1 < y.1 ∨ x.1 = y.1 ∧ x.2 < y.2
theorem risB_of : ∀ {ws : List (Int × Int)}, ws.Pairwise kLt → risB ws = true
  | [], _ => rfl
  | [x], _ => rfl
  | x :: y :: ws, h => by
    rw [List.pairwise_cons] at h
    have r := risB_of h.2
    have e := h.1 y List.mem_cons_self
    unfold risB at r ⊢
    show (HT.lexLt [x.1, x.2] [y.1, y.2] && _) = true
    rw [Bool.and_eq_true]
    refine ⟨?_, r⟩
    rcases e with e | ⟨e, f⟩
    · have n : ¬ x.1 = y.1 := by omega
      simp [HT.lexLt, e, n]
    · have n : ¬ x.2 = y.2 := by omega
      simp [HT.lexLt, e, f, n]
def keyOf (H : Hp) : V → Int × Int
  | .ref t => match H t with
    | some (.tup [.int i, .int j]) => (i, j)
    | _ => (0, 0)
  | _ => (0, 0)
theorem keyOf_at {H : Hp} {t : Addr} {k : Int × Int} (h : H t = some (.tup [.int k.1, .int k.2])) : keyOf H (.ref t) = k := by
  unfold keyOf
  dsimp only
  rw [h]
/-- what list(d) tells of the keys of pairs, sorted -/
theorem keys_sorted {K : PySem.W.Frag} {H : Hp} {as : List ((Int × Int) × Addr)} {bs : List Addr} {ys : List V} {B : Int} (ik : IsKeys H (gA as) bs) (pm : ys.Perm (bs.map V.ref)) (nd : (as.map (·.1)).Nodup) (b : ∀ k ∈ as.map (·.1), (0 ≤ k.1 ∧ k.1 < B) ∧ 0 ≤ k.2 ∧ k.2 < B)
    (srt : ys.Pairwise (fun x y => ∀ n m, TupI K H x n → TupI K H y m → TS.code B n ≤ TS.code B m)) :
    ∃ ks : List (Int × Int), ks.Perm (as.map (·.1)) ∧ ks.Pairwise kLt ∧ ys.length = ks.length ∧ ∀ (i : Nat) (v : V) (k : Int × Int), ys[i]? = some v → ks[i]? = some k → WtAt H v k := by
  have hb : ∀ {as : List ((Int × Int) × Addr)} {bs : List Addr}, IsKeys H (gA as) bs → (bs.map V.ref).map (keyOf H) = as.map (·.1) ∧ ∀ v ∈ bs.map V.ref, WtAt H v (keyOf H v) := by
    intro as
    induction as with
    | nil =>
      intro bs ik
      cases ik
      exact ⟨rfl, fun v hv => by cases hv⟩
    | cons x as ih =>
      intro bs ik
      cases ik with
      | cons h r =>
        obtain ⟨e1, e2⟩ := ih r
        have hx := keyOf_at (k := x.1) h
        rename_i b bs'
        refine ⟨by rw [List.map_cons, List.map_cons, List.map_cons, hx, e1], fun v hv => ?_⟩
        rcases List.mem_cons.mp hv with rfl | hv
        · rw [hx]; exact ⟨_, rfl, h⟩
        · exact e2 v hv
  obtain ⟨e1, e2⟩ := hb ik
  have hm : ∀ v ∈ ys, WtAt H v (keyOf H v) := fun v hv => e2 v (pm.mem_iff.mp hv)
  have pk2 : (ys.map (keyOf H)).Perm (as.map (·.1)) := by rw [← e1]; exact pm.map _
  refine ⟨ys.map (keyOf H), pk2, ?_, (List.length_map _).symm, fun i v k h1 h2 => ?_⟩
  · have ndk : (ys.map (keyOf H)).Nodup := pk2.nodup_iff.mpr nd
    rw [List.pairwise_map]
    have ndy : ys.Pairwise fun x y => keyOf H x ≠ keyOf H y := by
      have := ndk
      unfold List.Nodup at this
      rwa [List.pairwise_map] at this
    refine (List.Pairwise.and_mem.mp (List.Pairwise.and srt ndy)).imp ?_
    rintro x y ⟨mx, my, s, ne⟩
    obtain ⟨tx, rfl, hx⟩ := hm x mx
    obtain ⟨ty, rfl, hy⟩ := hm y my
    have bx := b _ (pk2.mem_iff.mp (List.mem_map.mpr ⟨_, mx, rfl⟩))
    have by' := b _ (pk2.mem_iff.mp (List.mem_map.mpr ⟨_, my, rfl⟩))
    generalize keyOf H (.ref tx) = k at hx ne bx ⊢
    generalize keyOf H (.ref ty) = j at hy ne by' ⊢
    have c := s [k.1, k.2] [j.1, j.2] ⟨tx, rfl, SqT.of hx⟩ ⟨ty, rfl, SqT.of hy⟩
    rw [code2, code2] at c
    unfold kLt
    by_cases h1 : k.1 < j.1
    · exact .inl h1
    · refine .inr ?_
      have hge : j.1 ≤ k.1 := by omega
      have e : k.1 = j.1 := by
        by_cases h2 : j.1 < k.1
        · exfalso
          have : (j.1 + 1) * B ≤ k.1 * B := Int.mul_le_mul_of_nonneg_right (by omega) (by omega)
          rw [Int.add_mul, Int.one_mul] at this
          omega
        · omega
      refine ⟨e, ?_⟩
      rw [e] at c
      have : k.2 ≠ j.2 := fun z => ne (Prod.ext e z)
      omega
  · rw [List.getElem?_map, h1] at h2
    cases h2
    exact hm v (List.mem_of_getElem? h1)
theorem kLt_sub {ks js : List (Int × Int)} (h : ks.Pairwise kLt) (s : js.Sublist ks) : js.Pairwise kLt := h.sublist s
end Wn

set_option maxHeartbeats 800000
namespace Wn
open PySem L2
set_option pp.maxSteps 700
set_option pp.deepTerms false
local macro_rules | `(tactic| walk_at "h") => `(tactic| first | with_reducible assumption | (with_reducible exact upd_same) | (with_reducible apply g_upd; (walk_at "neq"); (walk_at "h")) | (with_reducible apply g_same; (with_reducible assumption); (walk_at "h")) | (with_reducible apply g_kp; (with_reducible assumption); (walk_at "nin"); (walk_at "h")) | (with_reducible apply g_tk; (with_reducible assumption); (walk_at "h")))
local macro_rules | `(tactic| walk_at "neq") => `(tactic| first | with_reducible assumption | (with_reducible apply Ne.symm; with_reducible assumption) | (with_reducible apply ne_upd; (with_reducible assumption)) | (with_reducible apply Ne.symm; with_reducible apply ne_upd; with_reducible assumption) | (with_reducible apply ne_fr; (with_reducible assumption); (walk_at "h")) | (with_reducible apply ne_fr'; (with_reducible assumption); (walk_at "h")) | (with_reducible apply ne_kd; (walk_at "h"); (walk_at "h"); (with_unfolding_all (intro z; cases z))))
local macro_rules | `(tactic| walk_at "nin") => `(tactic| first | (with_reducible exact nin0) | with_reducible assumption | (with_reducible apply ninc; (walk_at "neq"); (walk_at "nin")))
local macro_rules | `(tactic| walk_at "none") => `(tactic| first | with_reducible assumption | (with_reducible apply n_upd; (with_reducible assumption)) | (with_reducible apply n_same; (with_reducible assumption); (walk_at "none")) | (with_reducible apply n_kp; (with_reducible assumption); (walk_at "nin"); (walk_at "none")))
local macro_rules | `(tactic| walk_at "mem") => `(tactic| first | (with_reducible exact List.mem_cons_self) | (with_reducible apply List.mem_cons_of_mem; (walk_at "mem")))
local macro_rules | `(tactic| walk_at "am") => `(tactic| first | (with_reducible exact am0) | (with_reducible apply am1; (first | (apply Or.inl; walk_at "mem") | (apply Or.inr; walk_at "none")); (walk_at "am")))
local macro_rules | `(tactic| walk_at "tk") => `(tactic| first | (with_reducible exact TK.refl _) | with_reducible assumption | (with_reducible apply t_tk; (with_reducible assumption); (walk_at "tk")) | (with_reducible apply t_same; (with_reducible assumption); (walk_at "tk")) | (with_reducible apply t_new; (with_reducible assumption); (walk_at "tk")) | (with_reducible apply t_wr; (walk_at "h"); (with_unfolding_all rfl); (walk_at "tk")))
local macro_rules | `(tactic| walk_at "same") => `(tactic| first | (with_reducible exact L2.Same.refl _) | with_reducible assumption | (with_reducible apply s_same; (with_reducible assumption); (walk_at "same")) | (with_reducible apply s_new; (with_reducible assumption); (walk_at "same")) | (with_reducible apply s_wrn; (walk_at "none"); (walk_at "same")))
local macro_rules | `(tactic| walk_at "kp") => `(tactic| first | (with_reducible exact Kp.refl _ _) | with_reducible assumption | (with_reducible apply k_same; (with_reducible assumption); (walk_at "kp")) | (with_reducible apply k_kp; (with_reducible assumption); (walk_at "kp")) | (with_reducible apply k_kpm; (with_reducible assumption); (walk_at "am"); (walk_at "kp")) | (with_reducible apply k_new; (with_reducible assumption); (walk_at "kp")) | (with_reducible apply k_wr; (walk_at "mem"); (walk_at "kp")) | (with_reducible apply k_wrn; (walk_at "none"); (walk_at "kp")))
local macro_rules | `(tactic| walk_at "rp") => `(tactic| first | with_reducible assumption | (with_reducible exact Rp.int) | (with_reducible exact Rp.str) | (with_reducible exact Rp.none) | (with_reducible exact Rp.bool) | (with_reducible apply Rp.tk'; (with_reducible assumption); (walk_at "tk")) | (with_reducible apply Rp.tup; (walk_at "h"); (walk_at "rpl")))
local macro_rules | `(tactic| walk_at "rpl") => `(tactic| first | with_reducible assumption | (with_reducible exact RpL.nil) | (with_reducible apply RpL.tk'; (with_reducible assumption); (walk_at "tk")) | (with_reducible apply RpL.cons; (walk_at "rp"); (walk_at "rpl")))
local macro_rules | `(tactic| walk_at "g") => `(tactic| repeat (first | refine ⟨_, rfl, ?_⟩ | refine ⟨_, _, rfl, rfl, ?_⟩ | refine ⟨rfl, _, rfl, ?_⟩ | refine ⟨_, _, rfl, rfl, (by first | decide | omega), ?_⟩))
abbrev sSentR : Stmt := top 32
abbrev sHeardR : Stmt := top 33
abbrev sRowR : Stmt := top 34
abbrev sEndR : Stmt := top 35
def spSentR : Sp := fun vs H Q _ => ∃ (q : Addr) (a : St5) (S : Sd) (n : Nat) (H0 : Hp) (s m : Int) (aim : Option Int) (t : Str), vs = [.ref q, .ref a.l] ∧ H q = some (.tup (rwV (.send s m aim t))) ∧ SdAt H0 H a S ∧ S.Sz n ∧ n ≤ 100000 ∧
  ∀ H', Kp a.ws H H' → SdAt H0 H' a (S.row .lo (.send s m aim t)).2 → Q (.bl (S.row .lo (.send s m aim t)).1) H'
def spHeardR : Sp := fun vs H Q _ => ∃ (κ : JK) (q : Addr) (a : St5) (S : Sd) (n : Nat) (H0 : Hp) (h s m : Int) (t : Str), vs = [.str (jkS κ), .ref q, .ref a.l] ∧ H q = some (.tup (rwV (.hear h s m t))) ∧ SdAt H0 H a S ∧ S.Sz n ∧ n ≤ 100000 ∧
  ∀ H', Kp a.ws H H' → SdAt H0 H' a (S.row κ (.hear h s m t)).2 → Q (.bl (S.row κ (.hear h s m t)).1) H'
def spRowR : Sp := fun vs H Q _ => ∃ (κ : JK) (q : Addr) (a : St5) (S : Sd) (n : Nat) (H0 : Hp) (r : Rw), vs = [.str (jkS κ), .ref q, .ref a.l] ∧ H q = some (.tup (rwV r)) ∧ SdAt H0 H a S ∧ S.Sz n ∧ n ≤ 100000 ∧
  ∀ H', Kp a.ws H H' → SdAt H0 H' a (S.row κ r).2 → Q (.bl (S.row κ r).1) H'
def spEndR (K : PySem.W.Frag) : Sp := fun vs H Q _ => ∃ (a : St5) (S : Sd) (n : Nat) (H0 : Hp) (t : Addr) (xs : List V) (ws : List (Int × Int)), vs = [.ref a.l, .ref t] ∧ SdAt H0 H a S ∧ S.Sz n ∧ n ≤ 100000 ∧ SqT K H t xs ∧ xs.length = ws.length ∧ ws.length ≤ 100000 ∧ (∀ (i : Nat) (v : V) (k : Int × Int), xs[i]? = some v → ws[i]? = some k → WtAt H v k) ∧
  ∀ H', Same H H' → SdAt H0 H' a S → Q (.bl (S.endOk ws)) H'

theorem dgetT_frz {H : Hp} {d b : Addr} {od : Obj} {kvs : List (List Key × V)} {k : List Key} (h : H d = some (.frz od (.dT kvs))) (eb : H b = some (.tup (k.map kV))) : DGet H d (.ref b) (valV kvs k) := .inr ⟨kvs, k, b, .inr ⟨od, h⟩, rfl, eb, rfl⟩
theorem slT_new {K : PySem.W.Frag} {H : Hp} {q : Addr} {xs ys : List V} {i j : Nat} {Q : VK} (h : H q = some (.tup xs)) (hi : 0 < i) (hx : 0 < xs.length) (hy : (xs.drop i).take (j - i) = ys) (k : ∀ p, H p = none → Q (.ref p) (upd H p (.tup ys))) : rSlA K (.ref q) (some (i : Int)) (some (j : Int)) H Q := by
  refine ⟨q, xs, rfl, SqT.of h, fun z => ?_, fun _ p np => ?_⟩
  · have z := z.1
    rw [HT.sIx_nat] at z
    omega
  · rw [cutV_L, cutL_mid, hy]
    exact k p np
theorem inV_ints {n : Int} : ∀ {xs : List Int}, inV (.int n) (xs.map V.int) = decide (n ∈ xs)
  | [] => rfl
  | x :: xs => by
    have e := inV_ints (n := n) (xs := xs)
    unfold inV at e ⊢
    rw [List.map_cons, List.any_cons, e, Bool.eq_iff_iff, Bool.or_eq_true, decide_eq_true_eq, decide_eq_true_eq, List.mem_cons]
    refine ⟨fun h => h.imp (fun h => ?_) id, fun h => h.imp (fun h => ?_) id⟩
    · exact (eq_of_beq (show (x == n) = true from h)).symm
    · exact show (x == n) = true from beq_iff_eq.mpr h.symm
theorem flat_intsJ {xs : List Int} : (xs.map V.int).all flatV = true := by
  rw [List.all_map]
  exact List.all_eq_true.mpr fun _ _ => rfl
theorem lst_eqv {α : Type} {g : α → PyData} (l : List α) : PyData.eqv (.list (l.map g)) (.list []) = decide (l = []) := by
  cases l <;> rfl
theorem hearN1 {κ : JK} {S : Sd} {h s m : Int} {t : Str} (e : lookA S.there h = none) : S.row κ (.hear h s m t) = (false, S) := by
  unfold Sd.row
  dsimp only
  split
  · rfl
  · rw [if_pos (.inl e)]
theorem hearN2 {κ : JK} {S : Sd} {h s m : Int} {t : Str} (e : lookP S.posts (s, m) = none) : S.row κ (.hear h s m t) = (false, S) := by
  unfold Sd.row
  dsimp only
  rw [e]
theorem hearN3 {κ : JK} {S : Sd} {h s m : Int} {t : Str} {p : Option Int × Str × List Int} (e : lookP S.posts (s, m) = some p) (c : p.2.1 ≠ t ∨ forS S.there p.1 h s = false ∨ lateS κ (S.before h s) m = true) : S.row κ (.hear h s m t) = (false, S) := by
  unfold Sd.row
  dsimp only
  rw [e]
  dsimp only
  rw [if_pos (.inr c)]
theorem hearY {κ : JK} {S : Sd} {h s m : Int} {t : Str} {p : Option Int × Str × List Int} (e : lookP S.posts (s, m) = some p) (c1 : lookA S.there h ≠ none) (c2 : p.2.1 = t) (c3 : forS S.there p.1 h s = true) (c4 : lateS κ (S.before h s) m = false) :
    S.row κ (.hear h s m t) = (true, { S with heard := putP S.heard (h, s) (S.before h s ++ [m]) }) := by
  unfold Sd.row
  dsimp only
  rw [e]
  dsimp only
  rw [if_neg (by rw [c3, c4]; simp [c1, c2])]
theorem nin_ws {a : St5} {H0 : Hp} {S : Sd} {H : Hp} (h : SdAt H0 H a S) {q : Addr} {xs : List V} (e : H q = some (.tup xs)) : q ∉ a.ws := fun z => by
  unfold St5.ws at z
  obtain ⟨as, p1, _⟩ := h.p
  obtain ⟨es, e1, _⟩ := h.e
  simp only [List.mem_cons, List.not_mem_nil, or_false] at z
  rcases z with z | z | z | z | z
  · rw [z, h.t] at e; cases e
  · rw [z, p1] at e; cases e
  · rw [z, e1] at e; cases e
  · rw [z, h.l] at e; cases e
  · rw [z, h.n] at e; cases e
theorem wsT (a : St5) : a.T ∈ a.ws := by unfold St5.ws; simp
theorem wsP (a : St5) : a.P ∈ a.ws := by unfold St5.ws; simp
theorem wsE (a : St5) : a.E ∈ a.ws := by unfold St5.ws; simp
theorem wsL (a : St5) : a.L ∈ a.ws := by unfold St5.ws; simp
theorem wsN (a : St5) : a.N ∈ a.ws := by unfold St5.ws; simp
theorem lt_line {n : Nat} (h : n ≤ 100000) : n < sizeLine := Nat.lt_of_le_of_lt h (by decide)
theorem le_line {n : Nat} (h : n ≤ 1000000) : n ≤ sizeLine := Nat.le_trans h (by decide)
theorem dueS_none {there : List (Int × Str)} {s : Int} : dueS there s none = (there.filter fun e => decide (e.2 = ("hand" : Str)) && decide (e.1 ≠ s)).map (·.1) := rfl
section
variable {P : Program} {w : World} {K : PySem.W.Frag} {mg : Str → Option Value} {base : Heap}
theorem scSentR : FnScope ["_law_row", "_law_stands", "_law_there", "_law_posts", "_law_newest", "_law_due", "_law_hand"] ["_law_row", "_law_stands"] (defScope sSentR) := ⟨rfl, rfl, rfl, by decide +kernel, rfl, by decide +kernel, by decide +kernel⟩
theorem ok_sentR {f : Addr} {fd : FuncData} (F : Fun K "_law_sent_right" "_law_sent_right" sSentR f fd) : FnOk P w K mg base CX0 1 f fd ["_law_row", "_law_stands"] spSentR := by
  refine F.ok scSentR (fun vs H Q E h => ?_) (fun cdv A outer s H vs Q E hr h => ?_)
  · obtain ⟨q, a, S, n, H0, s, m, aim, t, rfl, _⟩ := h
    rfl
  · obtain ⟨q, a, S, n, H0, s, m, aim, t, rfl, hq, hS, hz, hn, k⟩ := h
    have hu := hu_of hr
    refine ⟨_, (pss_cons (ps_asg (pe_tup (pa_cons (pe_ix (ixL (K := K) rfl) (pv 1) pe_int (fun _ _ => rfl)) (pa_cons (pe_ix (ixL (K := K) rfl) (pv 1) pe_int (fun _ _ => rfl)) (pa_cons (pe_ix (ixL (K := K) rfl) (pv 1) pe_int (fun _ _ => rfl)) pa_nil)))) (pg_tup rfl (pgs_cons (pg_name (i := 2) scSentR.nd rfl (Or.inr rfl)) (pgs_cons (pg_name (i := 3) scSentR.nd rfl (Or.inl rfl)) (pgs_cons (pg_name (i := 4) scSentR.nd rfl (Or.inl rfl)) pgs_nil)))))
       (pss_cons (ps_if (PW.pt (pw_or (pt_cmp (pc_dnotin hu (pe_ix (ixT (K := K) rfl) (pv 0) pe_int (fun _ _ => rfl)) (pv 2))) (pw_or1 (pt_cmpR op_ge (pe_dget2 hu (pv 4) (pe_ix (ixT (K := K) rfl) (pv 0) pe_int (fun _ _ => rfl)) (pe_un un_neg pe_int) ⟨rfl, rfl, rfl, rfl⟩) (pe_ix (ixT (K := K) rfl) (pv 0) pe_int (fun _ _ => rfl)) (nomark _)))))
       (pss_one (ps_ret pe_bl))
       pss_nil)
       (pss_cons (ps_dput hu (pv 4) (pe_ix (ixT (K := K) rfl) (pv 0) pe_int (fun _ _ => rfl)) (pe_ix (ixT (K := K) rfl) (pv 0) pe_int (fun _ _ => rfl)) rfl)
       (pss_cons (ps_lock (ps_setLc (i := 5) (own := [("_law_hand", 6)]) (g := (gName 6)) (tt := _) rfl scSentR.nd rfl rfl (sw_true rfl rfl rfl (by decide +kernel)) (pi_keys (pv 2)) (blkOk_by (N := ["_law_row", "_law_stands", "_law_there", "_law_posts", "_law_newest", "_law_due", "_law_hand"]) (sc := defScope sSentR) (by decide +kernel))
       (fun _ _ _ _ _ => (pg_name (i := 6) scSentR.nd rfl (Or.inl rfl))) (fun _ _ _ _ _ => (pts_one (pt_cmpR op_eq (pv 6) (pe_ix (ixT (K := K) rfl) (pv 0) pe_int (fun _ _ => rfl)) (nomark _)))) (fun _ _ _ _ _ => (pv 6))))
       (pss_cons (ps_if (pt_cmp (pc_isN (pe_ix (ixT (K := K) rfl) (pv 0) pe_int (fun _ _ => rfl))))
       (pss_one (ps_lock (ps_setLc (i := 5) (own := [("_law_hand", 6)]) (g := (gName 6)) (tt := _) rfl scSentR.nd rfl rfl (sw_true rfl rfl rfl (by decide +kernel)) (pi_keys (pv 2)) (blkOk_by (N := ["_law_row", "_law_stands", "_law_there", "_law_posts", "_law_newest", "_law_due", "_law_hand"]) (sc := defScope sSentR) (by decide +kernel))
       (fun _ _ _ _ _ => (pg_name (i := 6) scSentR.nd rfl (Or.inl rfl))) (fun _ _ _ _ _ => (pts_one (PW.pt (pw_and (pt_cmpR op_eq (pe_dget hu (pv 2) (pv 6) (fun _ _ => rfl)) pe_str (nomark _)) (pw_and1 (pt_cmpR op_ne (pv 6) (pe_ix (ixT (K := K) rfl) (pv 0) pe_int (fun _ _ => rfl)) (nomark _))))))) (fun _ _ _ _ _ => (pv 6)))))
       pss_nil)
       (pss_cons (ps_dput hu (pv 3) (pe_slice (slA (K := K) rfl) (pv 0) (po_some pe_int) (po_some pe_int)) (pe_tup (pa_cons (pe_ix (ixT (K := K) rfl) (pv 0) pe_int (fun _ _ => rfl)) (pa_cons (pe_ix (ixT (K := K) rfl) (pv 0) pe_int (fun _ _ => rfl)) (pa_cons (pv 5) pa_nil)))) rfl)
       (pss_one (ps_ret pe_bl)))))))), ?_⟩
    refine ⟨_, rfl, a.l, _, 0, _, rfl, rfl, SqL.of hS.o, atI_nat (j := 0) rfl, _, rfl, a.l, _, 1, _, rfl, rfl, SqL.of hS.o, atI_nat (j := 1) rfl, _, rfl, a.l, _, 4, _, rfl, rfl, SqL.of hS.o, atI_nat (j := 4) rfl, (by show 3 ≤ sizeLine; decide), fun tp n_tp => ?_⟩
    obtain ⟨H1, e_H1, s1, r1⟩ := new_any n_tp
    rw [← e_H1]
    clear e_H1
    refine ⟨tp, _, rfl, SqT.of r1, rfl, _, _, rfl, _, _, rfl, _, _, rfl, rfl, ?_⟩
    have h1 := hS.same s1
    have q1 := s1 _ _ hq
    have gt := DGet.k (k := Sum.inl s) h1.t
    rw [valV_gK] at gt
    have gn := DGet.k (k := Sum.inl s) h1.n
    rw [valV_gK] at gn
    refine ⟨_, rfl, q, _, 1, _, rfl, rfl, SqT.of q1, atI_nat (j := 1) rfl, _, rfl, a.T, _, rfl, gt, _, rfl, ?_⟩
    unfold Sd.row at k
    dsimp only at k
    cases e1 : lookA S.there s with
    | none =>
      rw [if_pos (.inl e1)] at k
      exact iteT (k H1 (Kp.of s1) h1)
    | some u =>
    refine iteF ⟨_, rfl, a.N, rfl, .inl ⟨_, .inl h1.n⟩, _, rfl, q, _, 1, _, rfl, rfl, SqT.of q1, atI_nat (j := 1) rfl, _, rfl, _, gn, ?_⟩
    rw [show (Option.map V.int (lookA S.newest s)).getD (V.int (-1)) = V.int ((lookA S.newest s).getD (-1)) by cases lookA S.newest s <;> rfl]
    refine ⟨_, rfl, q, _, 2, _, rfl, rfl, SqT.of q1, atI_nat (j := 2) rfl, _, _, rfl, rfl, _, rfl, iteP (fun c => ?_) (fun c => ?_)⟩
    · rw [if_pos (.inr c)] at k
      exact k H1 (Kp.of s1) h1
    rw [if_neg (fun z => z.elim (fun z => by rw [e1] at z; cases z) c)] at k
    have szn : (gK V.int S.newest).length < sizeLine := by rw [gK_len]; exact lt_line (Nat.le_trans hz.w hn)
    refine ⟨_, rfl, q, _, 2, _, rfl, rfl, SqT.of q1, atI_nat (j := 2) rfl, _, rfl, _, rfl, q, _, 1, _, rfl, rfl, SqT.of q1, atI_nat (j := 1) rfl, a.N, _, rfl, DPut.k (k := Sum.inl s) h1.n szn, ?_⟩
    rw [putK_gK]
    have h2 := h1.setN (putA S.newest s m)
    have k2 : Kp a.ws H (upd H1 a.N (.dK (gK V.int (putA S.newest s m)))) := (Kp.of s1).wr (wsN a)
    have q2 : upd H1 a.N (.dK (gK V.int (putA S.newest s m))) q = some (.tup (rwV (.send s m aim t))) := ((TK.refl H1).wr h1.n rfl).1 _ _ q1
    generalize upd H1 a.N (.dK (gK V.int (putA S.newest s m))) = H2 at h2 k2 q2
    have lt : S.there.length ≤ 1000000 := Nat.le_trans hz.t (by omega)
    -- the due ones: who is aimed at
    refine ⟨a.T, _, h2.t, trivial, fun od => ?_⟩
    have hq' := lock_at (od := od) (u := .dK (gK V.str S.there)) q2 (ne_of q2 h2.t (by intro z; cases z))
    generalize eG : upd H2 a.T (.frz od (.dK (gK V.str S.there))) = G at hq'
    have hp : G a.T = some (.frz od (.dK (gK V.str S.there))) := by rw [← eG]; exact upd_same
    refine ⟨_, rfl, a.T, od, rfl, .inl ⟨_, hp, fun D nD => ?_⟩⟩
    obtain ⟨nD0, ndp⟩ := lock_none h2.t (by rw [eG]; exact nD)
    refine comp_ls (L := S.there) ((walk_keys (d := a.T) (o := od) (kvs := gK V.str S.there)).cast (gK_len _ _)) (fun H' s' => s' _ _ hp) (fun e => decide (V.int e.1 = aimV aim)) (fun e => .int e.1) nD lt ?_ ?_
    · rintro j b v H' H'' Q' N' hj s' ⟨rfl, k2, v2, hkv, rfl⟩ hQ hN
      unfold gK at hkv
      rw [List.getElem?_map, hj] at hkv
      cases hkv
      refine ⟨rfl, _, rfl, _, rfl, q, _, 3, _, rfl, rfl, SqT.of (s' _ _ hq'), atI_nat (j := 3) rfl, by cases aim <;> rfl, _, rfl, iteP (fun e1 => ⟨_, rfl, hQ (decide_eq_true e1) _ (L2.Same.refl _)⟩) (fun e1 => hN (decide_eq_false e1) _ (L2.Same.refl _))⟩
    intro H' s' hD
    have e3 : H' a.T = some (.frz od (.dK (gK V.str S.there))) := s' _ _ hp
    refine ⟨e3, ?_⟩
    have s3 : Same H2 (upd H' a.T (.dK (gK V.str S.there))) := lock_same h2.t (by rw [eG]; exact s')
    have hD3 : upd H' a.T (.dK (gK V.str S.there)) D = some (.lst (((S.there.filter fun e => decide (V.int e.1 = aimV aim)).map fun e => V.int e.1))) := by rw [upd_ne ndp]; exact hD
    generalize upd H' a.T (.dK (gK V.str S.there)) = H3 at s3 hD3
    clear hp hq' eG nD hD e3 s' G
    dsimp only [gName, List.set]
    refine seq_if (fun σ' H' => ∃ (D' : Addr) (v6 : Option V), σ' = [some (.ref q), some (.ref a.l), some (.ref a.T), some (.ref a.P), some (.ref a.N), some (.ref D'), v6] ∧ Same H2 H' ∧ H' D' = some (.lst ((dueS S.there s aim).map V.int)) ∧ H2 D' = none) ?rest (fun rest => ?_)
    case rest =>
      rintro σ' H4 ⟨D', v6, rfl, s4, hD4, nD4⟩
      have h4 := h2.same s4
      have q4 := s4 _ _ q2
      obtain ⟨as, p1, p2⟩ := h4.p
      have sz : (gA as).length < sizeLine := by rw [gA_len, p2.len]; exact lt_line (Nat.le_trans hz.p hn)
      refine ⟨_, rfl, q, _, 3, _, rfl, rfl, SqT.of q4, atI_nat (j := 3) rfl, _, rfl, q, _, 4, _, rfl, rfl, SqT.of q4, atI_nat (j := 4) rfl, _, rfl, (by show 3 ≤ sizeLine; decide), fun tp n_tp => ?_⟩
      obtain ⟨H5, e_H5, s5, r5⟩ := new_any n_tp
      rw [← e_H5]
      clear e_H5
      refine ⟨_, rfl, _, rfl, 1, rfl, 3, rfl, slT_new (i := 1) (j := 3) (ys := [.int s, .int m]) (s5 _ _ q4) (by decide) (Nat.succ_pos _) rfl fun kp n_kp => ?_⟩
      obtain ⟨H6, e_H6, s6, r6⟩ := new_any n_kp
      rw [← e_H6]
      clear e_H6
      have h6 := (h4.same s5).same s6
      have p6 := s6 _ _ (s5 _ _ p1)
      refine ⟨a.P, _, rfl, DPut.t (k := pk (s, m)) p6 r6 sz, ?_⟩
      rw [putK_gA]
      have hPo : PoA H0 H6 tp (aim, t, dueS S.there s aim) := ⟨h4.un _ n_tp, D', h2.un _ nD4, s6 _ _ r5, s6 _ _ (s5 _ _ hD4)⟩
      have h7 := h6.setP (as := putP as (s, m) tp) ((p2.mono fun b x z => z.kp (M := []) (Kp.of (s5.trans s6)) fun _ _ _ _ z => by cases z).put hPo)
      exact k _ (((Kp.trans k2 (Kp.of (s4.trans (s5.trans s6)))).wr (wsP a))) h7
    cases aim with
    | some j =>
      refine ⟨_, rfl, q, _, 3, _, rfl, rfl, SqT.of (s3 _ _ q2), atI_nat (j := 3) rfl, false, rfl, iteF (rest _ _ ⟨D, _, rfl, s3, ?_, nD0⟩)⟩
      rw [hD3]
      unfold dueS
      rw [List.map_map]
      refine congrArg (fun l => some (HO.lst l)) (congrArg _ (List.filter_congr fun e _ => ?_))
      show decide (V.int e.1 = V.int j) = decide (e.1 = j)
      exact dV_int
    | none =>
      refine ⟨_, rfl, q, _, 3, _, rfl, rfl, SqT.of (s3 _ _ q2), atI_nat (j := 3) rfl, true, rfl, iteT ?_⟩
      have h3 := h2.same s3
      have q3 := s3 _ _ q2
      refine ⟨a.T, _, h3.t, trivial, fun od => ?_⟩
      have hq' := lock_at (od := od) (u := .dK (gK V.str S.there)) q3 (ne_of q3 h3.t (by intro z; cases z))
      generalize eG : upd H3 a.T (.frz od (.dK (gK V.str S.there))) = G at hq'
      have hp : G a.T = some (.frz od (.dK (gK V.str S.there))) := by rw [← eG]; exact upd_same
      refine ⟨_, rfl, a.T, od, rfl, .inl ⟨_, hp, fun D2 nD2 => ?_⟩⟩
      obtain ⟨nD20, ndp2⟩ := lock_none h3.t (by rw [eG]; exact nD2)
      refine comp_ls (L := S.there) ((walk_keys (d := a.T) (o := od) (kvs := gK V.str S.there)).cast (gK_len _ _)) (fun H' s' => s' _ _ hp) (fun e => decide (e.2 = ("hand" : Str)) && decide (e.1 ≠ s)) (fun e => .int e.1) nD2 lt ?_ ?_
      · rintro j b v H' H'' Q' N' hj s' ⟨rfl, k2, v2, hkv, rfl⟩ hQ hN
        unfold gK at hkv
        rw [List.getElem?_map, hj] at hkv
        cases hkv
        have bm : b ∈ S.there := List.mem_of_getElem? hj
        have g := dget_frz (k := Sum.inl b.1) (s' _ _ hp)
        rw [valV_gK, lookA_of_mem (v := b.2) hz.nt bm] at g
        refine ⟨rfl, _, rfl, _, rfl, a.T, _, rfl, g, rfl, _, rfl, iteS (fun e1 => ?_) (fun e1 => iteF (hN (by simp [e1]) _ (L2.Same.refl _)))⟩
        refine ⟨_, rfl, _, rfl, q, _, 1, _, rfl, rfl, SqT.of (s' _ _ hq'), atI_nat (j := 1) rfl, rfl, _, rfl, iteNI (fun e2 => ⟨_, rfl, hQ (by simp [e1, e2]) _ (L2.Same.refl _)⟩) (fun e2 => hN (by simp [e2]) _ (L2.Same.refl _))⟩
      · intro H' s' hD
        have e1 : H' a.T = some (.frz od (.dK (gK V.str S.there))) := s' _ _ hp
        refine ⟨e1, rest _ _ ⟨D2, _, rfl, s3.trans (lock_same h3.t (by rw [eG]; exact s')), ?_, n_same s3 nD20⟩⟩
        rw [upd_ne ndp2, hD, dueS_none, List.map_map]
        rfl
theorem scHeardR : FnScope ["_law_kind", "_law_row", "_law_stands", "_law_there", "_law_posts", "_law_heard", "_law_hand", "_law_key", "_law_hearer", "_law_before", "_law_n"] ["_law_kind", "_law_row", "_law_stands"] (defScope sHeardR) := ⟨rfl, rfl, rfl, by decide +kernel, rfl, by decide +kernel, by decide +kernel⟩
theorem ok_heardR {f : Addr} {fd : FuncData} (F : Fun K "_law_heard_right" "_law_heard_right" sHeardR f fd) : FnOk P w K mg base CX0 1 f fd ["_law_kind", "_law_row", "_law_stands"] spHeardR := by
  refine F.ok scHeardR (fun vs H Q E h => ?_) (fun cdv A outer s H vs Q E hr h => ?_)
  · obtain ⟨κ, q, a, S, n, H0, h, s, m, t, rfl, _⟩ := h
    rfl
  · obtain ⟨κ, q, a, S, n, H0, h, s, m, t, rfl, hq, hS, hz, hn, k⟩ := h
    have hu := hu_of hr
    refine ⟨_, (pss_cons (ps_par3 (i := 3) (j := 4) (l := 5) (by rfl) scHeardR.nd rfl rfl rfl (by decide) (by decide) (by decide) rfl rfl rfl (pa_cons (pe_ix (ixL (K := K) rfl) (pv 2) pe_int (fun _ _ => rfl)) (pa_cons (pe_ix (ixL (K := K) rfl) (pv 2) pe_int (fun _ _ => rfl)) (pa_cons (pe_ix (ixL (K := K) rfl) (pv 2) pe_int (fun _ _ => rfl)) pa_nil))) (by rfl))
       (pss_cons (ps_par (i := 6) (j := 7) (by rfl) scHeardR.nd rfl rfl (by decide) rfl rfl (pa_cons (pe_ix (ixT (K := K) rfl) (pv 1) pe_int (fun _ _ => rfl)) (pa_cons (pe_slice (slA (K := K) rfl) (pv 1) (po_some pe_int) (po_some pe_int)) pa_nil)) (by rfl))
       (pss_cons (ps_if (PW.pt (pw_or (pt_cmp (pc_dnotin hu (pv 6) (pv 3))) (pw_or (pt_cmp (pc_dnotin hu (pv 7) (pv 4))) (pw_or1 (pt_cmpR op_ne (pe_ix (ixT (K := K) rfl) (pe_dget hu (pv 4) (pv 7) (fun _ _ => rfl)) pe_int (fun _ _ => rfl)) (pe_ix (ixT (K := K) rfl) (pv 1) pe_int (fun _ _ => rfl)) (nomark _))))))
       (pss_one (ps_ret pe_bl))
       pss_nil)
       (pss_cons (ps_set (i := 8) scHeardR.nd rfl (Or.inl rfl) (pe_ix (ixT (K := K) rfl) (pe_dget hu (pv 4) (pv 7) (fun _ _ => rfl)) pe_int (fun _ _ => rfl)))
       (pss_cons (ps_if (PW.pt (pw_or (PW.pt (pw_and (pt_cmp (pc_notN (pv 8))) (pw_and1 (pt_cmpR op_ne (pv 8) (pv 6) (nomark _))))) (pw_or1 (PW.pt (pw_and (pt_cmp (pc_isN (pv 8))) (pw_and1 (PW.pt (pw_or (pt_cmpR op_eq (pv 6) (pe_ix (ixT (K := K) rfl) (pv 1) pe_int (fun _ _ => rfl)) (nomark _)) (pw_or1 (pt_cmpR op_ne (pe_dget hu (pv 3) (pv 6) (fun _ _ => rfl)) pe_str (nomark _)))))))))))
       (pss_one (ps_ret pe_bl))
       pss_nil)
       (pss_cons (ps_set (i := 9) scHeardR.nd rfl (Or.inl rfl) (pe_dget2 hu (pv 5) (pe_slice (slA (K := K) rfl) (pv 1) (po_some pe_int) (po_some pe_int)) (pe_lst pa_nil) ⟨rfl, rfl, rfl, rfl⟩))
       (pss_cons (ps_if (PW.pt (pw_or (PW.pt (pw_and (pt_cmpR op_eq (pv 0) pe_str (nomark _)) (pw_and1 (pt_cmpR (inSeqK (K := K) rfl) (pe_ix (ixT (K := K) rfl) (pv 1) pe_int (fun _ _ => rfl)) (pv 9) (by rfl))))) (pw_or1 (PW.pt (pw_and (pt_cmpR op_eq (pv 0) pe_str (nomark _)) (pw_and1 (pt_cmpR (neDK (K := K) rfl hr.units) (pe_lc (own := [("_law_n", 10)]) (g := (gName 10)) (tt := _) rfl scHeardR.nd (pi_list (pv 9)) (blkOk_by (N := ["_law_kind", "_law_row", "_law_stands", "_law_there", "_law_posts", "_law_heard", "_law_hand", "_law_key", "_law_hearer", "_law_before", "_law_n"]) (sc := defScope sHeardR) (by decide +kernel))
       (fun _ _ _ _ _ => (pg_name (i := 10) scHeardR.nd rfl (Or.inl rfl))) (fun _ _ _ _ _ => (pts_one (pt_cmpR op_ge (pv 10) (pe_ix (ixT (K := K) rfl) (pv 1) pe_int (fun _ _ => rfl)) (nomark _)))) (fun _ _ _ _ _ => (pv 10))) (pe_lst pa_nil) (nomark _))))))))
       (pss_one (ps_ret pe_bl))
       pss_nil)
       (pss_cons (ps_dput hu (pv 5) (pe_slice (slA (K := K) rfl) (pv 1) (po_some pe_int) (po_some pe_int)) (pe_op op_cat (pv 9) (pe_lst (pa_cons (pe_ix (ixT (K := K) rfl) (pv 1) pe_int (fun _ _ => rfl)) pa_nil))) rfl)
       (pss_one (ps_ret pe_bl)))))))))), ?_⟩
    refine ⟨_, rfl, a.l, _, 0, _, rfl, rfl, SqL.of hS.o, atI_nat (j := 0) rfl, _, rfl, a.l, _, 1, _, rfl, rfl, SqL.of hS.o, atI_nat (j := 1) rfl, _, rfl, a.l, _, 2, _, rfl, rfl, SqL.of hS.o, atI_nat (j := 2) rfl, _, _, _, rfl, ?_⟩
    refine ⟨_, rfl, q, _, 1, _, rfl, rfl, SqT.of hq, atI_nat (j := 1) rfl, _, rfl, 2, rfl, 4, rfl, slT_new (i := 2) (j := 4) (ys := [.int s, .int m]) hq (by decide) (Nat.succ_pos _) rfl fun kp n_kp => ?_⟩
    obtain ⟨H1, e_H1, s1, r1⟩ := new_any n_kp
    rw [← e_H1]
    clear e_H1
    refine ⟨_, _, rfl, ?_⟩
    have h1 := hS.same s1
    have q1 := s1 _ _ hq
    have gt := DGet.k (k := Sum.inl h) h1.t
    rw [valV_gK] at gt
    have no : S.row κ (.hear h s m t) = (false, S) → ∀ H', Same H H' → Q (.bl false) H' := fun e H' s' => by
      have z := k H' (Kp.of s')
      rw [e] at z
      exact z (hS.same s')
    refine ⟨_, rfl, _, rfl, a.T, _, rfl, gt, _, rfl, ?_⟩
    cases e1 : lookA S.there h with
    | none => exact iteT (no (hearN1 e1) _ s1)
    | some u =>
    obtain ⟨as, p1, p2⟩ := h1.p
    have gp := DGet.t (k := pk (s, m)) p1 r1
    rw [valV_gA] at gp
    refine iteF ⟨_, rfl, _, rfl, a.P, _, rfl, gp, _, rfl, ?_⟩
    cases e2 : lookP S.posts (s, m) with
    | none =>
      rw [p2.none.mpr e2]
      exact iteT (no (hearN2 e2) _ s1)
    | some p =>
    obtain ⟨b, eb, b0, du, du0, hb, hdu⟩ := p2.get e2
    rw [eb] at gp ⊢
    have gp : DGet H1 a.P (.ref kp) (some (.ref b)) := gp
    refine iteF ⟨_, rfl, _, rfl, a.P, _, rfl, gp, b, _, 1, _, rfl, rfl, SqT.of hb, atI_nat (j := 1) rfl, _, rfl, q, _, 4, _, rfl, rfl, SqT.of q1, atI_nat (j := 4) rfl, rfl, _, rfl, iteNS' (fun e3 => no (hearN3 e2 (.inl e3)) _ s1) (fun e3 => ?_)⟩
    refine ⟨_, rfl, _, rfl, a.P, _, rfl, gp, b, _, 0, _, rfl, rfl, SqT.of hb, atI_nat (j := 0) rfl, ?_⟩
    dsimp only [gName, List.set]
    refine seq_if (fun σ' H' => σ' = [some (.str (jkS κ)), some (.ref q), some (.ref a.l), some (.ref a.T), some (.ref a.P), some (.ref a.E), some (.int h), some (.ref kp), some (aimV p.1), none, none] ∧ H' = H1 ∧ forS S.there p.1 h s = true) ?rest (fun rest => ?_)
    case rest =>
      rintro σ' H' ⟨rfl, rfl, e4⟩
      obtain ⟨es, x1, x2⟩ := h1.e
      refine ⟨_, rfl, a.E, rfl, .inr ⟨_, .inl x1⟩, _, rfl, 1, rfl, 3, rfl, slT_new (i := 1) (j := 3) (ys := [.int h, .int s]) q1 (by decide) (Nat.succ_pos _) rfl fun k2 n_k2 => ?_⟩
      obtain ⟨H2, e_H2, s2, r2⟩ := new_any n_k2
      rw [← e_H2]
      clear e_H2
      refine ⟨Nat.zero_le _, fun l3 n_l3 => ?_⟩
      obtain ⟨H3, e_H3, s3, r3⟩ := new_any n_l3
      rw [← e_H3]
      clear e_H3
      have s23 := s2.trans s3
      have h3 := h1.same s23
      have q3 := s23 _ _ q1
      have x3 := s23 _ _ x1
      have ge := DGet.t (k := pk (h, s)) x3 (s3 _ _ r2)
      rw [valV_gA] at ge
      refine ⟨_, ge, ?_⟩
      obtain ⟨bl, ebl, hbl⟩ : ∃ bl, ((lookP es (h, s)).map V.ref).getD (.ref l3) = .ref bl ∧ H3 bl = some (.lst ((S.before h s).map V.int)) := by
        unfold Sd.before
        cases el : lookP es (h, s) with
        | none =>
          rw [x2.none.mp el]
          exact ⟨l3, rfl, r3⟩
        | some b2 =>
          obtain ⟨ys, e5, _, e6⟩ := x2.at_ _ _ el
          rw [e5]
          exact ⟨b2, rfl, s23 _ _ e6⟩
      rw [ebl]
      dsimp only [gName, List.set]
      refine seq_if (fun σ' H' => ∃ v10, σ' = [some (.str (jkS κ)), some (.ref q), some (.ref a.l), some (.ref a.T), some (.ref a.P), some (.ref a.E), some (.int h), some (.ref kp), some (aimV p.1), some (.ref bl), v10] ∧ Same H3 H' ∧ lateS κ (S.before h s) m = false) ?rest (fun rest => ?_)
      case rest =>
        rintro σ' H4 ⟨v10, rfl, s4, e5⟩
        have h4 := h3.same s4
        have q4 := s4 _ _ q3
        rw [hearY e2 (by rw [e1]; exact Option.some_ne_none _) e3 e4 e5] at k
        have lb : (S.before h s).length ≤ 100000 := Nat.le_trans (hz.b h s) hn
        refine ⟨_, rfl, _, rfl, q, _, 3, _, rfl, rfl, SqT.of q4, atI_nat (j := 3) rfl, (by show 1 ≤ sizeLine; decide), fun l5 n_l5 => ?_⟩
        obtain ⟨H5, e_H5, s5, r5⟩ := new_any n_l5
        rw [← e_H5]
        clear e_H5
        refine ⟨bl, l5, _, _, rfl, rfl, s5 _ _ (s4 _ _ hbl), r5, le_line (by rw [List.length_map, List.length_singleton]; omega), fun l6 n_l6 => ?_⟩
        obtain ⟨H6, e_H6, s6, r6⟩ := new_any n_l6
        rw [← e_H6]
        clear e_H6
        refine ⟨_, rfl, _, rfl, 1, rfl, 3, rfl, slT_new (i := 1) (j := 3) (ys := [.int h, .int s]) (s6 _ _ (s5 _ _ q4)) (by decide) (Nat.succ_pos _) rfl fun k7 n_k7 => ?_⟩
        obtain ⟨H7, e_H7, s7, r7⟩ := new_any n_k7
        rw [← e_H7]
        clear e_H7
        have s37 := s4.trans (s5.trans (s6.trans s7))
        have h7 := h3.same s37
        have x7 := s37 _ _ x3
        have sz : (gA es).length < sizeLine := by rw [gA_len, x2.len]; exact lt_line (Nat.le_trans hz.e hn)
        refine ⟨a.E, _, rfl, DPut.t (k := pk (h, s)) x7 r7 sz, ?_⟩
        rw [putK_gA]
        have hLi : LiA H0 H7 l6 (S.before h s ++ [m]) := ⟨(h4.same s5).un _ n_l6, by rw [s7 _ _ r6, List.map_append]; rfl⟩
        have h8 := h7.setE (as := putP es (h, s) l6) ((x2.mono fun b x z => z.kp (M := []) (Kp.of (s23.trans s37)) fun _ _ _ _ z => by cases z).put hLi)
        exact k _ ((Kp.of (s1.trans (s23.trans s37))).wr (wsE a)) h8
      have no3 : lateS κ (S.before h s) m = true → ∀ H', Same H3 H' → Q (.bl false) H' := fun e H' s' => no (hearN3 e2 (.inr (.inr e))) H' (s1.trans (s23.trans s'))
      cases κ with
      | lo =>
        exact ⟨_, rfl, rfl, _, rfl, iteS (fun e => absurd e (by decide)) fun _ => iteF ⟨_, rfl, rfl, _, rfl, iteS (fun e => absurd e (by decide)) fun _ => iteF (rest _ _ ⟨_, rfl, L2.Same.refl _, rfl⟩)⟩⟩
      | on =>
        refine ⟨_, rfl, rfl, _, rfl, iteS (fun _ => ?_) fun e => absurd rfl e⟩
        refine ⟨_, rfl, q, _, 3, _, rfl, rfl, SqT.of q3, atI_nat (j := 3) rfl, _, rfl, bl, _, rfl, .inl (SqL.of hbl), rfl, flat_intsJ, _, rfl, ?_⟩
        show if inV (.int m) ((S.before h s).map V.int) = true then _ else _
        rw [inV_ints]
        refine iteP (fun e => no3 (decide_eq_true e) _ (L2.Same.refl _)) fun e => ?_
        exact ⟨_, rfl, rfl, _, rfl, iteS (fun e => absurd e (by decide)) fun _ => iteF (rest _ _ ⟨_, rfl, L2.Same.refl _, decide_eq_false e⟩)⟩
      | tu =>
        refine ⟨_, rfl, rfl, _, rfl, iteS (fun e => absurd e (by decide)) fun _ => iteF ⟨_, rfl, rfl, _, rfl, iteS (fun _ => ?_) fun e => absurd rfl e⟩⟩
        refine ⟨_, rfl, bl, rfl, ⟨_, SqL.of hbl⟩, fun D nD => ?_⟩
        refine comp_ls (L := S.before h s) ((walk_list (K := K) (a := bl) (xs := (S.before h s).map V.int)).cast (List.length_map _)) (fun H' s' => SqL.of (s' _ _ hbl)) (fun y => decide (m ≤ y)) (fun y => .int y) nD (Nat.le_trans (hz.b h s) (by omega)) ?_ ?_
        · rintro j y v H' H'' Q' N' hj s' ⟨rfl, hv⟩ hQ hN
          rw [List.getElem?_map, hj] at hv
          cases hv
          exact ⟨rfl, _, rfl, _, rfl, q, _, 3, _, rfl, rfl, SqT.of (s' _ _ q3), atI_nat (j := 3) rfl, _, _, rfl, rfl, _, rfl, iteP (fun e => ⟨_, rfl, hQ (decide_eq_true e) _ (L2.Same.refl _)⟩) fun e => hN (decide_eq_false e) _ (L2.Same.refl _)⟩
        · intro H' s' hD
          refine ⟨Nat.zero_le _, fun l4 n_l4 => ?_⟩
          obtain ⟨H4, e_H4, s4, r4⟩ := new_any n_l4
          rw [← e_H4]
          clear e_H4
          refine ⟨_, _, .lst (SqL.of (s4 _ _ hD)) (dp_ints _), .lst (SqL.of r4) .nil, Shp.ok (n := 2) (Shp.lst (Shp.map fun _ => Shp.int)) (by decide), rfl, _, rfl, ?_⟩
          rw [lst_eqv]
          have ea : ((S.before h s).filter fun y => decide (m ≤ y)) = [] ↔ lateS .tu (S.before h s) m = false := by
            show _ ↔ ((S.before h s).any fun y => decide (m ≤ y)) = false
            rw [List.filter_eq_nil_iff, List.any_eq_false]
          refine iteNP (fun e => no3 ?_ _ (s'.trans s4)) fun e => rest _ _ ⟨_, rfl, s'.trans s4, ea.mp e⟩
          cases el : lateS .tu (S.before h s) m with
          | true => rfl
          | false => exact absurd (ea.mpr el) e
    cases ep : p.1 with
    | none =>
      rw [ep] at rest
      have no2 : forS S.there none h s = false → Q (.bl false) H1 := fun e => no (hearN3 e2 (.inr (.inl (by rw [ep]; exact e)))) _ s1
      refine ⟨_, rfl, false, rfl, iteF (iteF ⟨_, rfl, true, rfl, iteT ?_⟩)⟩
      refine ⟨_, rfl, _, rfl, q, _, 2, _, rfl, rfl, SqT.of q1, atI_nat (j := 2) rfl, rfl, _, rfl, iteI (fun e5 => iteT (no2 (by unfold forS; simp [e5]))) fun e5 => ?_⟩
      have gt' : DGet H1 a.T (.int h) (some (.str u)) := by
        rw [e1] at gt
        exact gt
      exact ⟨_, rfl, _, rfl, a.T, _, rfl, gt', rfl, _, rfl, iteNS' (fun e6 => no2 (by unfold forS; simp [e1, e6])) fun e6 => rest _ _ ⟨rfl, rfl, by unfold forS; simp [e1, e5, e6]⟩⟩
    | some j =>
      rw [ep] at rest
      have no2 : forS S.there (some j) h s = false → Q (.bl false) H1 := fun e => no (hearN3 e2 (.inr (.inl (by rw [ep]; exact e)))) _ s1
      refine ⟨_, rfl, true, rfl, iteT ⟨_, rfl, _, rfl, rfl, _, rfl, iteNI (fun e5 => ?_) fun e5 => ?_⟩⟩
      · exact iteT (no2 (by unfold forS; simp [e5]))
      · exact ⟨_, rfl, false, rfl, iteF (iteF (rest _ _ ⟨rfl, rfl, by unfold forS; simp [e5]⟩))⟩
theorem scRowR : FnScope ["_law_kind", "_law_row", "_law_stands", "_law_there", "_law_posts", "_law_fine"] ["_law_kind", "_law_row", "_law_stands"] (defScope sRowR) := ⟨rfl, rfl, rfl, by decide +kernel, rfl, by decide +kernel, by decide +kernel⟩
theorem ok_rowR {f : Addr} {fd : FuncData} (F : Fun K "_law_row_right" "_law_row_right" sRowR f fd) (cS : Cd P w K mg base 1 "_law_sent_right" ["_law_row", "_law_stands"] spSentR) (cH : Cd P w K mg base 1 "_law_heard_right" ["_law_kind", "_law_row", "_law_stands"] spHeardR) : FnOk P w K mg base CX0 2 f fd ["_law_kind", "_law_row", "_law_stands"] spRowR := by
  obtain ⟨fS, fdS, GS, mS, kS, bS⟩ := cS
  obtain ⟨fH, fdH, GH, mH, kH, bH⟩ := cH
  refine F.ok scRowR (fun vs H Q E h => ?_) (fun cdv A outer s H vs Q E hr h => ?_)
  · obtain ⟨κ, q, a, S, n, H0, r, rfl, _⟩ := h
    rfl
  · obtain ⟨κ, q, a, S, n, H0, r, rfl, hq, hS, hz, hn, k⟩ := h
    have hu := hu_of hr
    have hr1 : Room 1 _ := hr.mono (by decide)
    refine ⟨_, (pss_cons (ps_par (i := 3) (j := 4) (by rfl) scRowR.nd rfl rfl (by decide) rfl rfl (pa_cons (pe_ix (ixL (K := K) rfl) (pv 2) pe_int (fun _ _ => rfl)) (pa_cons (pe_ix (ixL (K := K) rfl) (pv 2) pe_int (fun _ _ => rfl)) pa_nil)) (by rfl))
       (pss_cons (ps_if (pt_cmpR op_eq (pe_ix (ixT (K := K) rfl) (pv 1) pe_int (fun _ _ => rfl)) pe_str (nomark _))
       (pss_cons (ps_set (i := 5) scRowR.nd rfl (Or.inl rfl) (pe_cmp (pc_dnotin hu (pe_ix (ixT (K := K) rfl) (pv 1) pe_int (fun _ _ => rfl)) (pv 3)) rfl))
       (pss_cons (ps_if (pt_val (pv 5))
       (pss_one (ps_dput hu (pv 3) (pe_ix (ixT (K := K) rfl) (pv 1) pe_int (fun _ _ => rfl)) (pe_ix (ixT (K := K) rfl) (pv 1) pe_int (fun _ _ => rfl)) rfl))
       pss_nil)
       (pss_one (ps_ret (pv 5)))))
       pss_nil)
       (pss_cons (ps_if (pt_cmpR op_eq (pe_ix (ixT (K := K) rfl) (pv 1) pe_int (fun _ _ => rfl)) pe_str (nomark _))
       (pss_one (ps_ret (pe_cmp (pc_notN (pe_dpop2 (pv 3) (pe_ix (ixT (K := K) rfl) (pv 1) pe_int (fun _ _ => rfl)) pe_non ⟨rfl, rfl, rfl, rfl⟩)) rfl)))
       pss_nil)
       (pss_cons (ps_if (pt_cmpR op_eq (pe_ix (ixT (K := K) rfl) (pv 1) pe_int (fun _ _ => rfl)) pe_str (nomark _))
       (pss_one (ps_ret (pe_call GS hr1 rfl mS kS bS .nil pass0 (pa_cons (pv 1) (pa_cons (pv 2) pa_nil)))))
       pss_nil)
       (pss_cons (ps_if (pt_cmpR op_eq (pe_ix (ixT (K := K) rfl) (pv 1) pe_int (fun _ _ => rfl)) pe_str (nomark _))
       (pss_one (ps_ret (pe_call GH hr1 rfl mH kH bH .nil pass0 (pa_cons (pv 0) (pa_cons (pv 1) (pa_cons (pv 2) pa_nil))))))
       pss_nil)
       (pss_cons (ps_dput hu (pe_ix (ixL (K := K) rfl) (pv 2) pe_int (fun _ _ => rfl)) (pe_slice (slA (K := K) rfl) (pv 1) (po_some pe_int) (po_some pe_int)) pe_bl rfl)
       (pss_one (ps_ret (pe_cmp (pc_din hu (pe_slice (slA (K := K) rfl) (pv 1) (po_some pe_int) (po_some pe_int)) (pv 4)) rfl))))))))), ?_⟩
    refine ⟨_, rfl, a.l, _, 0, _, rfl, rfl, SqL.of hS.o, atI_nat (j := 0) rfl, _, rfl, a.l, _, 1, _, rfl, rfl, SqL.of hS.o, atI_nat (j := 1) rfl, _, _, rfl, ?_⟩
    have atq : ∀ (i : Nat) (v : V), (rwV r)[i]? = some v → atI (rwV r) (i : Int) = some v := fun i v e => atI_nat e
    cases r with
    | come h st =>
      refine ⟨_, rfl, q, _, 0, _, rfl, rfl, SqT.of hq, atI_nat (j := 0) rfl, rfl, _, rfl, iteS (fun _ => ?_) fun e => absurd rfl e⟩
      have gt := DGet.k (k := Sum.inl h) hS.t
      rw [valV_gK] at gt
      unfold Sd.row at k
      dsimp only at k
      refine ⟨_, rfl, q, _, 1, _, rfl, rfl, SqT.of hq, atI_nat (j := 1) rfl, _, rfl, a.T, _, rfl, gt, ?_⟩
      cases e1 : lookA S.there h with
      | some u =>
        rw [if_neg (by rw [e1]; exact Option.some_ne_none _)] at k
        exact ⟨_, rfl, _, rfl, iteF ⟨_, rfl, k H (Kp.refl _ _) hS⟩⟩
      | none =>
        rw [if_pos e1] at k
        refine ⟨_, rfl, _, rfl, iteT ?_⟩
        have sz : (gK V.str S.there).length < sizeLine := by rw [gK_len]; exact lt_line (Nat.le_trans hz.t hn)
        refine ⟨_, rfl, q, _, 2, _, rfl, rfl, SqT.of hq, atI_nat (j := 2) rfl, _, rfl, _, rfl, q, _, 1, _, rfl, rfl, SqT.of hq, atI_nat (j := 1) rfl, a.T, _, rfl, DPut.k (k := Sum.inl h) hS.t sz, ?_⟩
        rw [putK_gK]
        exact ⟨_, rfl, k _ ((Kp.refl _ _).wr (wsT a)) (hS.setT _)⟩
    | go h =>
      refine ⟨_, rfl, q, _, 0, _, rfl, rfl, SqT.of hq, atI_nat (j := 0) rfl, rfl, _, rfl, iteS (fun e => absurd (show ("go" : Str) = "come" from e) (by decide)) fun _ => ?_⟩
      refine ⟨_, rfl, q, _, 0, _, rfl, rfl, SqT.of hq, atI_nat (j := 0) rfl, rfl, _, rfl, iteS (fun _ => ?_) fun e => absurd rfl e⟩
      unfold Sd.row at k
      dsimp only at k
      refine ⟨_, rfl, a.T, rfl, .inl ⟨_, .inl hS.t⟩, _, rfl, q, _, 1, _, rfl, rfl, SqT.of hq, atI_nat (j := 1) rfl, _, Sum.inl h, hS.t, rfl, fun v e => ?_, fun e => ?_⟩
      · rw [valV_gK] at e
        obtain ⟨u, eu, rfl⟩ := Option.map_eq_some_iff.mp e
        rw [if_neg (by rw [eu]; exact Option.some_ne_none _)] at k
        rw [dropK_gK]
        exact k _ ((Kp.refl _ _).wr (wsT a)) (hS.setT _)
      · rw [valV_gK, Option.map_eq_none_iff] at e
        rw [if_pos e] at k
        exact k _ (Kp.refl _ _) hS
    | send s m aim t =>
      refine ⟨_, rfl, q, _, 0, _, rfl, rfl, SqT.of hq, atI_nat (j := 0) rfl, rfl, _, rfl, iteS (fun e => absurd (show ("send" : Str) = "come" from e) (by decide)) fun _ => ?_⟩
      refine ⟨_, rfl, q, _, 0, _, rfl, rfl, SqT.of hq, atI_nat (j := 0) rfl, rfl, _, rfl, iteS (fun e => absurd (show ("send" : Str) = "go" from e) (by decide)) fun _ => ?_⟩
      refine ⟨_, rfl, q, _, 0, _, rfl, rfl, SqT.of hq, atI_nat (j := 0) rfl, rfl, _, rfl, iteS (fun _ => ?_) fun e => absurd rfl e⟩
      exact ⟨_, rfl, _, rfl, q, a, S, n, H0, s, m, aim, t, rfl, hq, hS, hz, hn, k⟩
    | hear h s m t =>
      refine ⟨_, rfl, q, _, 0, _, rfl, rfl, SqT.of hq, atI_nat (j := 0) rfl, rfl, _, rfl, iteS (fun e => absurd (show ("hear" : Str) = "come" from e) (by decide)) fun _ => ?_⟩
      refine ⟨_, rfl, q, _, 0, _, rfl, rfl, SqT.of hq, atI_nat (j := 0) rfl, rfl, _, rfl, iteS (fun e => absurd (show ("hear" : Str) = "go" from e) (by decide)) fun _ => ?_⟩
      refine ⟨_, rfl, q, _, 0, _, rfl, rfl, SqT.of hq, atI_nat (j := 0) rfl, rfl, _, rfl, iteS (fun e => absurd (show ("hear" : Str) = "send" from e) (by decide)) fun _ => ?_⟩
      refine ⟨_, rfl, q, _, 0, _, rfl, rfl, SqT.of hq, atI_nat (j := 0) rfl, rfl, _, rfl, iteS (fun _ => ?_) fun e => absurd rfl e⟩
      exact ⟨_, rfl, _, rfl, _, rfl, κ, q, a, S, n, H0, h, s, m, t, rfl, hq, hS, hz, hn, k⟩
    | lose s m =>
      refine ⟨_, rfl, q, _, 0, _, rfl, rfl, SqT.of hq, atI_nat (j := 0) rfl, rfl, _, rfl, iteS (fun e => absurd (show ("lose" : Str) = "come" from e) (by decide)) fun _ => ?_⟩
      refine ⟨_, rfl, q, _, 0, _, rfl, rfl, SqT.of hq, atI_nat (j := 0) rfl, rfl, _, rfl, iteS (fun e => absurd (show ("lose" : Str) = "go" from e) (by decide)) fun _ => ?_⟩
      refine ⟨_, rfl, q, _, 0, _, rfl, rfl, SqT.of hq, atI_nat (j := 0) rfl, rfl, _, rfl, iteS (fun e => absurd (show ("lose" : Str) = "send" from e) (by decide)) fun _ => ?_⟩
      refine ⟨_, rfl, q, _, 0, _, rfl, rfl, SqT.of hq, atI_nat (j := 0) rfl, rfl, _, rfl, iteS (fun e => absurd (show ("lose" : Str) = "hear" from e) (by decide)) fun _ => ?_⟩
      unfold Sd.row at k
      dsimp only at k
      have sz : (gP (fun _ => V.bl) S.lost).length < sizeLine := by rw [gP_len]; exact lt_line (Nat.le_trans hz.l hn)
      refine ⟨_, rfl, a.l, _, 3, _, rfl, rfl, SqL.of hS.o, atI_nat (j := 3) rfl, _, rfl, 1, rfl, 3, rfl, slT_new (i := 1) (j := 3) (ys := [.int s, .int m]) hq (by decide) (Nat.succ_pos _) rfl fun k1 n_k1 => ?_⟩
      obtain ⟨H1, e_H1, s1, r1⟩ := new_any n_k1
      rw [← e_H1]
      clear e_H1
      have h1 := hS.same s1
      refine ⟨a.L, _, rfl, DPut.t (k := pk (s, m)) h1.l r1 sz, ?_⟩
      rw [putK_gP (fun _ => V.bl)]
      have h2 := h1.setL (putP S.lost (s, m) true)
      have k2 : Kp a.ws H (upd H1 a.L (.dT (gP (fun _ => V.bl) (putP S.lost (s, m) true)))) := (Kp.of s1).wr (wsL a)
      have q2 := ((TK.refl H1).wr h1.l (o := .dT (gP (fun _ => V.bl) (putP S.lost (s, m) true))) rfl).1 _ _ (s1 _ _ hq)
      generalize upd H1 a.L (.dT (gP (fun _ => V.bl) (putP S.lost (s, m) true))) = H2 at h2 k2 q2
      refine ⟨_, rfl, 1, rfl, 3, rfl, slT_new (i := 1) (j := 3) (ys := [.int s, .int m]) q2 (by decide) (Nat.succ_pos _) rfl fun k3 n_k3 => ?_⟩
      obtain ⟨H3, e_H3, s3, r3⟩ := new_any n_k3
      rw [← e_H3]
      clear e_H3
      have h3 := h2.same s3
      obtain ⟨as, p1, p2⟩ := h3.p
      have gp := DGet.t (k := pk (s, m)) p1 r3
      rw [valV_gA] at gp
      refine ⟨_, rfl, a.P, _, rfl, gp, ?_⟩
      have z := k H3 (Kp.trans k2 (Kp.of s3)) h3
      have e : (lookP as (s, m)).isSome = (lookP S.posts (s, m)).isSome := by
        rw [Bool.eq_iff_iff, Option.isSome_iff_ne_none, Option.isSome_iff_ne_none]
        exact not_congr p2.none
      rw [Option.isSome_map, e]
      exact z
theorem scEndR : FnScope ["_law_stands", "_law_waiting", "_law_posts", "_law_heard", "_law_lost", "_law_key", "_law_missing", "_law_one_here", "_law_hand"] ["_law_stands", "_law_waiting"] (defScope sEndR) := ⟨rfl, rfl, rfl, by decide +kernel, rfl, by decide +kernel, by decide +kernel⟩
theorem ok_endR {f : Addr} {fd : FuncData} (F : Fun K "_law_end_right" "_law_end_right" sEndR f fd) : FnOk P w K mg base CX0 1 f fd ["_law_stands", "_law_waiting"] (spEndR K) := by
  refine F.ok scEndR (fun vs H Q E h => ?_) (fun cdv A outer s H vs Q E hr h => ?_)
  · obtain ⟨a, S, n, H0, t, xs, ws, rfl, _⟩ := h
    rfl
  · obtain ⟨a, S, n, H0, t, xs, ws, rfl, hS, hz, hn, ht, lx, lw, hw, k⟩ := h
    have hu := hu_of hr
    refine ⟨_, (pss_cons (ps_asg (pe_tup (pa_cons (pe_ix (ixL (K := K) rfl) (pv 0) pe_int (fun _ _ => rfl)) (pa_cons (pe_ix (ixL (K := K) rfl) (pv 0) pe_int (fun _ _ => rfl)) (pa_cons (pe_ix (ixL (K := K) rfl) (pv 0) pe_int (fun _ _ => rfl)) pa_nil)))) (pg_tup rfl (pgs_cons (pg_name (i := 2) scEndR.nd rfl (Or.inr rfl)) (pgs_cons (pg_name (i := 3) scEndR.nd rfl (Or.inr rfl)) (pgs_cons (pg_name (i := 4) scEndR.nd rfl (Or.inl rfl)) pgs_nil)))))
       (pss_cons (ps_if (pt_cmpR (neDK (K := K) rfl hr.units) (pe_lc (own := [("_law_one_here", 7)]) (g := (gName 7)) (tt := _) rfl scEndR.nd (pi_tup (pv 1)) (blkOk_by (N := ["_law_stands", "_law_waiting", "_law_posts", "_law_heard", "_law_lost", "_law_key", "_law_missing", "_law_one_here", "_law_hand"]) (sc := defScope sEndR) (by decide +kernel))
       (fun _ _ _ _ _ => (pg_name (i := 7) scEndR.nd rfl (Or.inl rfl))) (fun _ _ _ _ _ => (pts_one (pt_cmp (pc_dnotin hu (pv 7) (pv 2))))) (fun _ _ _ _ _ => (pv 7))) (pe_lst pa_nil) (nomark _))
       (pss_one (ps_ret pe_bl))
       pss_nil)
       (pss_cons (ps_lock (ps_for PassesOwn.never rfl (pi_keys (pv 2)) (pg_name (i := 5) scEndR.nd rfl (Or.inr rfl))
       (pss_cons (ps_setLc (i := 6) (own := [("_law_hand", 8)]) (g := (gName 8)) (tt := _) rfl scEndR.nd rfl rfl (sw_true rfl rfl rfl (by decide +kernel)) (pi_list (pe_ix (ixT (K := K) rfl) (pe_dget hu (pv 2) (pv 5) (fun _ _ => rfl)) pe_int (fun _ _ => rfl))) (blkOk_by (N := ["_law_stands", "_law_waiting", "_law_posts", "_law_heard", "_law_lost", "_law_key", "_law_missing", "_law_one_here", "_law_hand"]) (sc := defScope sEndR) (by decide +kernel))
       (fun _ _ _ _ _ => (pg_name (i := 8) scEndR.nd rfl (Or.inl rfl))) (fun _ _ _ _ _ => (pts_one (pt_cmpR (notInSeqK (K := K) rfl) (pe_ix (ixT (K := K) rfl) (pv 5) pe_int (fun _ _ => rfl)) (pe_dget2 hu (pv 3) (pe_tup (pa_cons (pv 8) (pa_cons (pe_ix (ixT (K := K) rfl) (pv 5) pe_int (fun _ _ => rfl)) pa_nil))) (pe_lst pa_nil) ⟨rfl, rfl, rfl, rfl⟩) (by rfl)))) (fun _ _ _ _ _ => (pv 8)))
       (pss_one (ps_if (PW.pt (pw_and (pt_cmpR (neDK (K := K) rfl hr.units) (pv 6) (pe_lst pa_nil) (nomark _)) (pw_and (pt_cmp (pc_dnotin hu (pv 5) (pv 4))) (pw_and1 (pt_cmpR (notInDTK (K := K) rfl (room65 hr)) (pv 5) (pv 1) (by rfl))))))
       (pss_one (ps_ret pe_bl))
       pss_nil)))))
       (pss_one (ps_ret pe_bl))))), ?_⟩
    refine ⟨_, rfl, a.l, _, 1, _, rfl, rfl, SqL.of hS.o, atI_nat (j := 1) rfl, _, rfl, a.l, _, 2, _, rfl, rfl, SqL.of hS.o, atI_nat (j := 2) rfl, _, rfl, a.l, _, 3, _, rfl, rfl, SqL.of hS.o, atI_nat (j := 3) rfl, (by show 3 ≤ sizeLine; decide), fun tp n_tp => ?_⟩
    obtain ⟨H1, e_H1, s1, r1⟩ := new_any n_tp
    rw [← e_H1]
    clear e_H1
    refine ⟨tp, _, rfl, SqT.of r1, rfl, _, _, rfl, _, _, rfl, _, _, rfl, rfl, ?_⟩
    have h1 := hS.same s1
    have ht1 := SqT.sm ht s1
    obtain ⟨as, p1, p2⟩ := h1.p
    refine ⟨_, rfl, t, rfl, ⟨_, ht1⟩, fun D nD => ?_⟩
    have lz : (xs.zip ws).length = ws.length := by rw [List.length_zip]; omega
    refine comp_ls (L := xs.zip ws) ((walk_tup (K := K) (a := t) (xs := xs)).cast (by omega)) (fun H' s' => SqT.sm ht1 s') (fun e => (lookP S.posts e.2).isNone) (fun e => e.1) nD (by omega) ?_ ?_
    · rintro j e v H' H'' Q' N' hj s' ⟨rfl, hv⟩ hQ hN
      rw [List.getElem?_zip_eq_some] at hj
      rw [hj.1] at hv
      cases hv
      obtain ⟨b, ev, hb⟩ := hw j _ _ hj.1 hj.2
      have gp := DGet.t (k := pk e.2) (s' _ _ p1) (s' _ _ (s1 _ _ hb))
      rw [valV_gA] at gp
      refine ⟨rfl, _, rfl, _, rfl, a.P, _, rfl, by rw [ev]; exact gp, ?_⟩
      have ei : (Option.map V.ref (lookP as e.2)).isSome = (lookP S.posts e.2).isSome := by
        rw [Option.isSome_map, Bool.eq_iff_iff, Option.isSome_iff_ne_none, Option.isSome_iff_ne_none]
        exact not_congr p2.none
      rw [ei]
      refine ⟨_, rfl, ?_⟩
      cases el : lookP S.posts e.2 with
      | none => exact iteT ⟨_, rfl, hQ (by rw [el]; rfl) _ (L2.Same.refl _)⟩
      | some x => exact iteF (hN (by rw [el]; rfl) _ (L2.Same.refl _))
    intro H2 s2 hD2
    refine ⟨Nat.zero_le _, fun l3 n_l3 => ?_⟩
    obtain ⟨H3, e_H3, s3, r3⟩ := new_any n_l3
    rw [← e_H3]
    clear e_H3
    have s13 := s2.trans s3
    have h3 := h1.same s13
    have wall : ∀ e ∈ xs.zip ws, WtAt H3 e.1 e.2 := fun e he => by
      obtain ⟨i, hi⟩ := List.mem_iff_getElem?.mp he
      rw [List.getElem?_zip_eq_some] at hi
      obtain ⟨b, ev, hb⟩ := hw i _ _ hi.1 hi.2
      exact ⟨b, ev, s13 _ _ (s1 _ _ hb)⟩
    have dall : ∀ l : List (V × (Int × Int)), (∀ e ∈ l, WtAt H3 e.1 e.2) → DpAll K H3 (l.map fun e => e.1) (l.map fun e => prD e.2) := fun l => by
      induction l with
      | nil => exact fun _ => .nil
      | cons e l ih =>
        intro hl
        obtain ⟨b, ev, hb⟩ := hl e List.mem_cons_self
        rw [List.map_cons, List.map_cons, ev]
        exact .cons (prD_dp hb) (ih fun e he => hl e (List.mem_cons_of_mem _ he))
    refine ⟨_, _, .lst (SqL.of (s3 _ _ hD2)) (dall _ fun e he => wall e ((List.mem_filter.mp he).1)), .lst (SqL.of r3) .nil, Shp.ok (n := 2) (Shp.lst (Shp.map fun e => prD_shp e.2)) (by decide), rfl, _, rfl, ?_⟩
    rw [lst_eqv]
    have ew : ((xs.zip ws).filter fun e => (lookP S.posts e.2).isNone) = [] ↔ (ws.all fun k => (lookP S.posts k).isSome) = true := by
      rw [List.filter_eq_nil_iff, List.all_eq_true]
      have em : (xs.zip ws).map (·.2) = ws := List.map_snd_zip (by omega)
      constructor
      · intro h q hq
        rw [← em] at hq
        obtain ⟨e, he, rfl⟩ := List.mem_map.mp hq
        have := h e he
        cases el : lookP S.posts e.2 with
        | none => rw [el] at this; exact absurd rfl this
        | some x => rfl
      · intro h e he
        have := h e.2 (by rw [← em]; exact List.mem_map.mpr ⟨e, he, rfl⟩)
        cases el : lookP S.posts e.2 with
        | none => rw [el] at this; cases this
        | some x => exact Bool.false_ne_true
    unfold Sd.endOk at k
    refine iteNP (fun e => ?_) fun e => ?_
    · have e' : (ws.all fun k => (lookP S.posts k).isSome) = false := by
        cases z : (ws.all fun k => (lookP S.posts k).isSome) with
        | true => exact absurd (ew.mpr z) e
        | false => rfl
      rw [e'] at k
      exact k _ (s1.trans s13) h3
    rw [ew.mp e, Bool.true_and] at k
    clear e ew dall hD2
    obtain ⟨as, p1, p2⟩ := h3.p
    obtain ⟨es, x1, x2⟩ := h3.e
    have ht3 := SqT.sm ht1 s13
    refine ⟨a.P, _, p1, trivial, fun od => ?_⟩
    have hgE := lock_at (od := od) (u := .dT (gA as)) x1 h3.pe.symm
    have hgL := lock_at (od := od) (u := .dT (gA as)) h3.l h3.pl.symm
    have htk : TK H3 (upd H3 a.P (.frz od (.dT (gA as)))) := (TK.refl _).wr p1 rfl
    have hFp : Fam as S.posts (fun b x => ∃ d, upd H3 a.P (.frz od (.dT (gA as))) b = some (.tup [aimV x.1, .str x.2.1, .ref d]) ∧ upd H3 a.P (.frz od (.dT (gA as))) d = some (.lst (x.2.2.map V.int))) :=
      p2.mono fun b x ⟨_, d, _, z1, z2⟩ => ⟨d, lock_at z1 (ne_of z1 p1 (by intro z; cases z)), lock_at z2 (ne_of z2 p1 (by intro z; cases z))⟩
    have hFe : Fam es S.heard (fun b x => upd H3 a.P (.frz od (.dT (gA as))) b = some (.lst (x.map V.int))) := x2.mono fun b x ⟨_, z⟩ => lock_at z (ne_of z p1 (by intro z; cases z))
    generalize eG : upd H3 a.P (.frz od (.dT (gA as))) = G at hgE hgL htk hFp hFe
    have hp : G a.P = some (.frz od (.dT (gA as))) := by rw [← eG]; exact upd_same
    have htG := SqT.tk ht3 htk
    have bk : ∀ H', Same G H' → Same H (upd H' a.P (.dT (gA as))) := fun H' s' => (s1.trans s13).trans (lock_same p1 (by rw [eG]; exact s'))
    refine ⟨_, rfl, a.P, od, rfl, .inr ⟨_, hp, ?_⟩⟩
    have la : (gA as).length = S.posts.length := by rw [gA_len, p2.len]
    refine for_it (walk_keysT (d := a.P) (o := od) (kvs := gA as)) (fun i σ H' => ∃ (v5 v6 v7 v8 : Option V), σ = [some (.ref a.l), some (.ref t), some (.ref a.P), some (.ref a.E), some (.ref a.L), v5, v6, v7, v8] ∧ Same G H' ∧ ∀ e ∈ S.posts.take i, (decide (S.missing e = []) || (lookP S.lost e.1).isSome || decide (e.1 ∈ ws)) = true)
      ⟨_, _, _, _, rfl, L2.Same.refl _, fun e he => by cases he⟩ (fun i σ H' _ ⟨_, _, _, _, _, s', _⟩ => s' _ _ hp) ?_ ?_
    · rintro i y σ H4 H4' hi ⟨v5, v6, v7, v8, rfl, s4, good⟩ ⟨rfl, kk, vv, q, hkv, rfl, hq⟩
      have hi' : i < S.posts.length := by omega
      obtain ⟨e0, he0⟩ : ∃ e0, as[i]? = some e0 := ⟨as[i]'(by rw [p2.len]; exact hi'), List.getElem?_eq_getElem _⟩
      unfold gA gP at hkv
      rw [List.getElem?_map, he0] at hkv
      cases hkv
      have ek : e0.1 = S.posts[i].1 := by
        have := congrArg (fun l : List (Int × Int) => l[i]?) p2.ks
        rw [List.getElem?_map, List.getElem?_map, he0, List.getElem?_eq_getElem hi'] at this
        exact Option.some.inj this
      generalize eE : S.posts[i] = e at ek
      have me : e ∈ S.posts := by rw [← eE]; exact List.getElem_mem _
      have le := lookP_of_mem hz.np (k := e.1) (v := e.2) me
      obtain ⟨b, eb, du, hb, hdu⟩ := hFp.get le
      have hq : H4' q = some (.tup [.int e.1.1, .int e.1.2]) := by rw [← ek]; exact hq
      have hp4 := s4 _ _ hp
      have gp := dgetT_frz (k := pk e.1) hp4 hq
      rw [valV_gA, eb] at gp
      dsimp only [gName, List.set]
      refine ⟨_, rfl, _, rfl, a.P, _, rfl, gp, b, _, 2, _, rfl, rfl, SqT.of (s4 _ _ hb), atI_nat (j := 2) rfl, du, rfl, ⟨_, SqL.of (s4 _ _ hdu)⟩, fun D nD => ?_⟩
      refine comp_ls (L := e.2.2.2) ((walk_list (K := K) (a := du) (xs := e.2.2.2.map V.int)).cast (List.length_map _)) (fun H' s' => SqL.of (s' _ _ (s4 _ _ hdu))) (fun h => decide (e.1.2 ∉ S.before h e.1.1)) (fun h => .int h) nD (Nat.le_trans (hz.d e.1 e.2 le) (by omega)) ?_ ?_
      · rintro j h v H' H'' Q' N' hj s' ⟨rfl, hv⟩ hQ hN
        rw [List.getElem?_map, hj] at hv
        cases hv
        have sg := s4.trans s'
        refine ⟨rfl, _, rfl, q, _, 1, _, rfl, rfl, SqT.of (s' _ _ hq), atI_nat (j := 1) rfl, _, rfl, a.E, rfl, .inr ⟨_, .inl (sg _ _ hgE)⟩, _, rfl, _, rfl, q, _, 0, _, rfl, rfl, SqT.of (s' _ _ hq), atI_nat (j := 0) rfl, (by show 2 ≤ sizeLine; decide), fun k5 n_k5 => ?_⟩
        obtain ⟨H5, e_H5, s5, r5⟩ := new_any n_k5
        rw [← e_H5]
        clear e_H5
        refine ⟨Nat.zero_le _, fun l6 n_l6 => ?_⟩
        obtain ⟨H6, e_H6, s6, r6⟩ := new_any n_l6
        rw [← e_H6]
        clear e_H6
        have s56 := s5.trans s6
        have ge := DGet.t (k := pk (h, e.1.1)) (s56 _ _ (sg _ _ hgE)) (s6 _ _ r5)
        rw [valV_gA] at ge
        obtain ⟨bl, ebl, hbl⟩ : ∃ bl, ((lookP es (h, e.1.1)).map V.ref).getD (.ref l6) = .ref bl ∧ H6 bl = some (.lst ((S.before h e.1.1).map V.int)) := by
          unfold Sd.before
          cases el : lookP es (h, e.1.1) with
          | none =>
            rw [hFe.none.mp el]
            exact ⟨l6, rfl, r6⟩
          | some b2 =>
            obtain ⟨ys, e5, e6⟩ := hFe.at_ _ _ el
            rw [e5]
            exact ⟨b2, rfl, s56 _ _ (sg _ _ e6)⟩
        refine ⟨_, ge, ?_⟩
        rw [ebl]
        refine ⟨bl, _, rfl, .inl (SqL.of hbl), rfl, flat_intsJ, _, rfl, ?_⟩
        show if (!inV (.int e.1.2) ((S.before h e.1.1).map V.int)) = true then _ else _
        rw [inV_ints]
        refine iteNP (fun e7 => ⟨_, rfl, hQ (decide_eq_true e7) _ s56⟩) fun e7 => hN (decide_eq_false fun z => z e7) _ s56
      · intro H5 s5 hD5
        dsimp only [gName, List.set]
        refine ⟨_, rfl, Nat.zero_le _, fun l6 n_l6 => ?_⟩
        obtain ⟨H6, e_H6, s6, r6⟩ := new_any n_l6
        rw [← e_H6]
        clear e_H6
        have s46 := s5.trans s6
        have sg := s4.trans s46
        have hD6 : H6 D = some (.lst ((S.missing e).map V.int)) := s6 _ _ hD5
        have step : (decide (S.missing e = []) || (lookP S.lost e.1).isSome || decide (e.1 ∈ ws)) = true → ∀ e' ∈ S.posts.take (i + 1), (decide (S.missing e' = []) || (lookP S.lost e'.1).isSome || decide (e'.1 ∈ ws)) = true := fun g e' he' => by
          rw [List.take_succ_eq_append_getElem hi', List.mem_append, List.mem_singleton, eE] at he'
          rcases he' with he' | rfl
          · exact good e' he'
          · exact g
        refine ⟨_, _, .lst (SqL.of hD6) (dp_ints _), .lst (SqL.of r6) .nil, Shp.ok (n := 2) (Shp.lst (Shp.map fun _ => Shp.int)) (by decide), rfl, _, rfl, ?_⟩
        rw [lst_eqv]
        refine iteNP (fun e1 => ?_) fun e1 => iteF ⟨_, _, _, _, rfl, sg, step (by rw [decide_eq_true e1]; rfl)⟩
        have gl := DGet.t (k := pk e.1) (sg _ _ hgL) (s46 _ _ hq)
        rw [valV_gP] at gl
        refine ⟨_, rfl, _, rfl, a.L, _, rfl, gl, _, rfl, ?_⟩
        rw [Option.isSome_map]
        cases e2 : (lookP S.lost e.1).isSome with
        | true => exact iteF (iteF ⟨_, _, _, _, rfl, sg, step (by rw [e2]; simp)⟩)
        | false =>
        refine iteT ⟨_, rfl, _, rfl, prD e.1, ws.map prD, prD_dp (s46 _ _ hq), .tup (SqT.sm htG sg) (wts_dp lx fun i v k' z1 z2 => ?_), Shp.ok (prD_shp _) (by decide), Shp.ok (Shp.tup (n := 1) (Shp.map fun p => prD_shp p)) (by decide), _, rfl, ?_⟩
        · obtain ⟨b, ev, hb⟩ := hw i v k' z1 z2
          exact ⟨b, ev, sg _ _ (htk.1 _ _ (s13 _ _ (s1 _ _ hb)))⟩
        rw [prD_any]
        refine iteNP (fun e3 => ?_) fun e3 => ⟨_, _, _, _, rfl, sg, step (by rw [decide_eq_true e3]; simp)⟩
        have hf : (S.posts.all fun e => decide (S.missing e = []) || (lookP S.lost e.1).isSome || decide (e.1 ∈ ws)) = false := by
          rw [List.all_eq_false]
          exact ⟨e, me, by rw [decide_eq_false e1, e2, decide_eq_false e3]; exact Bool.false_ne_true⟩
        rw [hf] at k
        exact ⟨sg _ _ hp, k _ (bk _ sg) (hS.same (bk _ sg))⟩
    · rintro σ H4 ⟨v5, v6, v7, v8, rfl, s4, good⟩
      rw [la, List.take_length] at good
      have ht : (S.posts.all fun e => decide (S.missing e = []) || (lookP S.lost e.1).isSome || decide (e.1 ∈ ws)) = true := List.all_eq_true.mpr good
      rw [ht] at k
      exact ⟨s4 _ _ hp, k _ (bk _ s4) (hS.same (bk _ s4))⟩
end
end Wn

namespace L2
open PySem PySem.Spec PyProof.Rows
/-! ### d == {}, d != {} -/
section
variable {X : Cx}
def rEqE : R2 := fun x y H Q => ∃ a b ks, x = .ref a ∧ y = .ref b ∧ H a = some (.dK ks) ∧ H b = some (.dK []) ∧ Q (.bl (decide (ks.length = 0))) H
theorem op_eqE (hu : X.A.units < cLine) : OpR X (compareOp .Eq) rEqE := by
  intro pins s σ H x y v u Q I rx ry h
  obtain ⟨a, b, ks, rfl, rfl, ea, eb, q⟩ := h
  obtain rfl : v = Value.ref a := rx
  obtain rfl : u = Value.ref b := ry
  obtain ⟨_, ya, va, ra, da⟩ := (show ObjOk X.prog X.w H s.heap a (.dK ks) from I.hok a _ ea)
  obtain ⟨_, yb, vb, rb, db⟩ := (show ObjOk X.prog X.w H s.heap b (.dK []) from I.hok b _ eb)
  have lb : vb = [] := List.length_eq_zero_iff.mp (by rw [← rb.length]; rfl)
  subst lb
  have la : va.length = ks.length := ra.length.symm
  refine PySem.W.keq_eq (knd := mixKind X.prog X.w) (r := true) ya yb da db hu (fun hl => ?_) (fin_bl I q ?_)
  · have : va = [] := List.length_eq_zero_iff.mp (by simpa using hl)
    subst this
    exact .nil
  · rw [Bool.and_true, la]
    cases ks <;> rfl
end
end L2

set_option maxHeartbeats 800000
namespace Wn
open PySem L2
set_option pp.maxSteps 700
set_option pp.deepTerms false
local macro_rules | `(tactic| walk_at "h") => `(tactic| first | with_reducible assumption | (with_reducible exact upd_same) | (with_reducible apply g_upd; (walk_at "neq"); (walk_at "h")) | (with_reducible apply g_same; (with_reducible assumption); (walk_at "h")) | (with_reducible apply g_kp; (with_reducible assumption); (walk_at "nin"); (walk_at "h")) | (with_reducible apply g_tk; (with_reducible assumption); (walk_at "h")))
local macro_rules | `(tactic| walk_at "neq") => `(tactic| first | with_reducible assumption | (with_reducible apply Ne.symm; with_reducible assumption) | (with_reducible apply ne_upd; (with_reducible assumption)) | (with_reducible apply Ne.symm; with_reducible apply ne_upd; with_reducible assumption) | (with_reducible apply ne_fr; (with_reducible assumption); (walk_at "h")) | (with_reducible apply ne_fr'; (with_reducible assumption); (walk_at "h")) | (with_reducible apply ne_kd; (walk_at "h"); (walk_at "h"); (with_unfolding_all (intro z; cases z))))
local macro_rules | `(tactic| walk_at "nin") => `(tactic| first | (with_reducible exact nin0) | with_reducible assumption | (with_reducible apply ninc; (walk_at "neq"); (walk_at "nin")))
local macro_rules | `(tactic| walk_at "none") => `(tactic| first | with_reducible assumption | (with_reducible apply n_upd; (with_reducible assumption)) | (with_reducible apply n_same; (with_reducible assumption); (walk_at "none")) | (with_reducible apply n_kp; (with_reducible assumption); (walk_at "nin"); (walk_at "none")))
local macro_rules | `(tactic| walk_at "mem") => `(tactic| first | (with_reducible exact List.mem_cons_self) | (with_reducible apply List.mem_cons_of_mem; (walk_at "mem")))
local macro_rules | `(tactic| walk_at "am") => `(tactic| first | (with_reducible exact am0) | (with_reducible apply am1; (first | (apply Or.inl; walk_at "mem") | (apply Or.inr; walk_at "none")); (walk_at "am")))
local macro_rules | `(tactic| walk_at "tk") => `(tactic| first | (with_reducible exact TK.refl _) | with_reducible assumption | (with_reducible apply t_tk; (with_reducible assumption); (walk_at "tk")) | (with_reducible apply t_same; (with_reducible assumption); (walk_at "tk")) | (with_reducible apply t_new; (with_reducible assumption); (walk_at "tk")) | (with_reducible apply t_wr; (walk_at "h"); (with_unfolding_all rfl); (walk_at "tk")))
local macro_rules | `(tactic| walk_at "same") => `(tactic| first | (with_reducible exact L2.Same.refl _) | with_reducible assumption | (with_reducible apply s_same; (with_reducible assumption); (walk_at "same")) | (with_reducible apply s_new; (with_reducible assumption); (walk_at "same")) | (with_reducible apply s_wrn; (walk_at "none"); (walk_at "same")))
local macro_rules | `(tactic| walk_at "kp") => `(tactic| first | (with_reducible exact Kp.refl _ _) | with_reducible assumption | (with_reducible apply k_same; (with_reducible assumption); (walk_at "kp")) | (with_reducible apply k_kp; (with_reducible assumption); (walk_at "kp")) | (with_reducible apply k_kpm; (with_reducible assumption); (walk_at "am"); (walk_at "kp")) | (with_reducible apply k_new; (with_reducible assumption); (walk_at "kp")) | (with_reducible apply k_wr; (walk_at "mem"); (walk_at "kp")) | (with_reducible apply k_wrn; (walk_at "none"); (walk_at "kp")))
local macro_rules | `(tactic| walk_at "rp") => `(tactic| first | with_reducible assumption | (with_reducible exact Rp.int) | (with_reducible exact Rp.str) | (with_reducible exact Rp.none) | (with_reducible exact Rp.bool) | (with_reducible apply Rp.tk'; (with_reducible assumption); (walk_at "tk")) | (with_reducible apply Rp.tup; (walk_at "h"); (walk_at "rpl")))
local macro_rules | `(tactic| walk_at "rpl") => `(tactic| first | with_reducible assumption | (with_reducible exact RpL.nil) | (with_reducible apply RpL.tk'; (with_reducible assumption); (walk_at "tk")) | (with_reducible apply RpL.cons; (walk_at "rp"); (walk_at "rpl")))
local macro_rules | `(tactic| walk_at "g") => `(tactic| repeat (first | refine ⟨_, rfl, ?_⟩ | refine ⟨_, _, rfl, rfl, ?_⟩ | refine ⟨rfl, _, rfl, ?_⟩ | refine ⟨_, _, rfl, rfl, (by first | decide | omega), ?_⟩))
abbrev sNextR : Stmt := top 36
abbrev sPaper : Stmt := top 37
structure KB6 (mg : Str → Option Value) : Prop where
  sorted : mg "sorted" = none
  list : mg "list" = none
  int : mg "int" = none
  range : mg "range" = none
  len : mg "len" = none
  tuple : mg "tuple" = none
  max : mg "max" = none
def RowsAt (H : Hp) (a : Addr) (rs : List Rw) : Prop := ∃ xs, H a = some (.lst xs) ∧ DqAll H xs (rs.map rwD)
theorem rw_dq {H : Hp} (r : Rw) : DqAll H (rwV r) (.str (rwW r) :: rwPD r) := by
  cases r with
  | come h s => exact .cons (.str _) (.cons (.int _) (.cons (.str _) .nil))
  | go h => exact .cons (.str _) (.cons (.int _) .nil)
  | send a n aim t => cases aim <;> first | exact .cons (.str _) (.cons (.int _) (.cons (.int _) (.cons .non (.cons (.str _) .nil)))) | exact .cons (.str _) (.cons (.int _) (.cons (.int _) (.cons (.int _) (.cons (.str _) .nil))))
  | hear h a n t => exact .cons (.str _) (.cons (.int _) (.cons (.int _) (.cons (.int _) (.cons (.str _) .nil))))
  | lose a n => exact .cons (.str _) (.cons (.int _) (.cons (.int _) .nil))
/-- rows are flat: they are kept where tuples are -/
theorem rows_tk {H H' : Hp} (t : TK H H') : ∀ {xs : List V} {rs : List Rw}, DqAll H xs (rs.map rwD) → DqAll H' xs (rs.map rwD)
  | [], [], _ => .nil
  | x :: xs, r :: rs, h => by
    obtain ⟨v, q, e, h1, h2⟩ := DqAll.inv_cons h
    cases e
    refine .cons ?_ (rows_tk t h2)
    unfold rwD at h1 ⊢
    obtain ⟨a, ys, rfl, ha, hy⟩ := h1.inv_tup
    rw [rw_vals hy] at ha
    exact .tup (t.1 _ _ ha) (rw_dq r)
  | [], r :: rs, h => by cases h
  | x :: xs, [], h => by cases h
theorem RowsAt.same {H H' : Hp} {a : Addr} {rs : List Rw} (h : RowsAt H a rs) (s : Same H H') : RowsAt H' a rs := let ⟨xs, hx, dx⟩ := h; ⟨xs, s _ _ hx, rows_tk (TK.of s) dx⟩
theorem RowsAt.kp {H H' : Hp} {M : List Addr} {a : Addr} {rs : List Rw} (h : RowsAt H a rs) (k : Kp M H H') (n : a ∉ M) (t : TK H H') : RowsAt H' a rs := let ⟨xs, hx, dx⟩ := h; ⟨xs, k _ _ n hx, rows_tk t dx⟩
/-- pairs, flat too -/
theorem prs_tk {H H' : Hp} (t : TK H H') : ∀ {xs : List V} {ws : List (Int × Int)}, DqAll H xs (ws.map prD) → DqAll H' xs (ws.map prD)
  | [], [], _ => .nil
  | x :: xs, r :: rs, h => by
    obtain ⟨v, q, e, h1, h2⟩ := DqAll.inv_cons h
    cases e
    refine .cons ?_ (prs_tk t h2)
    unfold prD at h1 ⊢
    obtain ⟨a, ys, rfl, ha, hy⟩ := h1.inv_tup
    obtain ⟨v1, r1, rfl, q1, hr1⟩ := hy.inv_cons
    obtain ⟨v2, r2, rfl, q2, hr2'⟩ := hr1.inv_cons
    rw [hr2'.inv_nil, q1.inv_int, q2.inv_int] at ha
    exact .tup (t.1 _ _ ha) (.cons (.int _) (.cons (.int _) .nil))
  | [], r :: rs, h => by cases h
  | x :: xs, [], h => by cases h
def spNextR : Sp := fun vs H Q _ => ∃ (d cs : Addr) (n : Int) (a : St5) (S : Sd) (i : Nat) (H0 : Hp) (sp : Bool), vs = [.ref d, .ref a.l, .bl sp] ∧ Deck4 H d cs n ∧ n < 2 ^ 38 ∧ SdAt H0 H a S ∧ H0 d ≠ none ∧ PSd S i ∧ i ≤ 30 ∧
  ∀ (H' : Hp) (q : Addr) (r : Rw), Kp [d] H H' → Deck4 H' d cs (n + 20) → SdAt H0 H' a S → r.nx i → H' q = some (.tup (rwV r)) → Q (.ref q) H'
def spPaper : Sp := fun vs H Q _ => ∃ (d cs : Addr) (n : Int) (κ : JK) (sp : Bool), vs = [.ref d, .str (jkS κ), .bl sp] ∧ Deck4 H d cs n ∧ n < 2 ^ 37 ∧
  ∀ (H' : Hp) (p ra wa : Addr) (xs ys : List V) (rs : List Rw) (ws : List (Int × Int)), Kp [d] H H' → Deck4 H' d cs (n + 2000) → H' p = some (.tup [.ref ra, .ref wa]) → H' ra = some (.tup xs) → DqAll H' xs (rs.map rwD) → H' wa = some (.tup ys) → DqAll H' ys (ws.map prD) →
    (∀ r ∈ rs, r.ok ∧ r.sm 100) → (∀ r ∈ rs, r.h5) → rs.length ≤ 1000 → ws.length ≤ 20 → ws.Pairwise kLt → (∀ k ∈ ws, in5 k.1 ∧ 0 ≤ k.2 ∧ k.2 ≤ 100) → Q (.ref p) H'

theorem ik_same {H H' : Hp} (s : Same H H') : ∀ {kvs : List (List Key × V)} {bs : List Addr}, IsKeys H kvs bs → IsKeys H' kvs bs
  | _, _, .nil => .nil
  | _, _, .cons h r => .cons (s _ _ h) (ik_same s r)
theorem ik_len {H : Hp} : ∀ {kvs : List (List Key × V)} {bs : List Addr}, IsKeys H kvs bs → bs.length = kvs.length
  | _, _, .nil => rfl
  | _, _, .cons h r => congrArg (· + 1) (ik_len r)
theorem ik_mem {H : Hp} : ∀ {as : List ((Int × Int) × Addr)} {bs : List Addr}, IsKeys H (gA as) bs → ∀ b ∈ bs, ∃ k ∈ as.map (·.1), H b = some (.tup [.int k.1, .int k.2])
  | [], _, ik, b, hb => by cases ik; cases hb
  | x :: as, _, ik, b, hb => by
    cases ik with
    | cons h r =>
      rcases List.mem_cons.mp hb with rfl | hb
      · exact ⟨x.1, List.mem_cons_self, h⟩
      · obtain ⟨k, hk, e⟩ := ik_mem r b hb
        exact ⟨k, List.mem_cons_of_mem _ hk, e⟩
theorem seq_mid {te : TE} {g : TG} {u : TS} {D : Ends} {σ : L2.St} {H : Hp} (Mid : V → Hp → Prop) (rest : ∀ x H1, Mid x H1 → g x σ H1 (u D)) (h : (∀ x H1, Mid x H1 → g x σ H1 (u D)) → te σ H fun x H1 => g x σ H1 (u D)) : tSeq (tAsg te g) u D σ H := h rest
/-- sorted(list(d)), d a dict of pairs -/
theorem sort_keys {K : PySem.W.Frag} {H : Hp} {α : Type} {as : List ((Int × Int) × Addr)} {m : List ((Int × Int) × α)} {R : Addr → α → Prop} {l2 : Addr} {bs : List Addr} {Q : VK} (ik : IsKeys H (gA as) bs) (p2 : Fam as m R) (np : (m.map (·.1)).Nodup) (b : ∀ k ∈ m.map (·.1), (0 ≤ k.1 ∧ k.1 < 1000) ∧ 0 ≤ k.2 ∧ k.2 < 1000) (l64 : m.length < 64) (hl : H l2 = some (.lst (bs.map V.ref)))
    (q : ∀ (ys : List V) (p : Addr) (ks : List (Int × Int)), H p = none → ks.Perm (m.map (·.1)) → ks.Pairwise kLt → ys.length = ks.length → (∀ (i : Nat) (v : V) (k : Int × Int), ys[i]? = some v → ks[i]? = some k → WtAt H v k) → Q (.ref p) (upd H p (.lst ys))) : rSortU K 2 1000 [.ref l2] H Q := by
  refine ⟨l2, _, rfl, SqL.of hl, by rw [List.length_map, ik_len ik, gA_len, p2.len]; exact l64, fun x hx => ?_, fun ys p pm srt np' => ?_⟩
  · obtain ⟨c, hc, rfl⟩ := List.mem_map.mp hx
    obtain ⟨k, hk, e⟩ := ik_mem ik c hc
    rw [p2.ks] at hk
    have bk := b k hk
    refine ⟨[k.1, k.2], ⟨c, rfl, SqT.of e⟩, rfl, fun z hz => ?_⟩
    simp only [List.mem_cons, List.not_mem_nil, or_false] at hz
    rcases hz with rfl | rfl
    · exact bk.1
    · exact bk.2
  · obtain ⟨ks, h1, h2, h3, h4⟩ := keys_sorted (K := K) (B := 1000) ik pm (by rw [p2.ks]; exact np) (by rw [p2.ks]; exact b) srt
    rw [p2.ks] at h1
    exact q ys p ks np' h1 h2 h3 h4
theorem WtAt.tk {H H' : Hp} {v : V} {k : Int × Int} (h : WtAt H v k) (t : TK H H') : WtAt H' v k := let ⟨b, e, hb⟩ := h; ⟨b, e, t.1 _ _ hb⟩
theorem catA_new {K : PySem.W.Frag} {H : Hp} {a b : Addr} {xs ys zs : List V} {Q : VK} (ha : H a = some (.tup xs)) (hb : H b = some (.tup ys)) (x0 : xs ≠ []) (y0 : ys ≠ []) (hl : xs.length + ys.length ≤ sizeLine) (hz : xs ++ ys = zs) (k : ∀ p, H p = none → Q (.ref p) (upd H p (.tup zs))) : rCatA K (.ref a) (.ref b) H Q :=
  ⟨a, b, xs, ys, rfl, rfl, SqT.of ha, SqT.of hb, hl, fun e => absurd e x0, fun _ e => absurd e y0, fun _ _ p np => by rw [hz]; exact k p np⟩
structure NR (H H' : Hp) (d cs : Addr) (m : Int) (H0 : Hp) (a : St5) (S : Sd) : Prop where
  kp : Kp [d] H H'
  D : Deck4 H' d cs m
  s : SdAt H0 H' a S
theorem NR.same {H H1 H2 H0 : Hp} {d cs : Addr} {m : Int} {a : St5} {S : Sd} (h : NR H H1 d cs m H0 a S) (s : Same H1 H2) : NR H H2 d cs m H0 a S := ⟨Kp.trans h.kp (Kp.of s), h.D.same s, h.s.same s⟩
theorem NR.call {H H1 H2 H0 : Hp} {d cs : Addr} {m m' : Int} {a : St5} {S : Sd} (h : NR H H1 d cs m H0 a S) (h0 : H0 d ≠ none) (k : Kp [d] H1 H2) (D : Deck4 H2 d cs m') : NR H H2 d cs m' H0 a S := ⟨Kp.trans h.kp k, D, h.s.deck k D h0⟩
theorem keysK {α : Type} (g : α → V) (m : List (Int × α)) : (gK g m).map (fun kv => kV kv.1) = (m.map (·.1)).map V.int := by unfold gK; rw [List.map_map, List.map_map]; rfl
theorem if_or {c : TT} {t1 t2 : TS} {D : Ends} {σ : L2.St} {H : Hp} (R R2 : Hp → Prop) (body : ∀ H', R H' → t1 D σ H') (other : ∀ H', R2 H' → t2 D σ H')
    (h1 : (∀ H', R H' → t1 D σ H') → (∀ H', R2 H' → t2 D σ H') → tIfS c t1 t2 D σ H) : tIfS c t1 t2 D σ H := h1 body other
theorem stands_new {σ : L2.St} {H : Hp} {Q : VK} (k : ∀ (H' : Hp) (a : St5), SdAt H H' a Sd.nil → Same H H' → Q (.ref a.l) H') : tLst (tCons tDNewK (tCons tDNewT (tCons tDNewT (tCons tDNewT (tCons tDNewK tNil))))) σ H Q := by
  refine fun aT n_aT => ?_
  obtain ⟨H1, e_H1, s1, r1⟩ := new_any n_aT
  rw [← e_H1]
  clear e_H1
  refine fun aP n_aP => ?_
  obtain ⟨H2, e_H2, s2, r2⟩ := new_any n_aP
  rw [← e_H2]
  clear e_H2
  refine fun aE n_aE => ?_
  obtain ⟨H3, e_H3, s3, r3⟩ := new_any n_aE
  rw [← e_H3]
  clear e_H3
  refine fun aL n_aL => ?_
  obtain ⟨H4, e_H4, s4, r4⟩ := new_any n_aL
  rw [← e_H4]
  clear e_H4
  refine fun aN n_aN => ?_
  obtain ⟨H5, e_H5, s5, r5⟩ := new_any n_aN
  rw [← e_H5]
  clear e_H5
  refine ⟨(by show 5 ≤ sizeLine; decide), fun al n_al => ?_⟩
  obtain ⟨H6, e_H6, s6, r6⟩ := new_any n_al
  rw [← e_H6]
  clear e_H6
  have q1 : H6 aT = some (.dK []) := by walk_at "h"
  have q2 : H6 aP = some (.dT []) := by walk_at "h"
  have q3 : H6 aE = some (.dT []) := by walk_at "h"
  have q4 : H6 aL = some (.dT []) := by walk_at "h"
  have q5 : H6 aN = some (.dK []) := by walk_at "h"
  have z1 : aT ≠ aN := by walk_at "neq"
  have z2 : aP ≠ aE := by walk_at "neq"
  have z3 : aP ≠ aL := by walk_at "neq"
  have z4 : aE ≠ aL := by walk_at "neq"
  have f1 : H aT = none := by walk_at "none"
  have f2 : H aP = none := by walk_at "none"
  have f3 : H aE = none := by walk_at "none"
  have f4 : H aL = none := by walk_at "none"
  have f5 : H aN = none := by walk_at "none"
  have f6 : H al = none := by walk_at "none"
  have s06 : Same H H6 := by walk_at "same"
  refine k H6 ⟨al, aT, aP, aE, aL, aN⟩ ⟨r6, q1, ⟨[], q2, Fam.nil⟩, ⟨[], q3, Fam.nil⟩, q4, q5, z1, z2, z3, z4, fun x hx => ?_, fun x e => n_same s06 e⟩ s06
  unfold St5.ws at hx
  simp only [List.mem_cons, List.not_mem_nil, or_false] at hx
  rcases hx with rfl | rfl | rfl | rfl | rfl | rfl <;> assumption
theorem SdAt.rebase {H H' : Hp} {a : St5} {p : Addr} {o : HO} (h : SdAt H H' a Sd.nil) (hp : H' p = none) : SdAt (upd H p o) (upd H' p o) a Sd.nil := by
  have s : Same H' (upd H' p o) := (L2.Same.refl _).new hp
  have g := h.same s
  obtain ⟨as, p1, p2⟩ := g.p
  obtain ⟨es, e1, e2⟩ := g.e
  have z1 : as = [] := List.eq_nil_of_length_eq_zero p2.len
  have z2 : es = [] := List.eq_nil_of_length_eq_zero e2.len
  subst z1 z2
  have hw : ∀ x ∈ a.l :: a.ws, H' x ≠ none := fun x hx => by
    obtain ⟨as, p1, _⟩ := h.p
    obtain ⟨es, e1, _⟩ := h.e
    unfold St5.ws at hx
    simp only [List.mem_cons, List.not_mem_nil, or_false] at hx
    rcases hx with rfl | rfl | rfl | rfl | rfl | rfl
    · rw [h.o]; exact Option.some_ne_none _
    · rw [h.t]; exact Option.some_ne_none _
    · rw [p1]; exact Option.some_ne_none _
    · rw [e1]; exact Option.some_ne_none _
    · rw [h.l]; exact Option.some_ne_none _
    · rw [h.n]; exact Option.some_ne_none _
  refine ⟨g.o, g.t, ⟨[], p1, Fam.nil⟩, ⟨[], e1, Fam.nil⟩, g.l, g.n, g.tn, g.pe, g.pl, g.el, fun x hx => ?_, fun x e => ?_⟩
  · rw [upd_ne (fun z => hw x hx (by rw [z]; exact hp))]
    exact h.fr x hx
  · have ne : x ≠ p := fun z => by rw [z, upd_same] at e; cases e
    rw [upd_ne ne] at e ⊢
    exact h.un x e
theorem SdAt.nin_l {a : St5} {H0 : Hp} {S : Sd} {H : Hp} (h : SdAt H0 H a S) {q : Addr} {xs : List V} (e : H q = some (.lst xs)) : q ∉ a.ws := fun z => by
  unfold St5.ws at z
  obtain ⟨as, p1, _⟩ := h.p
  obtain ⟨es, e1, _⟩ := h.e
  simp only [List.mem_cons, List.not_mem_nil, or_false] at z
  rcases z with z | z | z | z | z
  · rw [z, h.t] at e; cases e
  · rw [z, p1] at e; cases e
  · rw [z, e1] at e; cases e
  · rw [z, h.l] at e; cases e
  · rw [z, h.n] at e; cases e
theorem hear_posts {κ : JK} {S : Sd} {h s m : Int} {t : Str} : (S.row κ (.hear h s m t)).2.posts = S.posts := by
  unfold Sd.row
  dsimp only
  split
  · rfl
  · split <;> rfl
/-- what the law that makes a paper holds -/
structure PP (H H' : Hp) (d cs : Addr) (m : Int) (H0 : Hp) (a : St5) (S : Sd) (ra : Addr) (rs : List Rw) : Prop where
  kp : Kp [d] H H'
  D : Deck4 H' d cs m
  s : SdAt H0 H' a S
  r : RowsAt H' ra rs
structure PBs (H H0 : Hp) (d cs ra : Addr) : Prop where
  hd : H0 d ≠ none
  hc : H0 cs ≠ none
  hr : H0 ra ≠ none
  hn : ∀ x, H0 x = none → H x = none
  rn : H ra = none
  rd : ra ≠ d
  rc : ra ≠ cs
section
variable {H H0 H1 H2 : Hp} {d cs ra : Addr} {m m' : Int} {a : St5} {S S' : Sd} {rs : List Rw}
theorem PP.same (h : PP H H1 d cs m H0 a S ra rs) (s : Same H1 H2) : PP H H2 d cs m H0 a S ra rs := ⟨Kp.trans h.kp (Kp.of s), h.D.same s, h.s.same s, h.r.same s⟩
theorem PP.mono (h : PP H H1 d cs m H0 a S ra rs) (e : m ≤ m') : PP H H1 d cs m' H0 a S ra rs := ⟨h.kp, h.D.mono e, h.s, h.r⟩
theorem PP.call (h : PP H H1 d cs m H0 a S ra rs) (B : PBs H H0 d cs ra) (k : Kp [d] H1 H2) (t : TK H1 H2) (D : Deck4 H2 d cs m') : PP H H2 d cs m' H0 a S ra rs := ⟨Kp.trans h.kp k, D, h.s.deck k D B.hd, h.r.kp k (nin1 B.rd) t⟩
theorem PP.row (h : PP H H1 d cs m H0 a S ra rs) (B : PBs H H0 d cs ra) (k : Kp a.ws H1 H2) (t : TK H1 H2) (s : SdAt H0 H2 a S') : PP H H2 d cs m H0 a S' ra rs :=
  ⟨k_kpm k (fun x hx => .inr (B.hn x (h.s.fr x (List.mem_cons_of_mem _ hx)))) h.kp, h.D.kp k (h.s.nin B.hd) (h.s.nin B.hc), s, h.r.kp k (h.s.nin B.hr) t⟩
theorem PP.app (h : PP H H1 d cs m H0 a S ra rs) (B : PBs H H0 d cs ra) {xs : List V} (hx : H1 ra = some (.lst xs)) (dx : DqAll H1 xs (rs.map rwD)) {q : Addr} {r : Rw} (hq : H1 q = some (.tup (rwV r))) : PP H (upd H1 ra (.lst (xs ++ [.ref q]))) d cs m H0 a S ra (rs ++ [r]) := by
  have k : Kp [ra] H1 (upd H1 ra (.lst (xs ++ [.ref q]))) := (Kp.refl _ _).wr (List.mem_singleton.mpr rfl)
  have t : TK H1 (upd H1 ra (.lst (xs ++ [.ref q]))) := (TK.refl _).wr hx rfl
  refine ⟨Kp.wrn h.kp B.rn, h.D.kp k (nin1 B.rd.symm) (nin1 B.rc.symm), h.s.old k fun x e => ?_, ⟨_, upd_same, ?_⟩⟩
  · rw [List.mem_singleton.mp e, upd_same]
    exact ⟨B.hr, Option.some_ne_none _⟩
  · rw [List.map_append]
    exact (rows_tk t dx).app (.cons (.tup (t.1 _ _ hq) (rw_dq r)) .nil)
end
theorem rows_len {H : Hp} {xs : List V} {rs : List Rw} (dx : DqAll H xs (rs.map rwD)) (h : rs.length ≤ 20000) : xs.length < sizeLine := by
  have := dx.len
  rw [List.length_map] at this
  rw [this]
  exact Nat.lt_of_le_of_lt h (by decide)
def okR (rs : List Rw) : Prop := ∀ r ∈ rs, r.ok ∧ r.sm 100 ∧ r.h5
theorem okR.add {rs : List Rw} {r : Rw} (h : okR rs) (o : r.ok) (s : r.sm 100) (h5 : r.h5) : okR (rs ++ [r]) := fun z hz => by
  rcases List.mem_append.mp hz with hz | hz
  · exact h z hz
  · rw [List.mem_singleton.mp hz]; exact ⟨o, s, h5⟩
section
variable {P : Program} {w : World} {K : PySem.W.Frag} {mg : Str → Option Value} {base : Heap}
theorem scNextR : FnScope ["_law_deck_here", "_law_stands", "_law_spoil", "_law_there", "_law_posts", "_law_way", "_law_keys", "_law_hands", "_law_sender", "_law_last", "_law_number_here", "_law_aim", "_law_key", "_law_hand"] ["_law_deck_here", "_law_stands", "_law_spoil"] (defScope sNextR) := ⟨rfl, rfl, rfl, by decide +kernel, rfl, by decide +kernel, by decide +kernel⟩
theorem ok_nextR {f : Addr} {fd : FuncData} (F : Fun K "_law_next_row" "_law_next_row" sNextR f fd) (B : KB6 mg) (cN : Cd P w K mg base 2 "_law_next" ["_law_deck_here", "_law_many"] spNext4) (cO : Cd P w K mg base 3 "_law_one" ["_law_deck_here", "_law_things"] (spOne4 K)) : FnOk P w K mg base CX0 4 f fd ["_law_deck_here", "_law_stands", "_law_spoil"] spNextR := by
  obtain ⟨fN, fdN, GN, mN, kN, bN⟩ := cN.tk
  obtain ⟨fO, fdO, GO, mO, kO, bO⟩ := cO.tk
  refine F.ok scNextR (fun vs H Q E h => ?_) (fun cdv A outer s H vs Q E hr h => ?_)
  · obtain ⟨d, cs, n, a, S, i, H0, sp, rfl, _⟩ := h
    rfl
  · obtain ⟨d, cs, n, a, S, i, H0, sp, rfl, D, hn, hS, h0, hp, hi, k⟩ := h
    have hu := hu_of hr
    have hr2 : Room 2 _ := hr.mono (by decide)
    have hr3 : Room 3 _ := hr.mono (by decide)
    refine ⟨_, (pss_cons (ps_par (i := 3) (j := 4) (by rfl) scNextR.nd rfl rfl (by decide) rfl rfl (pa_cons (pe_ix (ixL (K := K) rfl) (pv 1) pe_int (fun _ _ => rfl)) (pa_cons (pe_ix (ixL (K := K) rfl) (pv 1) pe_int (fun _ _ => rfl)) pa_nil)) (by rfl))
       (pss_cons (ps_set (i := 5) scNextR.nd rfl (Or.inl rfl) (pe_call GN hr2 rfl mN kN bN .nil pass0 (pa_cons (pv 0) (pa_cons pe_int pa_nil))))
       (pss_cons (ps_set (i := 6) scNextR.nd rfl (Or.inl rfl) (pe_callB (sortUK (K := K) (d := 2) (B := 1000) rfl (by decide)) (by rfl) B.sorted (by decide +kernel) (pa_cons (pe_callTy (call_list_dT rfl) (by rfl) B.list (by decide +kernel) (pa_cons (pv 4) pa_nil)) pa_nil)))
       (pss_cons (ps_set (i := 7) scNextR.nd rfl (Or.inl rfl) (pe_callB (sortIK (K := K) rfl) (by rfl) B.sorted (by decide +kernel) (pa_cons (pe_callTy (call_listD rfl) (by rfl) B.list (by decide +kernel) (pa_cons (pv 3) pa_nil)) pa_nil)))
       (pss_cons (ps_if (PW.pt (pw_or (pt_cmpR (op_eqE (show _ < cLine from Nat.lt_of_le_of_lt (Nat.le_add_right _ 65) (room65 hr))) (pv 3) pe_dnewK (nomark _)) (pw_or1 (pt_cmpR op_eq (pv 5) pe_int (nomark _)))))
       (pss_one (ps_ret (pe_tup (pa_cons pe_str (pa_cons (pe_call GN hr2 rfl mN kN bN .nil pass0 (pa_cons (pv 0) (pa_cons pe_int pa_nil))) (pa_cons (pe_ix (ixL (K := K) rfl) (pe_lst (pa_cons pe_str (pa_cons pe_str (pa_cons pe_str pa_nil)))) (pe_call GN hr2 rfl mN kN bN .nil pass0 (pa_cons (pv 0) (pa_cons pe_int pa_nil))) (fun _ _ => rfl)) pa_nil))))))
       pss_nil)
       (pss_cons (ps_if (pt_cmpR op_eq (pv 5) pe_int (nomark _))
       (pss_one (ps_ret (pe_tup (pa_cons pe_str (pa_cons (pe_call GO hr3 rfl mO kO bO .nil pass0 (pa_cons (pv 0) (pa_cons (pv 7) pa_nil))) pa_nil)))))
       pss_nil)
       (pss_cons (ps_if (PW.pt (pw_or (pt_cmpR (eqDK (K := K) rfl hr.units) (pv 6) (pe_lst pa_nil) (nomark _)) (pw_or1 (pt_cmpR op_lt (pv 5) pe_int (nomark _)))))
       (pss_cons (ps_set (i := 8) scNextR.nd rfl (Or.inr rfl) (pe_call GO hr3 rfl mO kO bO .nil pass0 (pa_cons (pv 0) (pa_cons (pv 7) pa_nil))))
       (pss_cons (ps_set (i := 9) scNextR.nd rfl (Or.inl rfl) (pe_callB (crMaxK (K := K) rfl rfl) (by rfl) B.max (by decide +kernel) (pa_cons (pe_op op_cat (pe_lst (pa_cons pe_int pa_nil)) (pe_lc (own := [("_law_key", 12)]) (g := (gName 12)) (tt := _) rfl scNextR.nd (pi_list (pv 6)) (blkOk_by (N := ["_law_deck_here", "_law_stands", "_law_spoil", "_law_there", "_law_posts", "_law_way", "_law_keys", "_law_hands", "_law_sender", "_law_last", "_law_number_here", "_law_aim", "_law_key", "_law_hand"]) (sc := defScope sNextR) (by decide +kernel))
       (fun _ _ _ _ _ => (pg_name (i := 12) scNextR.nd rfl (Or.inl rfl))) (fun _ _ _ _ _ => (pts_one (pt_cmpR op_eq (pe_ix (ixT (K := K) rfl) (pv 12) pe_int (fun _ _ => rfl)) (pv 8) (nomark _)))) (fun _ _ _ _ _ => (pe_ix (ixT (K := K) rfl) (pv 12) pe_int (fun _ _ => rfl))))) pa_nil)))
       (pss_cons (ps_set (i := 10) scNextR.nd rfl (Or.inl rfl) (pe_op op_sub (pe_op op_add (pe_op op_add (pv 9) pe_int) (pe_call GN hr2 rfl mN kN bN .nil pass0 (pa_cons (pv 0) (pa_cons pe_int pa_nil)))) (pe_callTy call_int1 (by rfl) B.int PyProof.Rows.boot_int (pa_cons (pe_and (pv 2) (pe_one (pe_cmpR op_eq (pe_call GN hr2 rfl mN kN bN .nil pass0 (pa_cons (pv 0) (pa_cons pe_int pa_nil))) pe_int (nomark _)))) pa_nil))))
       (pss_cons (ps_set (i := 11) scNextR.nd rfl (Or.inl rfl) (pe_ix (ixL (K := K) rfl) (pe_lst (pa_cons pe_non (pa_cons (pe_call GN hr2 rfl mN kN bN .nil pass0 (pa_cons (pv 0) (pa_cons pe_int pa_nil))) (pa_cons (pe_call GO hr3 rfl mO kO bO .nil pass0 (pa_cons (pv 0) (pa_cons (pv 7) pa_nil))) pa_nil)))) (pe_call GN hr2 rfl mN kN bN .nil pass0 (pa_cons (pv 0) (pa_cons pe_int pa_nil))) (fun _ _ => rfl)))
       (pss_one (ps_ret (pe_tup (pa_cons pe_str (pa_cons (pv 8) (pa_cons (pv 10) (pa_cons (pv 11) (pa_cons (pe_ix (ixL (K := K) rfl) (pe_lst (pa_cons pe_str (pa_cons pe_str (pa_cons pe_str (pa_cons pe_str pa_nil))))) (pe_call GN hr2 rfl mN kN bN .nil pass0 (pa_cons (pv 0) (pa_cons pe_int pa_nil))) (fun _ _ => rfl)) pa_nil))))))))))))
       pss_nil)
       (pss_cons (ps_set (i := 12) scNextR.nd rfl (Or.inl rfl) (pe_call GO hr3 rfl mO kO bO .nil pass0 (pa_cons (pv 0) (pa_cons (pv 6) pa_nil))))
       (pss_cons (ps_if (pt_cmpR op_eq (pv 5) pe_int (nomark _))
       (pss_one (ps_ret (pe_op (opCatA (K := K) rfl) (pe_tup (pa_cons pe_str pa_nil)) (pv 12))))
       pss_nil)
       (pss_cons (ps_set (i := 13) scNextR.nd rfl (Or.inl rfl) (pe_call GO hr3 rfl mO kO bO .nil pass0 (pa_cons (pv 0) (pa_cons (pv 7) pa_nil))))
       (pss_cons (ps_if (PW.pt (pw_and (pt_cmpR (neDK (K := K) rfl hr.units) (pe_ix (ixT (K := K) rfl) (pe_dget hu (pv 4) (pv 12) (fun _ _ => rfl)) pe_int (fun _ _ => rfl)) (pe_lst pa_nil) (nomark _)) (pw_and1 (pt_cmpR op_gt (pe_call GN hr2 rfl mN kN bN .nil pass0 (pa_cons (pv 0) (pa_cons pe_int pa_nil))) pe_int (nomark _)))))
       (pss_one (ps_set (i := 13) scNextR.nd rfl (Or.inl rfl) (pe_call GO hr3 rfl mO kO bO .nil pass0 (pa_cons (pv 0) (pa_cons (pe_ix (ixT (K := K) rfl) (pe_dget hu (pv 4) (pv 12) (fun _ _ => rfl)) pe_int (fun _ _ => rfl)) pa_nil)))))
       pss_nil)
       (pss_one (ps_ret (pe_op (opCatA (K := K) rfl) (pe_op (opCatA (K := K) rfl) (pe_tup (pa_cons pe_str (pa_cons (pv 13) pa_nil))) (pv 12)) (pe_tup (pa_cons (pe_ix (ixT (K := K) rfl) (pe_dget hu (pv 4) (pv 12) (fun _ _ => rfl)) pe_int (fun _ _ => rfl)) pa_nil)))))))))))))))), ?_⟩
    refine ⟨_, rfl, a.l, _, 0, _, rfl, rfl, SqL.of hS.o, atI_nat (j := 0) rfl, _, rfl, a.l, _, 1, _, rfl, rfl, SqL.of hS.o, atI_nat (j := 1) rfl, _, _, rfl, ?_⟩
    refine ⟨_, rfl, d, cs, 10, n, rfl, by decide, by decide, by omega, D, fun way H1 w0 w1 k1 D1 t1 => ?_⟩
    have b1 : NR H H1 d cs (n + 1) H0 a S := ⟨k1, D1, hS.deck k1 D1 h0⟩
    obtain ⟨as, p1, p2⟩ := b1.s.p
    refine ⟨_, rfl, a.P, _, rfl, .inl p1, fun l2 bs n_l2 ik => ?_⟩
    obtain ⟨H2, e_H2, s2, r2⟩ := new_any n_l2
    rw [← e_H2]
    clear e_H2
    have kb : ∀ k ∈ S.posts.map (·.1), (0 ≤ k.1 ∧ k.1 < 1000) ∧ 0 ≤ k.2 ∧ k.2 < 1000 := fun k hk => by
      obtain ⟨e, he, rfl⟩ := List.mem_map.mp hk
      obtain ⟨g1, g2, g3, g4⟩ := hp.k e.1 e.2 (lookP_of_mem hp.z.np he)
      exact ⟨⟨g1.1, by have := g1.2; omega⟩, g2.1, by have := g2.2; omega⟩
    dsimp only [tNil]
    refine sort_keys (ik_same s2 ik) p2 hp.z.np kb (Nat.lt_of_le_of_lt hp.z.p (by omega)) r2 fun ys l3 ks n_l3 pmk lt lk hk => ?_
    obtain ⟨H3, e_H3, s3, r3⟩ := new_any n_l3
    rw [← e_H3]
    clear e_H3
    have b3 := (b1.same s2).same s3
    have hk3 : ∀ (i : Nat) (v : V) (k : Int × Int), ys[i]? = some v → ks[i]? = some k → WtAt H3 v k := fun i v k z1 z2 => (hk i v k z1 z2).tk (TK.of s3)
    have n3d : l3 ≠ d := ((b1.same s2).D.new n_l3).1
    refine ⟨_, rfl, a.T, _, rfl, .inl b3.s.t, fun l4 n_l4 => ?_⟩
    rw [keysK]
    obtain ⟨H4, e_H4, s4, r4⟩ := new_any n_l4
    rw [← e_H4]
    clear e_H4
    refine ⟨l4, S.there.map (·.1), rfl, SqL.of r4, fun ns l5 pm rs5 n_l5 => ?_⟩
    obtain ⟨H5, e_H5, s5, r5⟩ := new_any n_l5
    rw [← e_H5]
    clear e_H5
    have n5d : l5 ≠ d := ((b3.same s4).D.new n_l5).1
    have b5 := (b3.same s4).same s5
    have r35 := s5 _ _ (s4 _ _ r3)
    have hk5 : ∀ (i : Nat) (v : V) (k : Int × Int), ys[i]? = some v → ks[i]? = some k → WtAt H5 v k := fun i v k z1 z2 => (hk3 i v k z1 z2).tk (TK.of (s4.trans s5))
    have lns : ns.length = S.there.length := by rw [pm.length_eq, List.length_map]
    have lns' : (ns.map V.int).length = S.there.length := by rw [List.length_map, lns]
    have lt30 : S.there.length ≤ 30 := Nat.le_trans hp.z.t hi
    have lks : ys.length ≤ 30 := by
      rw [lk, pmk.length_eq, List.length_map]
      exact Nat.le_trans hp.z.p hi
    have hns : ∀ z ∈ ns, in5 z := fun z hz => hp.h z (mem_keys.mp (pm.mem_iff.mp hz))
    have hks : ∀ k ∈ ks, ∃ x, lookP S.posts k = some x ∧ in5 k.1 ∧ (0 ≤ k.2 ∧ k.2 ≤ 3 * (i : Int)) ∧ (∀ h ∈ x.2.2, in5 h) ∧ txt x.2.1 := fun q hq => by
      obtain ⟨e, he, rfl⟩ := List.mem_map.mp (pmk.mem_iff.mp hq)
      have le := lookP_of_mem hp.z.np (k := e.1) (v := e.2) he
      exact ⟨e.2, le, hp.k _ _ le⟩
    clear p1 p2 r2 r4 ik kb hk hk3 r3 s2 s3 s4 s5 n_l2 n_l3 n_l4 n_l5 b1 b3 k1 D1
    dsimp only [gName, List.set]
    refine seq_or (fun H' => NR H H' d cs (n + 1) H0 a S) ?come (fun come => ?_)
    case come =>
      intro H6 b6
      refine ⟨_, rfl, d, cs, 5, _, rfl, by decide, by decide, by omega, b6.D, fun hh H7 z0 z1 k7 D7 t7 => ?_⟩
      have b7 := b6.call h0 k7 D7
      refine ⟨(by show 3 ≤ sizeLine; decide), fun l n_l => ?_⟩
      obtain ⟨H8, e_H8, s8, r8⟩ := new_any n_l
      rw [← e_H8]
      clear e_H8
      have b8 := b7.same s8
      have nld : l ≠ d := (b7.D.new n_l).1
      refine ⟨_, rfl, d, cs, 3, _, rfl, by decide, by decide, by omega, b8.D, fun r2 H9 r20 r21 k9 D9 t9 => ?_⟩
      have b9 := b8.call h0 k9 D9
      obtain ⟨so, hat, so2⟩ : ∃ so : Str, atI [V.str "hand", .str "hand", .str "alias"] r2 = some (.str so) ∧ (so = ("hand" : Str) ∨ so = ("alias" : Str)) := by
        have h : r2 = 0 ∨ r2 = 1 ∨ r2 = 2 := by omega
        rcases h with rfl | rfl | rfl
        · exact ⟨_, rfl, .inl rfl⟩
        · exact ⟨_, rfl, .inl rfl⟩
        · exact ⟨_, rfl, .inr rfl⟩
      refine ⟨l, _, r2, _, rfl, rfl, SqL.of (k9 _ _ (nin1 nld) r8), hat, (by show 3 ≤ sizeLine; decide), fun q n_q => ?_⟩
      obtain ⟨H10, e_H10, s10, r10⟩ := new_any n_q
      rw [← e_H10]
      clear e_H10
      have b10 := b9.same s10
      exact k H10 q (.come hh so) b10.kp (b10.D.mono (by omega)) b10.s ⟨⟨z0, z1⟩, so2⟩ r10
    refine ⟨_, rfl, fun e n_e => ?_⟩
    obtain ⟨H6, e_H6, s6, r6⟩ := new_any n_e
    rw [← e_H6]
    clear e_H6
    have b6 := b5.same s6
    have r36 := s6 _ _ r35
    have r56 := s6 _ _ r5
    have hk6 : ∀ (i : Nat) (v : V) (k : Int × Int), ys[i]? = some v → ks[i]? = some k → WtAt H6 v k := fun i v k z1 z2 => (hk5 i v k z1 z2).tk (TK.of s6)
    refine ⟨a.T, e, _, rfl, rfl, b6.s.t, r6, _, rfl, iteP (fun c => iteT (come _ b6)) (fun c => ⟨_, rfl, rfl, _, rfl, iteI (fun c2 => come _ b6) (fun c2 => ?_)⟩)⟩
    have pos : 0 < S.there.length := by
      rw [gK_len] at c
      omega
    clear come r35 r5 hk5 b5 r6 n_e s6
    refine ⟨_, rfl, rfl, _, rfl, iteI (fun c1 => ?_) (fun c1 => ?_)⟩
    · refine ⟨_, rfl, _, rfl, d, cs, _, l5, _, rfl, by omega, b6.D, r56, n5d, by omega, by omega, fun j x H7 ex k7 D7 t7 => ?_⟩
      have b7 := b6.call h0 k7 D7
      obtain ⟨z, mz, rfl⟩ : ∃ z ∈ ns, x = .int z := by
        rw [List.getElem?_map] at ex
        obtain ⟨z, ez, rfl⟩ := Option.map_eq_some_iff.mp ex
        exact ⟨z, List.mem_of_getElem? ez, rfl⟩
      refine ⟨(by show 2 ≤ sizeLine; decide), fun q n_q => ?_⟩
      obtain ⟨H8, e_H8, s8, r8⟩ := new_any n_q
      rw [← e_H8]
      clear e_H8
      have b8 := b7.same s8
      exact k H8 q (.go z) b8.kp (b8.D.mono (by omega)) b8.s (hns z mz) r8
    dsimp only [tNext]
    refine seq_or (fun H' => NR H H' d cs (n + 1) H0 a S ∧ H' l3 = some (.lst ys) ∧ H' l5 = some (.lst (ns.map V.int)) ∧ ∀ (i : Nat) (v : V) (k : Int × Int), ys[i]? = some v → ks[i]? = some k → WtAt H' v k) ?send (fun send => ?_)
    case send =>
      rintro H7 ⟨b7, r37, r57, hk7⟩
      refine ⟨_, rfl, _, rfl, d, cs, _, l5, _, rfl, by omega, b7.D, r57, n5d, by omega, by omega, fun j x H8 ex k8 D8 t8 => ?_⟩
      have b8 := b7.call h0 k8 D8
      obtain ⟨z, mz, rfl⟩ : ∃ z ∈ ns, x = .int z := by
        rw [List.getElem?_map] at ex
        obtain ⟨z, ez, rfl⟩ := Option.map_eq_some_iff.mp ex
        exact ⟨z, List.mem_of_getElem? ez, rfl⟩
      have r38 := k8 _ _ (nin1 n3d) r37
      have r58 := k8 _ _ (nin1 n5d) r57
      refine ⟨(by show 1 ≤ sizeLine; decide), fun l9 n_l9 => ?_⟩
      obtain ⟨H9, e_H9, s9, r9⟩ := new_any n_l9
      rw [← e_H9]
      clear e_H9
      have r39 := s9 _ _ r38
      have hk9 : ∀ (i : Nat) (v : V) (k : Int × Int), ys[i]? = some v → ks[i]? = some k → WtAt H9 v k := fun i v k z1 z2 => ((hk7 i v k z1 z2).tk t8).tk (TK.of s9)
      refine ⟨_, rfl, l3, rfl, ⟨_, SqL.of r39⟩, fun D' nD => ?_⟩
      have lz : (ys.zip ks).length = ys.length := by rw [List.length_zip]; omega
      refine comp_ls (L := ys.zip ks) ((walk_list (K := K) (a := l3) (xs := ys)).cast lz.symm) (fun H' s' => SqL.of (s' _ _ r39)) (fun e => decide (e.2.1 = z)) (fun e => .int e.2.2) nD (by omega) ?_ ?_
      · rintro j e v H' H'' Q' N' hj s' ⟨rfl, hv⟩ hQ hN
        rw [List.getElem?_zip_eq_some] at hj
        rw [hj.1] at hv
        cases hv
        obtain ⟨b, ev, hb⟩ := hk9 j _ _ hj.1 hj.2
        have hb := s' _ _ hb
        rw [ev]
        refine ⟨rfl, _, rfl, b, _, 0, _, rfl, rfl, SqT.of hb, atI_nat (j := 0) rfl, _, rfl, rfl, _, rfl, iteI (fun e1 => ?_) (fun e1 => hN (decide_eq_false e1) _ (L2.Same.refl _))⟩
        exact ⟨_, rfl, b, _, 1, _, rfl, rfl, SqT.of hb, atI_nat (j := 1) rfl, hQ (decide_eq_true e1) _ (L2.Same.refl _)⟩
      intro H10 s10 hD
      refine ⟨l9, D', _, _, rfl, rfl, s10 _ _ r9, hD, ?_, fun l11 n_l11 => ?_⟩
      · have := List.length_filter_le (fun e : V × (Int × Int) => decide (e.2.1 = z)) (ys.zip ks)
        exact le_line (by rw [List.length_map, List.length_singleton]; omega)
      obtain ⟨H11, e_H11, s11, r11⟩ := new_any n_l11
      rw [← e_H11]
      clear e_H11
      refine ⟨l11, 0 :: ((ys.zip ks).filter fun e => decide (e.2.1 = z)).map (fun e => e.2.2), rfl, SqL.of (by rw [r11, List.map_cons, List.map_map]; rfl), Nat.succ_pos _, fun mx mm ub => ?_⟩
      have mx0 : 0 ≤ mx ∧ mx ≤ 3 * (i : Int) := by
        rcases List.mem_cons.mp mm with rfl | mm
        · omega
        · obtain ⟨e, he, rfl⟩ := List.mem_map.mp mm
          have he := (List.mem_filter.mp he).1
          obtain ⟨_, _, _, g, _⟩ := hks e.2 (List.of_mem_zip he).2
          exact g
      have b11 := ((b8.same s9).same s10).same s11
      have r511 := s11 _ _ (s10 _ _ (s9 _ _ r58))
      clear r38 r58 r39 hk9 r9 hD r11 mm ub s9 s10 s11
      dsimp only [gName, List.set]
      refine seq_mid (fun x H' => ∃ num, x = .int num ∧ (0 ≤ num ∧ num ≤ 3 * (i : Int) + 3) ∧ NR H H' d cs (n + 6) H0 a S ∧ H' l5 = some (.lst (ns.map V.int))) ?num (fun num => ?_)
      case num =>
        rintro x H12 ⟨num, rfl, hn2, b12, r512⟩
        refine ⟨_, rfl, d, cs, 5, _, rfl, by decide, by decide, by omega, b12.D, fun r4 H13 r40 r41 k13 D13 t13 => ?_⟩
        have b13 := b12.call h0 k13 D13
        have r513 := k13 _ _ (nin1 n5d) r512
        refine ⟨_, rfl, _, rfl, d, cs, _, l5, _, rfl, by omega, b13.D, r513, n5d, by omega, by omega, fun j x H14 ex k14 D14 t14 => ?_⟩
        have b14 := b13.call h0 k14 D14
        obtain ⟨y, my, rfl⟩ : ∃ z ∈ ns, x = .int z := by
          rw [List.getElem?_map] at ex
          obtain ⟨z, ez, rfl⟩ := Option.map_eq_some_iff.mp ex
          exact ⟨z, List.mem_of_getElem? ez, rfl⟩
        refine ⟨(by show 3 ≤ sizeLine; decide), fun l15 n_l15 => ?_⟩
        obtain ⟨H15, e_H15, s15, r15⟩ := new_any n_l15
        rw [← e_H15]
        clear e_H15
        have b15 := b14.same s15
        have nld : l15 ≠ d := (b14.D.new n_l15).1
        refine ⟨_, rfl, d, cs, 3, _, rfl, by decide, by decide, by omega, b15.D, fun r5 H16 r50 r51 k16 D16 t16 => ?_⟩
        have b16 := b15.call h0 k16 D16
        obtain ⟨aim, hat, aok⟩ : ∃ aim : Option Int, atI [V.non, .int r4, .int y] r5 = some (aimV aim) ∧ ∀ j, aim = some j → in5 j := by
          have h : r5 = 0 ∨ r5 = 1 ∨ r5 = 2 := by omega
          rcases h with rfl | rfl | rfl
          · exact ⟨none, rfl, fun j e => by cases e⟩
          · exact ⟨some r4, rfl, fun j e => by cases e; exact ⟨r40, r41⟩⟩
          · exact ⟨some y, rfl, fun j e => by cases e; exact hns y my⟩
        refine ⟨l15, _, r5, _, rfl, rfl, SqL.of (k16 _ _ (nin1 nld) r15), hat, ?_⟩
        dsimp only [gName, List.set]
        refine ⟨_, rfl, _, rfl, _, rfl, (by show 4 ≤ sizeLine; decide), fun l17 n_l17 => ?_⟩
        obtain ⟨H17, e_H17, s17, r17⟩ := new_any n_l17
        rw [← e_H17]
        clear e_H17
        have b17 := b16.same s17
        have nld2 : l17 ≠ d := (b16.D.new n_l17).1
        refine ⟨_, rfl, d, cs, 4, _, rfl, by decide, by decide, by omega, b17.D, fun r6 H18 r60 r61 k18 D18 t18 => ?_⟩
        have b18 := b17.call h0 k18 D18
        obtain ⟨tx, hat2, ltx⟩ : ∃ tx : Str, atI [V.str "", .str "a", .str ".ab", .str "!"] r6 = some (.str tx) ∧ txt tx := by
          have h : r6 = 0 ∨ r6 = 1 ∨ r6 = 2 ∨ r6 = 3 := by omega
          rcases h with rfl | rfl | rfl | rfl <;> exact ⟨_, rfl, by decide, by decide +kernel⟩
        refine ⟨l17, _, r6, _, rfl, rfl, SqL.of (k18 _ _ (nin1 nld2) r17), hat2, (by show 5 ≤ sizeLine; decide), fun q n_q => ?_⟩
        obtain ⟨H19, e_H19, s19, r19⟩ := new_any n_q
        rw [← e_H19]
        clear e_H19
        have b19 := b18.same s19
        exact k H19 q (.send z num aim tx) b19.kp (b19.D.mono (by omega)) b19.s ⟨hns z mz, hn2, aok, ltx⟩ r19
      refine ⟨_, rfl, _, _, rfl, rfl, _, rfl, d, cs, 3, _, rfl, by decide, by decide, by omega, b11.D, fun r3 H12 r30 r31 k12 D12 t12 => ?_⟩
      have b12 := b11.call h0 k12 D12
      have r512 := k12 _ _ (nin1 n5d) r511
      refine ⟨_, _, rfl, rfl, ?_⟩
      cases sp with
      | false => exact ⟨_, rfl, false, rfl, iteF (.inr ⟨false, rfl, _, _, rfl, rfl, num _ _ ⟨_, rfl, ⟨by simp; omega, by simp; omega⟩, ⟨b12.kp, b12.D.mono (by omega), b12.s⟩, r512⟩⟩)⟩
      | true =>
        refine ⟨_, rfl, true, rfl, iteT ⟨_, rfl, d, cs, 4, _, rfl, by decide, by decide, by omega, b12.D, fun r4 H13 r40 r41 k13 D13 t13 => ?_⟩⟩
        have b13 := b12.call h0 k13 D13
        have r513 := k13 _ _ (nin1 n5d) r512
        refine ⟨rfl, .inr ⟨_, rfl, _, _, rfl, rfl, num _ _ ⟨_, rfl, ?_, ⟨b13.kp, b13.D.mono (by omega), b13.s⟩, r513⟩⟩⟩
        constructor <;> split <;> omega
    have fr := b6
    refine ⟨_, rfl, Nat.zero_le _, fun l7 n_l7 => ?_⟩
    obtain ⟨H7, e_H7, s7, r7⟩ := new_any n_l7
    rw [← e_H7]
    clear e_H7
    have b7 := b6.same s7
    have r37 := s7 _ _ r36
    have r57 := s7 _ _ r56
    have hk7 : ∀ (i : Nat) (v : V) (k : Int × Int), ys[i]? = some v → ks[i]? = some k → WtAt H7 v k := fun i v k z1 z2 => (hk6 i v k z1 z2).tk (TK.of s7)
    refine ⟨.list (ks.map prD), .list [], .lst (SqL.of r37) (wts_dp lk hk7), .lst (SqL.of r7) .nil, Shp.ok (n := 2) (Shp.lst (Shp.map fun e => prD_shp e)) (by decide), rfl, _, rfl, ?_⟩
    rw [lst_eqv]
    refine iteP (fun _ => send _ ⟨b7, r37, r57, hk7⟩) fun kne => ⟨_, rfl, _, _, rfl, rfl, _, rfl, iteP (fun _ => send _ ⟨b7, r37, r57, hk7⟩) fun _ => ?_⟩
    clear send r36 r56 hk6 fr b6 s7 n_l7 r7
    have kpos : 0 < ys.length := by
      rw [lk]
      exact List.length_pos_iff.mpr kne
    dsimp only [tNext]
    refine ⟨_, rfl, _, rfl, d, cs, _, l3, _, rfl, by omega, b7.D, r37, n3d, kpos, by omega, fun j x H8 ex k8 D8 t8 => ?_⟩
    have b8 := b7.call h0 k8 D8
    have r58 := k8 _ _ (nin1 n5d) r57
    have jl : j < ks.length := by
      rw [← lk]
      exact (List.getElem?_eq_some_iff.mp ex).1
    obtain ⟨T, rfl, hT⟩ := (hk7 j x ks[j] ex (List.getElem?_eq_getElem jl)).tk t8
    obtain ⟨pst, hps, q1, q2, q3, q4⟩ := hks ks[j] (List.getElem_mem jl)
    generalize ks[j] = key at hT hps q1 q2
    dsimp only [gName, List.set]
    refine ⟨_, rfl, rfl, _, rfl, iteI (fun c5 => ?_) (fun c5 => ?_)⟩
    · refine ⟨(by show 1 ≤ sizeLine; decide), fun t9 n_t9 => ?_⟩
      obtain ⟨H9, e_H9, s9, r9⟩ := new_any n_t9
      rw [← e_H9]
      clear e_H9
      refine ⟨_, rfl, catA_new (zs := [.str "lose", .int key.1, .int key.2]) r9 (s9 _ _ hT) (List.cons_ne_nil _ _) (List.cons_ne_nil _ _) (by show 3 ≤ sizeLine; decide) rfl fun q n_q => ?_⟩
      obtain ⟨H10, e_H10, s10, r10⟩ := new_any n_q
      rw [← e_H10]
      clear e_H10
      have b10 := (b8.same s9).same s10
      exact k H10 q (.lose key.1 key.2) b10.kp (b10.D.mono (by omega)) b10.s ⟨q1, q2⟩ r10
    dsimp only [tNext]
    refine ⟨_, rfl, _, rfl, d, cs, _, l5, _, rfl, by omega, b8.D, r58, n5d, by omega, by omega, fun j2 x2 H9 ex2 k9 D9 t9 => ?_⟩
    obtain ⟨z, mz, rfl⟩ : ∃ z ∈ ns, x2 = .int z := by
      rw [List.getElem?_map] at ex2
      obtain ⟨z, ez, rfl⟩ := Option.map_eq_some_iff.mp ex2
      exact ⟨z, List.mem_of_getElem? ez, rfl⟩
    have b9 := b8.call h0 k9 D9
    have hT9 := t9.1 _ _ hT
    dsimp only [gName, List.set]
    refine seq_if (fun σ' H' => ∃ hand, in5 hand ∧ σ' = [some (.ref d), some (.ref a.l), some (.bl sp), some (.ref a.T), some (.ref a.P), some (.int way), some (.ref l3), some (.ref l5), none, none, none, none, some (.ref T), some (.int hand)] ∧ NR H H' d cs (n + 7) H0 a S ∧ TK H9 H') ?rest (fun rest => ?_)
    case rest =>
      rintro σ' H10 ⟨hand, hh, rfl, b10, t10⟩
      have hT10 := t10.1 _ _ hT9
      refine ⟨_, rfl, (by show 2 ≤ sizeLine; decide), fun t11 n_t11 => ?_⟩
      obtain ⟨H11, e_H11, s11, r11⟩ := new_any n_t11
      rw [← e_H11]
      clear e_H11
      refine ⟨_, rfl, catA_new (zs := [.str "hear", .int hand, .int key.1, .int key.2]) r11 (s11 _ _ hT10) (List.cons_ne_nil _ _) (List.cons_ne_nil _ _) (by show 4 ≤ sizeLine; decide) rfl fun t12 n_t12 => ?_⟩
      obtain ⟨H12, e_H12, s12, r12⟩ := new_any n_t12
      rw [← e_H12]
      clear e_H12
      have b12 := (b10.same s11).same s12
      have hT12 := s12 _ _ (s11 _ _ hT10)
      obtain ⟨as, p1, p2⟩ := b12.s.p
      have gp := DGet.t (k := pk key) p1 hT12
      obtain ⟨b, eb, b0, du, du0, hb, hdu⟩ := p2.get hps
      rw [valV_gA, eb] at gp
      refine ⟨_, rfl, _, rfl, a.P, _, rfl, gp, b, _, 1, _, rfl, rfl, SqT.of hb, atI_nat (j := 1) rfl, (by show 1 ≤ sizeLine; decide), fun t13 n_t13 => ?_⟩
      obtain ⟨H13, e_H13, s13, r13⟩ := new_any n_t13
      rw [← e_H13]
      clear e_H13
      refine catA_new (zs := rwV (.hear hand key.1 key.2 pst.2.1)) (s13 _ _ r12) r13 (List.cons_ne_nil _ _) (List.cons_ne_nil _ _) (by show 5 ≤ sizeLine; decide) rfl fun q n_q => ?_
      obtain ⟨H14, e_H14, s14, r14⟩ := new_any n_q
      rw [← e_H14]
      clear e_H14
      have b14 := (b12.same s13).same s14
      exact k H14 q (.hear hand key.1 key.2 pst.2.1) b14.kp (b14.D.mono (by omega)) b14.s ⟨hh, q1, q2, q4⟩ r14
    obtain ⟨as, p1, p2⟩ := b9.s.p
    have gp := DGet.t (k := pk key) p1 hT9
    obtain ⟨b, eb, b0, du, du0, hb, hdu⟩ := p2.get hps
    rw [valV_gA, eb] at gp
    refine ⟨_, rfl, _, rfl, a.P, _, rfl, gp, b, _, 2, _, rfl, rfl, SqT.of hb, atI_nat (j := 2) rfl, Nat.zero_le _, fun l10 n_l10 => ?_⟩
    obtain ⟨H10, e_H10, s10, r10⟩ := new_any n_l10
    rw [← e_H10]
    clear e_H10
    have b10 := b9.same s10
    refine ⟨_, _, .lst (SqL.of (s10 _ _ hdu)) (dp_ints _), .lst (SqL.of r10) .nil, Shp.ok (n := 2) (Shp.lst (Shp.map fun _ => Shp.int)) (by decide), rfl, _, rfl, ?_⟩
    rw [lst_eqv]
    refine iteNP (fun dne => ?_) fun _ => iteF (rest _ _ ⟨z, hns z mz, rfl, ⟨b10.kp, b10.D.mono (by omega), b10.s⟩, TK.of s10⟩)
    refine ⟨_, rfl, d, cs, 4, _, rfl, by decide, by decide, by omega, b10.D, fun r11 H11 r110 r111 k11 D11 t11 => ?_⟩
    have b11 := b10.call h0 k11 D11
    have t911 : TK H9 H11 := (TK.of s10).trans t11
    refine ⟨_, _, rfl, rfl, _, rfl, iteP (fun _ => ?_) fun _ => rest _ _ ⟨z, hns z mz, rfl, ⟨b11.kp, b11.D.mono (by omega), b11.s⟩, t911⟩⟩
    obtain ⟨as', p1', p2'⟩ := b11.s.p
    have hT11 := t911.1 _ _ hT9
    have gp' := DGet.t (k := pk key) p1' hT11
    obtain ⟨b', eb', b0', du', du0', hb', hdu'⟩ := p2'.get hps
    rw [valV_gA, eb'] at gp'
    have ndu : du' ≠ d := fun z => by rw [z] at du0'; exact h0 du0'
    have ldu : 0 < pst.2.2.length := List.length_pos_iff.mpr dne
    have ldu2 : pst.2.2.length ≤ 30 := Nat.le_trans (hp.z.d _ _ hps) hi
    refine ⟨_, rfl, _, rfl, _, rfl, a.P, _, rfl, gp', b', _, 2, _, rfl, rfl, SqT.of hb', atI_nat (j := 2) rfl, d, cs, _, du', _, rfl, by omega, b11.D, hdu', ndu, by rw [List.length_map]; omega, by rw [List.length_map]; omega, fun j3 x3 H12 ex3 k12 D12 t12 => ?_⟩
    obtain ⟨z3, mz3, rfl⟩ : ∃ z ∈ pst.2.2, x3 = .int z := by
      rw [List.getElem?_map] at ex3
      obtain ⟨z, ez, rfl⟩ := Option.map_eq_some_iff.mp ex3
      exact ⟨z, List.mem_of_getElem? ez, rfl⟩
    have b12 := b11.call h0 k12 D12
    exact rest _ _ ⟨z3, q3 z3 mz3, rfl, ⟨b12.kp, b12.D.mono (by omega), b12.s⟩, t911.trans t12⟩
theorem scPaper : FnScope ["_law_deck_here", "_law_kind", "_law_spoil", "_law_stands", "_law_rows", "_law_k", "_law_row", "_law_fine", "_law_key", "_law_hand", "_law_waiting"] ["_law_deck_here", "_law_kind", "_law_spoil"] (defScope sPaper) := ⟨rfl, rfl, rfl, by decide +kernel, rfl, by decide +kernel, by decide +kernel⟩
theorem ok_paper {f : Addr} {fd : FuncData} (F : Fun K "_law_paper" "_law_paper" sPaper f fd) (B : KB6 mg) (cN : Cd P w K mg base 2 "_law_next" ["_law_deck_here", "_law_many"] spNext4) (cX : Cd P w K mg base 4 "_law_next_row" ["_law_deck_here", "_law_stands", "_law_spoil"] spNextR) (cR : Cd P w K mg base 2 "_law_row_right" ["_law_kind", "_law_row", "_law_stands"] spRowR) : FnOk P w K mg base CX0 5 f fd ["_law_deck_here", "_law_kind", "_law_spoil"] spPaper := by
  obtain ⟨fN, fdN, GN, mN, kN, bN⟩ := cN.tk
  obtain ⟨fX, fdX, GX, mX, kX, bX⟩ := cX.tk
  obtain ⟨fR, fdR, GR, mR, kR, bR⟩ := cR.tk
  refine F.ok scPaper (fun vs H Q E h => ?_) (fun cdv A outer s H vs Q E hr h => ?_)
  · obtain ⟨d, cs, n, κ, sp, rfl, _⟩ := h
    rfl
  · obtain ⟨d, cs, n, κ, sp, rfl, D, hn, k⟩ := h
    have hu := hu_of hr
    have hr2 : Room 2 _ := hr.mono (by decide)
    have hr4 : Room 4 _ := hr.mono (by decide)
    refine ⟨_, (pss_cons (ps_set (i := 3) scPaper.nd rfl (Or.inl rfl) (pe_lst (pa_cons pe_dnewK (pa_cons pe_dnewT (pa_cons pe_dnewT (pa_cons pe_dnewT (pa_cons pe_dnewK pa_nil)))))))
       (pss_cons (ps_set (i := 4) scPaper.nd rfl (Or.inl rfl) (pe_lst pa_nil))
       (pss_cons (ps_for PassesOwn.never rfl (pi_range1 rfl B.range (pa_cons (pe_op op_add pe_int (pe_call GN hr2 rfl mN kN bN .nil pass0 (pa_cons (pv 0) (pa_cons pe_int pa_nil)))) pa_nil)) (pg_name (i := 5) scPaper.nd rfl (Or.inl rfl))
       (pss_cons (ps_set (i := 6) scPaper.nd rfl (Or.inl rfl) (pe_call GX hr4 rfl mX kX bX .nil pass0 (pa_cons (pv 0) (pa_cons (pv 3) (pa_cons (pv 2) pa_nil)))))
       (pss_cons (ps_set (i := 7) scPaper.nd rfl (Or.inl rfl) (pe_call GR hr2 rfl mR kR bR .nil pass0 (pa_cons (pv 1) (pa_cons (pv 6) (pa_cons (pv 3) pa_nil)))))
       (pss_one (ps_if (PW.pt (pw_or (pt_val (pv 7)) (pw_or1 (PW.pt (pw_and (pt_val (pv 2)) (pw_and1 (pt_cmpR op_eq (pe_call GN hr2 rfl mN kN bN .nil pass0 (pa_cons (pv 0) (pa_cons pe_int pa_nil))) pe_int (nomark _))))))))
       (pss_one (ps_expr (pe_bm PySem.F.plainAttrs_list PySem.F.slot_list_append PySem.F.type_list_append mt_append (pv 4) (pa_cons (pv 6) pa_nil))))
       pss_nil)))))
       (pss_cons (ps_for PassesOwn.never rfl (pi_list (pe_callB (sortUK (K := K) (d := 2) (B := 1000) rfl (by decide)) (by rfl) B.sorted (by decide +kernel) (pa_cons (pe_callTy (call_list_dT rfl) (by rfl) B.list (by decide +kernel) (pa_cons (pe_ix (ixL (K := K) rfl) (pv 3) pe_int (fun _ _ => rfl)) pa_nil)) pa_nil))) (pg_name (i := 8) scPaper.nd rfl (Or.inl rfl))
       (pss_one (ps_for PassesOwn.never rfl (pi_list (pe_ix (ixT (K := K) rfl) (pe_dget hu (pe_ix (ixL (K := K) rfl) (pv 3) pe_int (fun _ _ => rfl)) (pv 8) (fun _ _ => rfl)) pe_int (fun _ _ => rfl))) (pg_name (i := 9) scPaper.nd rfl (Or.inl rfl))
       (pss_cons (ps_set (i := 6) scPaper.nd rfl (Or.inl rfl) (pe_op (opCatA (K := K) rfl) (pe_op (opCatA (K := K) rfl) (pe_tup (pa_cons pe_str (pa_cons (pv 9) pa_nil))) (pv 8)) (pe_tup (pa_cons (pe_ix (ixT (K := K) rfl) (pe_dget hu (pe_ix (ixL (K := K) rfl) (pv 3) pe_int (fun _ _ => rfl)) (pv 8) (fun _ _ => rfl)) pe_int (fun _ _ => rfl)) pa_nil))))
       (pss_one (ps_if (PW.pt (pw_and (pt_cmpR op_gt (pe_call GN hr2 rfl mN kN bN .nil pass0 (pa_cons (pv 0) (pa_cons pe_int pa_nil))) pe_int (nomark _)) (pw_and1 (pt_val (pe_call GR hr2 rfl mR kR bR .nil pass0 (pa_cons (pv 1) (pa_cons (pv 6) (pa_cons (pv 3) pa_nil))))))))
       (pss_one (ps_expr (pe_bm PySem.F.plainAttrs_list PySem.F.slot_list_append PySem.F.type_list_append mt_append (pv 4) (pa_cons (pv 6) pa_nil))))
       pss_nil))))))
       (pss_cons (ps_setLc (i := 10) (own := [("_law_key", 8)]) (g := (gName 8)) (tt := _) rfl scPaper.nd rfl rfl (sw_true rfl rfl rfl (by decide +kernel)) (pi_list (pe_callB (sortUK (K := K) (d := 2) (B := 1000) rfl (by decide)) (by rfl) B.sorted (by decide +kernel) (pa_cons (pe_callTy (call_list_dT rfl) (by rfl) B.list (by decide +kernel) (pa_cons (pe_ix (ixL (K := K) rfl) (pv 3) pe_int (fun _ _ => rfl)) pa_nil)) pa_nil))) (blkOk_by (N := ["_law_deck_here", "_law_kind", "_law_spoil", "_law_stands", "_law_rows", "_law_k", "_law_row", "_law_fine", "_law_key", "_law_hand", "_law_waiting"]) (sc := defScope sPaper) (by decide +kernel))
       (fun _ _ _ _ _ => (pg_name (i := 8) scPaper.nd rfl (Or.inl rfl))) (fun _ _ _ _ _ => (pts_one (pt_cmpR op_eq (pe_call GN hr2 rfl mN kN bN .nil pass0 (pa_cons (pv 0) (pa_cons pe_int pa_nil))) pe_int (nomark _)))) (fun _ _ _ _ _ => (pv 8)))
       (pss_one (ps_ret (pe_tup (pa_cons (pe_callTy (tupOfK (K := K) rfl) (by rfl) B.tuple PyProof.Rows.boot_tuple (pa_cons (pv 4) pa_nil)) (pa_cons (pe_callTy (tupOfK (K := K) rfl) (by rfl) B.tuple PyProof.Rows.boot_tuple (pa_cons (pv 10) pa_nil)) pa_nil)))))))))), ?_⟩
    refine seq_set (stands_new fun H1 a h1 s1 => ?_)
    refine ⟨Nat.zero_le _, fun ra n_ra => ?_⟩
    have h2 := h1.rebase (o := .lst []) n_ra
    have Bd : PBs H (upd H ra (.lst [])) d cs ra := by
      obtain ⟨z1, e1⟩ := D.l1
      obtain ⟨z2, e2⟩ := D.l2
      have n0 : H ra = none := n_same s1 n_ra
      have rd : ra ≠ d := fun z => by rw [z, e1] at n0; cases n0
      have rc : ra ≠ cs := fun z => by rw [z, e2] at n0; cases n0
      exact ⟨by rw [upd_ne rd.symm, e1]; exact Option.some_ne_none _, by rw [upd_ne rc.symm, e2]; exact Option.some_ne_none _, by rw [upd_same]; exact Option.some_ne_none _, fun x e => n_upd e, n0, rd, rc⟩
    generalize upd H ra (.lst []) = H0 at h2 Bd
    obtain ⟨H2, e2, s2, r2⟩ := new_any (o := .lst []) n_ra
    rw [← e2]
    rw [← e2] at h2
    clear e2
    have b2 : PP H H2 d cs n H0 a Sd.nil ra [] := ⟨Kp.of (s1.trans s2), (D.same s1).same s2, h2, ⟨[], r2, .nil⟩⟩
    clear h1 h2 s1 s2 r2 n_ra
    refine ⟨_, rfl, d, cs, 14, n, rfl, by decide, by decide, by omega, b2.D, fun r0 H3 r00 r01 k3 D3 t3 => ?_⟩
    have b3 := b2.call Bd k3 t3 D3
    refine ⟨_, _, rfl, rfl, _, rfl, by omega, by omega, ?_⟩
    refine for_range (lo := 0) (fun i σ H' => ∃ (v5 v6 v7 : Option V) (S : Sd) (rs : List Rw), σ = [some (.ref d), some (.str (jkS κ)), some (.bl sp), some (.ref a.l), some (.ref ra), v5, v6, v7, none, none, none] ∧ PP H H' d cs (n + 1 + 30 * i) H0 a S ra rs ∧ PSd S i ∧ rs.length ≤ i ∧ okR rs)
      ⟨_, _, _, Sd.nil, [], rfl, b3.mono (by omega), PSd.nil, Nat.le_refl _, fun r hr => by cases hr⟩ ?_ ?_
    · rintro i σ H4 hi ⟨v5, v6, v7, S, rs, rfl, b4, hp, lrs, okr⟩
      have hi : i < 17 := by omega
      refine ⟨_, rfl, _, rfl, _, rfl, d, cs, _, a, S, i, H0, sp, rfl, b4.D, by omega, b4.s, Bd.hd, hp, by omega, fun H5 q r k5 D5 h5 nx hq t5 => ?_⟩
      have b5 := b4.call Bd k5 t5 D5
      refine ⟨_, rfl, _, rfl, _, rfl, κ, q, a, S, i, H0, r, rfl, hq, b5.s, hp.z, by omega, fun H6 k6 h6 t6 => ?_⟩
      have b6 := b5.row Bd k6 t6 h6
      have hq6 := t6.1 _ _ hq
      have hp6 := hp.row (κ := κ) nx
      generalize (S.row κ r).2 = S6 at b6 hp6
      dsimp only [gName, List.set]
      refine if_or (fun H' => PP H H' d cs (n + 1 + 30 * i + 21) H0 a S6 ra rs ∧ H' q = some (.tup (rwV r))) (fun H' => PP H H' d cs (n + 1 + 30 * i + 21) H0 a S6 ra rs) ?app ?skip (fun app skip => ?_)
      case app =>
        rintro H7 ⟨b7, hq7⟩
        obtain ⟨xs, hx, dx⟩ := b7.r
        refine ⟨_, rfl, .inl ⟨rfl, _, SqL.of hx⟩, _, rfl, ra, _, _, rfl, rfl, hx, rows_len dx (by omega), ?_⟩
        exact ⟨_, _, _, S6, rs ++ [r], rfl, (b7.app Bd hx dx hq7).mono (by omega), hp6, by rw [List.length_append]; exact Nat.succ_le_succ lrs, okr.add nx.ok (nx.sm (by omega)) nx.h5⟩
      case skip =>
        intro H7 b7
        exact ⟨_, _, _, S6, rs, rfl, b7.mono (by omega), hp6, Nat.le_succ_of_le lrs, okr⟩
      refine ⟨_, rfl, _, rfl, iteB (fun _ => app _ ⟨b6.mono (by omega), hq6⟩) fun _ => ?_⟩
      refine ⟨_, rfl, _, rfl, iteB (fun _ => ?_) fun _ => iteF (skip _ (b6.mono (by omega)))⟩
      refine ⟨_, rfl, d, cs, 6, _, rfl, by decide, by decide, by omega, b6.D, fun r7 H7 r70 r71 k7 D7 t7 => ⟨rfl, _, rfl, ?_⟩⟩
      have b7 := b6.call Bd k7 t7 D7
      exact iteI (fun _ => app _ ⟨b7.mono (by omega), t7.1 _ _ hq6⟩) fun _ => skip _ (b7.mono (by omega))
    rintro σ H4 ⟨v5, v6, v7, S1, rs1, rfl, b4, hp1, lrs1, okr1⟩
    have i17 : (4 + r0).toNat ≤ 17 := by omega
    have e17 : (((4 + r0).toNat : Nat) : Int) ≤ 17 := by omega
    generalize (4 + r0).toNat = n1 at b4 hp1 lrs1 i17 e17
    have hp1 := hp1.mono i17
    have lrs1 := Nat.le_trans lrs1 i17
    have b4 := b4.mono (m' := n + 600) (by omega)
    clear b3 b2 t3 D3 k3
    -- what is told of the letters
    have kb : ∀ k ∈ S1.posts.map (·.1), (0 ≤ k.1 ∧ k.1 < 1000) ∧ 0 ≤ k.2 ∧ k.2 < 1000 := fun k hk => by
      obtain ⟨e, he, rfl⟩ := List.mem_map.mp hk
      obtain ⟨g1, g2, g3, g4⟩ := hp1.k e.1 e.2 (lookP_of_mem hp1.z.np he)
      exact ⟨⟨g1.1, by have := g1.2; omega⟩, g2.1, by have := g2.2; omega⟩
    have l64 : S1.posts.length < 64 := Nat.lt_of_le_of_lt hp1.z.p (by omega)
    have hkey : ∀ k ∈ S1.posts.map (·.1), ∃ x, lookP S1.posts k = some x ∧ in5 k.1 ∧ (0 ≤ k.2 ∧ k.2 ≤ 3 * ((17 : Nat) : Int)) ∧ (∀ h ∈ x.2.2, in5 h) ∧ x.2.2.length ≤ 17 ∧ txt x.2.1 := fun q hq => by
      obtain ⟨e, he, rfl⟩ := List.mem_map.mp hq
      have le := lookP_of_mem hp1.z.np (k := e.1) (v := e.2) he
      obtain ⟨g1, g2, g3, g4⟩ := hp1.k _ _ le
      exact ⟨e.2, le, g1, g2, g3, hp1.z.d _ _ le, g4⟩
    -- hears of all
    obtain ⟨as, p1, p2⟩ := b4.s.p
    refine ⟨_, rfl, a.l, _, 1, _, rfl, rfl, SqL.of b4.s.o, atI_nat (j := 1) rfl, a.P, _, rfl, .inl p1, fun l2 bs n_l2 ik => ?_⟩
    obtain ⟨H5, e_H5, s5, r5⟩ := new_any n_l2
    rw [← e_H5]
    clear e_H5
    dsimp only [tNil]
    refine sort_keys (ik_same s5 ik) p2 hp1.z.np kb l64 r5 fun ys l3 ks n_l3 pmk lt lk hk => ?_
    obtain ⟨H6, e_H6, s6, r6⟩ := new_any n_l3
    rw [← e_H6]
    clear e_H6
    have b6 := (b4.same s5).same s6
    have hk6 : ∀ (i : Nat) (v : V) (k : Int × Int), ys[i]? = some v → ks[i]? = some k → WtAt H6 v k := fun i v k z1 z2 => (hk i v k z1 z2).tk (TK.of s6)
    have f3 : H0 l3 = none := (b4.same s5).s.un _ n_l3
    have lys : ys.length ≤ 17 := by
      rw [lk, pmk.length_eq, List.length_map]
      exact hp1.z.p
    clear p1 p2 r5 ik hk s5 s6 n_l2 n_l3 b4 as bs
    refine ⟨l3, rfl, ⟨_, SqL.of r6⟩, ?_⟩
    refine for_list (K := K) (a := l3) (xs := ys) (D := ⟨_, _, fun _ _ => False, fun _ _ => False⟩) (fun j σ H' => ∃ (v5 v6 v7 v8 v9 : Option V) (S : Sd) (rs : List Rw), σ = [some (.ref d), some (.str (jkS κ)), some (.bl sp), some (.ref a.l), some (.ref ra), v5, v6, v7, v8, v9, none] ∧ PP H H' d cs (n + 600 + 20 * j) H0 a S ra rs ∧ S.posts = S1.posts ∧ S.Sz (17 + 17 * j) ∧ rs.length ≤ 17 + 17 * j ∧ okR rs ∧ H' l3 = some (.lst ys) ∧ ∀ (i : Nat) (v : V) (k : Int × Int), ys[i]? = some v → ks[i]? = some k → WtAt H' v k)
      ⟨_, _, _, _, _, S1, rs1, rfl, b6.mono (by omega), rfl, hp1.z.mono (by omega), by omega, okr1, r6, hk6⟩ (fun j σ H' _ ⟨_, _, _, _, _, _, _, _, _, _, _, _, _, z, _⟩ => SqL.of z) ?_ ?_
    · rintro j y σ H7 ey ⟨v5, v6, v7, v8, v9, S, rs, rfl, b7, eS, hz, lrs, okr, r7, hk7⟩
      have jl : j < ys.length := (List.getElem?_eq_some_iff.mp ey).1
      have jk : j < ks.length := by omega
      obtain ⟨T, rfl, hT⟩ := hk7 j y ks[j] ey (List.getElem?_eq_getElem jk)
      obtain ⟨pst, hps, q1, q2, q3, q4, q5⟩ := hkey ks[j] (pmk.mem_iff.mp (List.getElem_mem jk))
      generalize ks[j] = key at hT hps q1 q2
      rw [← eS] at hps
      obtain ⟨as, p1, p2⟩ := b7.s.p
      have gp := DGet.t (k := pk key) p1 hT
      obtain ⟨b, eb, b0, du, du0, hb, hdu⟩ := p2.get hps
      rw [valV_gA, eb] at gp
      have ndu : du ≠ d := fun z => by rw [z] at du0; exact Bd.hd du0
      have ndr : du ≠ ra := fun z => by rw [z] at du0; exact Bd.hr du0
      have n3r : l3 ≠ ra := fun z => by rw [z] at f3; exact Bd.hr f3
      have n3d : l3 ≠ d := fun z => by rw [z] at f3; exact Bd.hd f3
      dsimp only [gName, List.set]
      refine ⟨_, rfl, a.l, _, 1, _, rfl, rfl, SqL.of b7.s.o, atI_nat (j := 1) rfl, _, rfl, a.P, _, rfl, gp, b, _, 2, _, rfl, rfl, SqT.of hb, atI_nat (j := 2) rfl, du, rfl, ⟨_, SqL.of hdu⟩, ?_⟩
      have lm : (pst.2.2.map V.int).length = pst.2.2.length := List.length_map _
      refine for_list (K := K) (a := du) (xs := pst.2.2.map V.int) (fun jj σ H' => ∃ (v5 v6 v7 v9 : Option V) (S' : Sd) (rs : List Rw), σ = [some (.ref d), some (.str (jkS κ)), some (.bl sp), some (.ref a.l), some (.ref ra), v5, v6, v7, some (.ref T), v9, none] ∧ PP H H' d cs (n + 600 + 20 * j + jj) H0 a S' ra rs ∧ S'.posts = S1.posts ∧ S'.Sz (17 + 17 * j + jj) ∧ rs.length ≤ 17 + 17 * j + jj ∧ okR rs ∧ H' l3 = some (.lst ys) ∧ H' du = some (.lst (pst.2.2.map V.int)) ∧ TK H7 H')
        ⟨_, _, _, _, S, rs, rfl, b7.mono (by omega), eS, hz.mono (by omega), by omega, okr, r7, hdu, TK.refl _⟩ (fun j σ H' _ ⟨_, _, _, _, _, _, _, _, _, _, _, _, _, z, _⟩ => SqL.of z) ?_ ?_
      · rintro jj x σ H8 ex ⟨v5, v6, v7, v9, S', rs', rfl, b8, eS', hz', lrs', okr', r8, hdu8, t8⟩
        rw [List.getElem?_map] at ex
        obtain ⟨hh, ehh, rfl⟩ := Option.map_eq_some_iff.mp ex
        have jj17 : jj < pst.2.2.length := (List.getElem?_eq_some_iff.mp ehh).1
        have ih := q3 hh (List.mem_of_getElem? ehh)
        have hT8 := t8.1 _ _ hT
        dsimp only [gName, List.set]
        refine ⟨_, rfl, (by show 2 ≤ sizeLine; decide), fun t9 n_t9 => ?_⟩
        obtain ⟨H9, e_H9, s9, r9⟩ := new_any n_t9
        rw [← e_H9]
        clear e_H9
        refine ⟨_, rfl, catA_new (zs := [.str "hear", .int hh, .int key.1, .int key.2]) r9 (s9 _ _ hT8) (List.cons_ne_nil _ _) (List.cons_ne_nil _ _) (by show 4 ≤ sizeLine; decide) rfl fun t10 n_t10 => ?_⟩
        obtain ⟨H10, e_H10, s10, r10⟩ := new_any n_t10
        rw [← e_H10]
        clear e_H10
        have b10 := (b8.same s9).same s10
        have hT10 := s10 _ _ (s9 _ _ hT8)
        obtain ⟨as', p1', p2'⟩ := b10.s.p
        have gp' := DGet.t (k := pk key) p1' hT10
        obtain ⟨b', eb', b0', du', du0', hb', hdu'⟩ := p2'.get (show lookP S'.posts key = some pst by rw [eS', ← eS]; exact hps)
        rw [valV_gA, eb'] at gp'
        refine ⟨_, rfl, a.l, _, 1, _, rfl, rfl, SqL.of b10.s.o, atI_nat (j := 1) rfl, _, rfl, a.P, _, rfl, gp', b', _, 1, _, rfl, rfl, SqT.of hb', atI_nat (j := 1) rfl, (by show 1 ≤ sizeLine; decide), fun t11 n_t11 => ?_⟩
        obtain ⟨H11, e_H11, s11, r11⟩ := new_any n_t11
        rw [← e_H11]
        clear e_H11
        refine catA_new (zs := rwV (.hear hh key.1 key.2 pst.2.1)) (s11 _ _ r10) r11 (List.cons_ne_nil _ _) (List.cons_ne_nil _ _) (by show 5 ≤ sizeLine; decide) rfl fun q n_q => ?_
        obtain ⟨H12, e_H12, s12, r12⟩ := new_any n_q
        rw [← e_H12]
        clear e_H12
        have b12 := (b10.same s11).same s12
        have s8 := s9.trans (s10.trans (s11.trans s12))
        have t12 : TK H7 H12 := t8.trans (TK.of s8)
        have r312 := s8 _ _ r8
        have hdu12 := s8 _ _ hdu8
        clear p1' p2' gp' hb' hdu' r9 r10 r11 s9 s10 s11 s12 hT10
        dsimp only [gName, List.set]
        refine if_or (fun H' => ∃ S', PP H H' d cs (n + 600 + 20 * j + jj + 1) H0 a S' ra rs' ∧ S'.posts = S1.posts ∧ S'.Sz (17 + 17 * j + jj + 1) ∧ H' q = some (.tup (rwV (.hear hh key.1 key.2 pst.2.1))) ∧ H' l3 = some (.lst ys) ∧ H' du = some (.lst (pst.2.2.map V.int)) ∧ TK H7 H') (fun H' => ∃ S', PP H H' d cs (n + 600 + 20 * j + jj + 1) H0 a S' ra rs' ∧ S'.posts = S1.posts ∧ S'.Sz (17 + 17 * j + jj + 1) ∧ H' l3 = some (.lst ys) ∧ H' du = some (.lst (pst.2.2.map V.int)) ∧ TK H7 H') ?app2 ?skip2 (fun app skip => ?_)
        case app2 =>
          rintro H13 ⟨S'', b13, eS'', hz'', hq13, r13, hd13, t13⟩
          obtain ⟨xs, hx, dx⟩ := b13.r
          refine ⟨_, rfl, .inl ⟨rfl, _, SqL.of hx⟩, _, rfl, ra, _, _, rfl, rfl, hx, rows_len dx (by omega), ?_⟩
          refine ⟨_, _, _, _, S'', rs' ++ [_], rfl, (b13.app Bd hx dx hq13).mono (by omega), eS'', hz'', by rw [List.length_append]; exact Nat.succ_le_succ lrs', okr'.add ?_ ?_ ⟨ih, q1⟩, (upd_ne n3r).trans r13, (upd_ne ndr).trans hd13, t13.trans ((TK.refl _).wr hx rfl)⟩
          · exact ⟨ih.1, q1.1, q2.1⟩
          · have e1 := ih.2
            have e2 := q1.2
            have e3 := q2.2
            have e4 := q5.1
            exact ⟨by omega, by omega, by omega, by omega, q5.2⟩
        case skip2 =>
          rintro H13 ⟨S'', b13, eS'', hz'', r13, hd13, t13⟩
          exact ⟨_, _, _, _, S'', rs', rfl, b13.mono (by omega), eS'', hz'', Nat.le_succ_of_le lrs', okr', r13, hd13, t13⟩
        refine ⟨_, rfl, d, cs, 3, _, rfl, by decide, by decide, by omega, b12.D, fun r3 H13 r30 r31 k13 D13 t13 => ?_⟩
        have b13 := b12.call Bd k13 t13 D13
        have hq13 := t13.1 _ _ r12
        refine ⟨_, _, rfl, rfl, _, rfl, iteP (fun _ => ?_) fun _ => skip _ ⟨S', b13.mono (by omega), eS', hz'.mono (by omega), k13 _ _ (nin1 n3d) r312, k13 _ _ (nin1 ndu) hdu12, t12.trans t13⟩⟩
        refine ⟨_, rfl, _, rfl, _, rfl, κ, q, a, S', 17 + 17 * j + jj, H0, _, rfl, hq13, b13.s, hz', by omega, fun H14 k14 h14 t14 => ?_⟩
        have b14 := b13.row Bd k14 t14 h14
        have hz14 := hz'.row (κ := κ) (.hear hh key.1 key.2 pst.2.1)
        have eS14 := (hear_posts (κ := κ) (S := S') (h := hh) (s := key.1) (m := key.2) (t := pst.2.1)).trans eS'
        have n3w := b13.s.nin_l (k13 _ _ (nin1 n3d) r312)
        have nduw := b13.s.nin_l (k13 _ _ (nin1 ndu) hdu12)
        have r314 := k14 _ _ n3w (k13 _ _ (nin1 n3d) r312)
        have hdu14 := k14 _ _ nduw (k13 _ _ (nin1 ndu) hdu12)
        refine ⟨_, rfl, iteB (fun _ => app _ ⟨_, b14.mono (by omega), eS14, hz14, t14.1 _ _ hq13, r314, hdu14, (t12.trans t13).trans t14⟩) fun _ => skip _ ⟨_, b14.mono (by omega), eS14, hz14, r314, hdu14, (t12.trans t13).trans t14⟩⟩
      · rintro σ H8 ⟨v5, v6, v7, v9, S', rs', rfl, b8, eS', hz', lrs', okr', r8, hdu8, t8⟩
        rw [lm] at b8 hz' lrs'
        exact ⟨_, _, _, _, _, S', rs', rfl, b8.mono (by omega), eS', hz'.mono (by omega), by omega, okr', r8, fun i v k z1 z2 => (hk7 i v k z1 z2).tk t8⟩
    rintro σ H7 ⟨v5, v6, v7, v8, v9, S, rs, rfl, b7, eS, hz, lrs, okr, r7, hk7⟩
    have b7 := b7.mono (m' := n + 1000) (by omega)
    clear b6 r6 hk6 lt lk hk7 r7 f3 ks pmk
    -- letters under way
    obtain ⟨as, p1, p2⟩ := b7.s.p
    refine ⟨_, rfl, a.l, _, 1, _, rfl, rfl, SqL.of b7.s.o, atI_nat (j := 1) rfl, a.P, _, rfl, .inl p1, fun l2 bs n_l2 ik => ?_⟩
    obtain ⟨H8, e_H8, s8, r8⟩ := new_any n_l2
    rw [← e_H8]
    clear e_H8
    dsimp only [tNil]
    refine sort_keys (ik_same s8 ik) p2 (by rw [eS]; exact hp1.z.np) (by rw [eS]; exact kb) (by rw [eS]; exact l64) r8 fun zs l4 ks n_l4 pmk lt lk hk => ?_
    obtain ⟨H9, e_H9, s9, r9⟩ := new_any n_l4
    rw [← e_H9]
    clear e_H9
    have b9 := (b7.same s8).same s9
    have hk9 : ∀ (i : Nat) (v : V) (k : Int × Int), zs[i]? = some v → ks[i]? = some k → WtAt H9 v k := fun i v k z1 z2 => (hk i v k z1 z2).tk (TK.of s9)
    have n4d : l4 ≠ d := ((b7.same s8).D.new n_l4).1
    rw [eS] at pmk
    have lzs : zs.length ≤ 17 := by
      rw [lk, pmk.length_eq, List.length_map]
      exact hp1.z.p
    refine ⟨l4, rfl, ⟨_, SqL.of r9⟩, fun D' nD => ?_⟩
    obtain ⟨nDd, nDc⟩ := b9.D.new nD
    have nDr : D' ≠ ra := by
      obtain ⟨xs, hx, _⟩ := b9.r
      exact fun z => by rw [z, hx] at nD; cases nD
    have n4D : l4 ≠ D' := fun z => by rw [← z, r9] at nD; cases nD
    have lz : (zs.zip ks).length = zs.length := by rw [List.length_zip]; omega
    have sD : Same H9 (upd H9 D' (.lst [])) := (L2.Same.refl _).new nD
    refine lc_it (walk_list (K := K) (a := l4) (xs := zs)) (fun j H' => ∃ sel : List (V × (Int × Int)), sel.Sublist ((zs.zip ks).take j) ∧ Kp [d] H H' ∧ Deck4 H' d cs (n + 1000 + j) ∧ RowsAt H' ra rs ∧ TK H9 H' ∧ H' l4 = some (.lst zs) ∧ H' D' = some (.lst (sel.map (·.1))))
      ⟨[], List.Sublist.refl _, Kp.trans b9.kp (Kp.of sD), (b9.D.same sD).mono (by omega), b9.r.same sD, TK.of sD, sD _ _ r9, upd_same⟩ (fun j H' _ ⟨_, _, _, _, _, _, z, _⟩ => SqL.of z) ?_ ?_
    · rintro j x H10 H10' hj ⟨sel, sb, kp, D10, rr, tk, r10, hD⟩ ⟨rfl, hx⟩
      have hjz : j < (zs.zip ks).length := by omega
      have jk : j < ks.length := by omega
      have ez : (zs.zip ks)[j]? = some (x, ks[j]) := by rw [List.getElem?_zip_eq_some]; exact ⟨hx, List.getElem?_eq_getElem jk⟩
      have et : (zs.zip ks).take (j + 1) = (zs.zip ks).take j ++ [(x, ks[j])] := by
        rw [List.take_succ_eq_append_getElem hjz]
        rw [List.getElem?_eq_getElem hjz] at ez
        rw [Option.some.inj ez]
      have lsel : sel.length ≤ 17 := by
        have h1 := sb.length_le
        rw [List.length_take] at h1
        omega
      refine ⟨rfl, _, rfl, d, cs, 4, _, rfl, by decide, by decide, by omega, D10, fun r11 H11 r110 r111 k11 D11 t11 => ⟨rfl, _, rfl, ?_⟩⟩
      have hD11 := k11 _ _ (nin1 nDd) hD
      have r411 := k11 _ _ (nin1 n4d) r10
      have rr11 := rr.kp k11 (nin1 Bd.rd) t11
      refine iteI (fun _ => ⟨_, rfl, _, hD11, lt_line (by rw [List.length_map]; omega), ?_⟩) fun _ => ⟨sel, sb.trans (by rw [et]; exact List.sublist_append_left _ _), Kp.trans kp k11, D11.mono (by omega), rr11, tk.trans t11, r411, hD11⟩
      have kD : Kp [D'] H11 (upd H11 D' (.lst (sel.map (·.1) ++ [x]))) := (Kp.refl _ _).wr (List.mem_singleton.mpr rfl)
      have tD : TK H11 (upd H11 D' (.lst (sel.map (·.1) ++ [x]))) := (TK.refl _).wr hD11 rfl
      refine ⟨sel ++ [(x, ks[j])], by rw [et]; exact sb.append (List.Sublist.refl _), Kp.wrn (Kp.trans kp k11) (n_kp b9.kp (nin1 nDd) nD), (D11.kp kD (nin1 nDd.symm) (nin1 nDc.symm)).mono (by omega), rr11.kp kD (nin1 nDr.symm) tD, (tk.trans t11).trans tD, (upd_ne n4D).trans r411, ?_⟩
      rw [upd_same, List.map_append]
      rfl
    · rintro H10 ⟨sel, sb, kp, D10, rr, tk, r10, hD⟩
      have sb := sb.trans (List.take_sublist _ _)
      have lsel : sel.length ≤ 17 := by
        have h1 := sb.length_le
        omega
      obtain ⟨xs, hx, dx⟩ := rr
      refine ⟨_, rfl, ra, xs, rfl, .inl ⟨SqL.of hx, fun q1 n_q1 => ?_⟩⟩
      obtain ⟨H11, e_H11, s11, r11⟩ := new_any n_q1
      rw [← e_H11]
      clear e_H11
      refine ⟨_, rfl, D', _, rfl, .inl ⟨SqL.of (s11 _ _ hD), fun q2 n_q2 => ?_⟩⟩
      obtain ⟨H12, e_H12, s12, r12⟩ := new_any n_q2
      rw [← e_H12]
      clear e_H12
      refine ⟨(by show 2 ≤ sizeLine; decide), fun p n_p => ?_⟩
      obtain ⟨H13, e_H13, s13, r13⟩ := new_any n_p
      rw [← e_H13]
      clear e_H13
      have s1013 := s11.trans (s12.trans s13)
      have msel : ∀ e ∈ sel, WtAt H13 e.1 e.2 := fun e he => by
        obtain ⟨i, hi⟩ := List.mem_iff_getElem?.mp (sb.subset he)
        rw [List.getElem?_zip_eq_some] at hi
        exact ((hk9 i _ _ hi.1 hi.2).tk tk).tk (TK.of s1013)
      have dsel : ∀ l : List (V × (Int × Int)), (∀ e ∈ l, WtAt H13 e.1 e.2) → DqAll H13 (l.map (·.1)) ((l.map (·.2)).map prD) := fun l => by
        induction l with
        | nil => exact fun _ => .nil
        | cons e l ih =>
          intro hl
          obtain ⟨b, ev, hb⟩ := hl e List.mem_cons_self
          rw [List.map_cons, List.map_cons, List.map_cons, ev]
          exact .cons (.tup hb (.cons (.int _) (.cons (.int _) .nil))) (ih fun e he => hl e (List.mem_cons_of_mem _ he))
      have em : (zs.zip ks).map (·.2) = ks := List.map_snd_zip (by omega)
      have sub2 : (sel.map (·.2)).Sublist ks := by
        rw [← em]
        exact sb.map _
      refine k H13 p q1 q2 xs _ rs (sel.map (·.2)) (Kp.trans kp (Kp.of s1013)) ((D10.same s1013).mono (by omega)) r13 (s13 _ _ (s12 _ _ r11)) (rows_tk (TK.of s1013) dx) (s13 _ _ r12) (dsel sel msel) (fun r hr => ⟨(okr r hr).1, (okr r hr).2.1⟩) (fun r hr => (okr r hr).2.2) ?_ (by rw [List.length_map]; omega) (lt.sublist sub2) fun k2 hk2 => ?_
      · have : ys.length ≤ 17 := lys
        have h2 := lrs
        omega
      · obtain ⟨_, _, q1, q2, _⟩ := hkey k2 (pmk.mem_iff.mp (sub2.subset hk2))
        exact ⟨q1, q2.1, by have := q2.2; omega⟩
end
end Wn

set_option maxHeartbeats 800000
namespace Wn
open PySem L2
set_option pp.maxSteps 700
set_option pp.deepTerms false
local macro_rules | `(tactic| walk_at "h") => `(tactic| first | with_reducible assumption | (with_reducible exact upd_same) | (with_reducible apply g_upd; (walk_at "neq"); (walk_at "h")) | (with_reducible apply g_same; (with_reducible assumption); (walk_at "h")) | (with_reducible apply g_kp; (with_reducible assumption); (walk_at "nin"); (walk_at "h")) | (with_reducible apply g_tk; (with_reducible assumption); (walk_at "h")))
local macro_rules | `(tactic| walk_at "neq") => `(tactic| first | with_reducible assumption | (with_reducible apply Ne.symm; with_reducible assumption) | (with_reducible apply ne_upd; (with_reducible assumption)) | (with_reducible apply Ne.symm; with_reducible apply ne_upd; with_reducible assumption) | (with_reducible apply ne_fr; (with_reducible assumption); (walk_at "h")) | (with_reducible apply ne_fr'; (with_reducible assumption); (walk_at "h")) | (with_reducible apply ne_kd; (walk_at "h"); (walk_at "h"); (with_unfolding_all (intro z; cases z))))
local macro_rules | `(tactic| walk_at "nin") => `(tactic| first | (with_reducible exact nin0) | with_reducible assumption | (with_reducible apply ninc; (walk_at "neq"); (walk_at "nin")))
local macro_rules | `(tactic| walk_at "none") => `(tactic| first | with_reducible assumption | (with_reducible apply n_upd; (with_reducible assumption)) | (with_reducible apply n_same; (with_reducible assumption); (walk_at "none")) | (with_reducible apply n_kp; (with_reducible assumption); (walk_at "nin"); (walk_at "none")))
local macro_rules | `(tactic| walk_at "mem") => `(tactic| first | (with_reducible exact List.mem_cons_self) | (with_reducible apply List.mem_cons_of_mem; (walk_at "mem")))
local macro_rules | `(tactic| walk_at "am") => `(tactic| first | (with_reducible exact am0) | (with_reducible apply am1; (first | (apply Or.inl; walk_at "mem") | (apply Or.inr; walk_at "none")); (walk_at "am")))
local macro_rules | `(tactic| walk_at "tk") => `(tactic| first | (with_reducible exact TK.refl _) | with_reducible assumption | (with_reducible apply t_tk; (with_reducible assumption); (walk_at "tk")) | (with_reducible apply t_same; (with_reducible assumption); (walk_at "tk")) | (with_reducible apply t_new; (with_reducible assumption); (walk_at "tk")) | (with_reducible apply t_wr; (walk_at "h"); (with_unfolding_all rfl); (walk_at "tk")))
local macro_rules | `(tactic| walk_at "same") => `(tactic| first | (with_reducible exact L2.Same.refl _) | with_reducible assumption | (with_reducible apply s_same; (with_reducible assumption); (walk_at "same")) | (with_reducible apply s_new; (with_reducible assumption); (walk_at "same")) | (with_reducible apply s_wrn; (walk_at "none"); (walk_at "same")))
local macro_rules | `(tactic| walk_at "kp") => `(tactic| first | (with_reducible exact Kp.refl _ _) | with_reducible assumption | (with_reducible apply k_same; (with_reducible assumption); (walk_at "kp")) | (with_reducible apply k_kp; (with_reducible assumption); (walk_at "kp")) | (with_reducible apply k_kpm; (with_reducible assumption); (walk_at "am"); (walk_at "kp")) | (with_reducible apply k_new; (with_reducible assumption); (walk_at "kp")) | (with_reducible apply k_wr; (walk_at "mem"); (walk_at "kp")) | (with_reducible apply k_wrn; (walk_at "none"); (walk_at "kp")))
local macro_rules | `(tactic| walk_at "rp") => `(tactic| first | with_reducible assumption | (with_reducible exact Rp.int) | (with_reducible exact Rp.str) | (with_reducible exact Rp.none) | (with_reducible exact Rp.bool) | (with_reducible apply Rp.tk'; (with_reducible assumption); (walk_at "tk")) | (with_reducible apply Rp.tup; (walk_at "h"); (walk_at "rpl")))
local macro_rules | `(tactic| walk_at "rpl") => `(tactic| first | with_reducible assumption | (with_reducible exact RpL.nil) | (with_reducible apply RpL.tk'; (with_reducible assumption); (walk_at "tk")) | (with_reducible apply RpL.cons; (walk_at "rp"); (walk_at "rpl")))
local macro_rules | `(tactic| walk_at "g") => `(tactic| repeat (first | refine ⟨_, rfl, ?_⟩ | refine ⟨_, _, rfl, rfl, ?_⟩ | refine ⟨rfl, _, rfl, ?_⟩ | refine ⟨_, _, rfl, rfl, (by first | decide | omega), ?_⟩))
abbrev sPlain : Stmt := top 26
noncomputable def plainD (κ : JK) : PyData → Bool
  | .tuple [.tuple ds, wd] => (firstD κ ds wd).isNone
  | _ => false
def spPlain : Sp := fun vs H Q _ => ∃ (κ : JK) (v : V) (d : PyData), vs = [.str (jkS κ), v] ∧ Dq H v d ∧ (∀ ds wd, d = .tuple [.tuple ds, wd] → ds.length ≤ 40000 ∧ ∀ es, wd = .tuple es → es.length ≤ 100000) ∧ ∀ H', Same H H' → Q (.bl (plainD κ d)) H'

section
variable {P : Program} {w : World} {K : PySem.W.Frag} {mg : Str → Option Value} {base : Heap}
theorem scPlain : FnScope ["kind", "thing"] ["kind", "thing"] (defScope sPlain) := ⟨rfl, rfl, rfl, by decide +kernel, rfl, by decide +kernel, by decide +kernel⟩
theorem ok_plain {f : Addr} {fd : FuncData} (F : Fun K "is_plain" "is_plain" sPlain f fd) (B : PB mg) (cF : Cd P w K mg base 5 "first_wrong" ["kind", "paper"] spFirst) : FnOk P w K mg base CX0 6 f fd ["kind", "thing"] spPlain := by
  obtain ⟨fF, fdF, GF, mF, kF, bF⟩ := cF
  refine F.ok scPlain (fun vs H Q E h => ?_) (fun cdv A outer s H vs Q E hr h => ?_)
  · obtain ⟨κ, v, d, rfl, _⟩ := h
    rfl
  · obtain ⟨κ, v, d, rfl, hd, hl, k⟩ := h
    have hr5 : Room 5 _ := hr.mono (by decide)
    refine ⟨_, (pss_cons (ps_if (PW.pt (pw_or (pt_not (pt_val (pe_callB (isiK (K := K) rfl) (by rfl) B.isinstance (by decide +kernel) (pa_cons (pv 1) (pa_cons (pe_bltn (v := .ty "tuple") (by rfl) B.tuple PyProof.Rows.boot_tuple rfl) pa_nil))))) (pw_or (pt_cmpR op_ne (pe_callB (lenK (K := K) rfl) (by rfl) B.len PySem.boot_len (pa_cons (pv 1) pa_nil)) pe_int (nomark _)) (pw_or1 (pt_not (pt_val (pe_callB (isiK (K := K) rfl) (by rfl) B.isinstance (by decide +kernel) (pa_cons (pe_ix (ixT (K := K) rfl) (pv 1) pe_int (fun _ _ => rfl)) (pa_cons (pe_bltn (v := .ty "tuple") (by rfl) B.tuple PyProof.Rows.boot_tuple rfl) pa_nil)))))))))
       (pss_one (ps_ret pe_bl))
       pss_nil)
       (pss_one (ps_ret (pe_cmp (pc_isN (pe_call GF hr5 rfl mF kF bF .nil pass0 (pa_cons (pv 0) (pa_cons (pv 1) pa_nil)))) rfl)))), ?_⟩
    have no : plainD κ d = false → Q (.bl false) H := fun e => by
      have z := k H (L2.Same.refl _)
      rw [e] at z
      exact z
    by_cases ht : tyN d = "tuple"
    · obtain ⟨ds, rfl⟩ : ∃ ds, d = .tuple ds := by
        cases hd with
        | tup h1 h2 => exact ⟨_, rfl⟩
        | _ => simp [tyN] at ht
      obtain ⟨a, xs, rfl, ha, hds⟩ := hd.inv_tup
      refine ⟨_, rfl, _, _, _, _, true, rfl, .ty _, hd.ty, kit_tuple _, true, rfl, iteF ?_⟩
      refine ⟨_, rfl, _, xs.length, rfl, .inr ⟨_, SqT.of ha, rfl⟩, rfl, _, rfl, iteNI (fun e0 => ?_) (fun e0 => ?_)⟩
      · refine no ?_
        unfold plainD
        split
        · rename_i h1
          injection h1 with h1
          rw [hds.len, h1] at e0
          exact absurd rfl e0
        · rfl
      obtain ⟨d1, d2, rfl⟩ := len2 (show ds.length = 2 by rw [← hds.len]; omega)
      obtain ⟨v1, r1, rfl, h1, hr1⟩ := hds.inv_cons
      obtain ⟨v2, r2, rfl, h2, hr2'⟩ := hr1.inv_cons
      have := hr2'.inv_nil
      subst this
      refine ⟨_, rfl, a, _, 0, _, rfl, rfl, SqT.of ha, atI_nat (j := 0) rfl, _, _, _, _, _, rfl, .ty _, h1.ty, kit_tuple _, _, rfl, ?_⟩
      by_cases h1t : tyN d1 = "tuple"
      · rw [decide_eq_true h1t]
        obtain ⟨es, rfl⟩ : ∃ es, d1 = .tuple es := by
          cases h1 with
          | tup _ _ => exact ⟨_, rfl⟩
          | _ => simp [tyN] at h1t
        obtain ⟨l1, l2⟩ := hl es d2 rfl
        refine iteF ⟨_, rfl, _, rfl, κ, .ref a, es, d2, rfl, hd, l1, l2, fun H1 s1 => ?_⟩
        have z := k H1 s1
        have e : plainD κ (.tuple [.tuple es, d2]) = (firstD κ es d2).isNone := rfl
        rw [e] at z
        cases ef : firstD κ es d2 with
        | none => rw [ef] at z; exact z
        | some n => rw [ef] at z; exact z
      · rw [decide_eq_false h1t]
        refine iteT (no ?_)
        unfold plainD
        split
        · rename_i q
          injection q with q
          injection q with q _
          rw [q] at h1t
          exact absurd rfl h1t
        · rfl
    · refine ⟨_, rfl, _, _, _, _, _, rfl, .ty _, hd.ty, kit_tuple d, _, rfl, ?_⟩
      rw [decide_eq_false ht]
      refine iteT (no ?_)
      unfold plainD
      split
      · exact absurd rfl ht
      · rfl
end
end Wn

namespace Wn
open PySem L2 PySem.Spec PyProof.Rows
/-! ### repr of things with empty dicts deep within -/
mutual
def okQ : PyData → Bool
  | .dict ds => ds.isEmpty
  | .list xs => okQs xs
  | .tuple xs => okQs xs
  | _ => true
def okQs : List PyData → Bool
  | [] => true
  | x :: xs => okQ x && okQs xs
end
section
variable {X : Cx} {pins : List (Addr × Obj)} {σ : L2.St} {H : Hp} {s : Shared}
theorem dict_empty (I : Inv X pins σ H s) {a : Addr} (h : H a = some (.dK [])) : (a == sysModules) = false ∧ ∃ (o : Obj) (es : Array DictEntry) (n : Nat), s.heap.get? a = some o ∧ o.cls = .type "dict" ∧ o.data = .dict es n ∧ es.toList = [] := by
  obtain ⟨_, hm, vs, kv, o, es, ep, ho, hx, hd, _, pr, _⟩ := dk_of I.hok h
  have e1 : vs = [] := List.length_eq_zero_iff.mp (by rw [← kv.length]; rfl)
  subst e1
  cases hes : es.toList with
  | nil => exact ⟨hm, o, es, ep, ho, hx.1, hd, hes⟩
  | cons e r =>
    rw [hes] at pr
    cases pr
mutual
theorem readsQ (I : Inv X pins σ H s) : ∀ (d : PyData) (v : V) (u : Value), Dq H v d → RelV v u → okQ d = true → ∃ as, Reads s.heap u d as
  | .none, _, _, h, r, _ => by
    cases h
    cases r
    exact ⟨_, .none⟩
  | .bool b, _, _, h, r, _ => by
    cases h
    cases r
    exact ⟨_, .bool b⟩
  | .int i, _, _, h, r, _ => by
    cases h
    obtain ⟨t, rfl⟩ := r
    exact ⟨_, .int i t⟩
  | .str x, _, _, h, r, _ => by
    cases h
    obtain ⟨t, rfl⟩ := r
    exact ⟨_, .str x t⟩
  | .list ds, _, _, h, r, ok => by
    cases h with
    | lst h1 h2 =>
      cases r
      obtain ⟨its, rv, ⟨o, n, ho, hc, _, hd⟩, _⟩ := I.list (SqL.of h1)
      obtain ⟨as, hr⟩ := readsQs I ds _ its h2 rv ok
      exact ⟨_, .list ho hc hd hr⟩
  | .tuple ds, _, _, h, r, ok => by
    cases h with
    | tup h1 h2 =>
      cases r
      obtain ⟨its, rv, ⟨o, ho, hc, n, hd⟩, _⟩ := I.tuple (SqT.of h1)
      obtain ⟨as, hr⟩ := readsQs I ds _ its h2 rv ok
      exact ⟨_, .tuple ho hc hd hr⟩
  | .dict ds, _, _, h, r, ok => by
    cases h with
    | dct h1 h2 =>
      cases r
      cases ds with
      | cons p r => cases ok
      | nil =>
        cases h2
        obtain ⟨_, o, es, n, ho, hc, hd, he⟩ := dict_empty I h1
        refine ⟨_, .dict (as := []) (bs := []) ho hc hd ?_ ?_⟩ <;> (rw [he]; exact .nil)
theorem readsQs (I : Inv X pins σ H s) : ∀ (ds : List PyData) (vs : List V) (us : List Value), DqAll H vs ds → Vals vs us → okQs ds = true → ∃ as, ReadsAll s.heap us ds as
  | [], _, _, h, r, _ => by
    cases h
    cases r
    exact ⟨_, .nil⟩
  | d :: ds, _, _, h, r, ok => by
    cases h with
    | cons h1 h2 =>
      cases r with
      | cons r1 r2 =>
        have ok : (okQ d && okQs ds) = true := ok
        rw [Bool.and_eq_true] at ok
        obtain ⟨as, q1⟩ := readsQ I d _ _ h1 r1 ok.1
        obtain ⟨bs, q2⟩ := readsQs I ds _ _ h2 r2 ok.2
        exact ⟨_, .cons q1 q2⟩
end
abbrev RpK (X : Cx) (s : Shared) (bs : List Addr) (n : Nat) (u : Value) (t : Str) : Prop := ReadAtMost s.heap n bs ∧ ReprK X.prog X.w bs s.heap n u t
theorem shows_len {xs : List PyData} : (PyData.shownAll xs).length = xs.length := by
  induction xs with
  | nil => rfl
  | cons x xs ih => show (PyData.shownAll xs).length + 1 = _; rw [ih]; rfl
mutual
theorem reprQ (I : Inv X pins σ H s) : ∀ (d : PyData) (v : V) (u : Value), Dq H v d → RelV v u → okQ d = true → d.showable = true → d.shown.length ≤ sizeLine → ∃ bs, RpK X s bs d.depth u d.shown
  | .none, v, u, h, r, ok, sh, sz => by
    obtain ⟨as, q⟩ := readsQ I _ v u h r ok
    exact ReprK.of_reads q sh (PyData.noDict_hsm rfl) sz
  | .bool b, v, u, h, r, ok, sh, sz => by
    obtain ⟨as, q⟩ := readsQ I _ v u h r ok
    exact ReprK.of_reads q sh (PyData.noDict_hsm rfl) sz
  | .int i, v, u, h, r, ok, sh, sz => by
    obtain ⟨as, q⟩ := readsQ I _ v u h r ok
    exact ReprK.of_reads q sh (PyData.noDict_hsm rfl) sz
  | .str x, v, u, h, r, ok, sh, sz => by
    obtain ⟨as, q⟩ := readsQ I _ v u h r ok
    exact ReprK.of_reads q sh (PyData.noDict_hsm rfl) sz
  | .dict ds, v, u, h, r, ok, sh, sz => by
    cases h with
    | dct h1 h2 =>
      cases r
      cases ds with
      | cons p r => cases ok
      | nil =>
        cases h2
        obtain ⟨hm, o, es, n, ho, hc, hd, he⟩ := dict_empty I h1
        refine ReprK.of_reads (.dict (as := []) (bs := []) ho hc hd (by rw [he]; exact .nil) (by rw [he]; exact .nil)) sh (fun _ z => ?_) sz
        have z := List.mem_singleton.mp z
        rw [← z] at hm
        simp at hm
  | .list ds, v, u, h, r, ok, sh, sz => by
    obtain ⟨as0, q0⟩ := readsQ I _ v u h r ok
    cases h with
    | lst h1 h2 =>
      cases r
      have sz' : (listText (PyData.shownAll ds)).length ≤ sizeLine := by rw [PyData.shown] at sz; exact sz
      have sh' : PyData.showableAll ds = true := by rw [PyData.showable] at sh; exact sh
      obtain ⟨its, rv, ⟨o, n, ho, hc, _, hd⟩, _⟩ := I.list (SqL.of h1)
      obtain ⟨bs, hb, hk⟩ := reprQs I ds _ its h2 rv ok sh' fun t ht => Nat.le_trans (listText_mem_le ht) sz'
      have na := not_mem_of_deeper q0 (show PyData.depthAll ds < (PyData.list ds).depth by simp only [PyData.depth]; omega) hb
      refine ⟨_ :: bs, ReadAtMost.cons q0 (by simp only [PyData.depth]; omega) hb, ?_⟩
      rw [PyData.depth, PyData.shown]
      cases its with
      | nil =>
        cases rv
        have e0 := h2.len
        cases ds with
        | cons x xs => cases e0
        | nil => exact ReprK.listEmpty ho hc hd
      | cons y l => exact ReprK.list ho hc hd na (by have := hk.length_eq; simpa using this) fun i z e => hk.item i z (by simpa using e)
  | .tuple ds, v, u, h, r, ok, sh, sz => by
    obtain ⟨as0, q0⟩ := readsQ I _ v u h r ok
    cases h with
    | tup h1 h2 =>
      cases r
      have sz' : (tupleText (PyData.shownAll ds)).length ≤ sizeLine := by rw [PyData.shown] at sz; exact sz
      have sh' : PyData.showableAll ds = true := by rw [PyData.showable] at sh; exact sh
      obtain ⟨its, rv, ⟨o, ho, hc, n, hd⟩, _⟩ := I.tuple (SqT.of h1)
      obtain ⟨bs, hb, hk⟩ := reprQs I ds _ its h2 rv ok sh' fun t ht => Nat.le_trans (tupleText_mem_le ht) sz'
      have na := not_mem_of_deeper q0 (show PyData.depthAll ds < (PyData.tuple ds).depth by simp only [PyData.depth]; omega) hb
      refine ⟨_ :: bs, ReadAtMost.cons q0 (by simp only [PyData.depth]; omega) hb, ?_⟩
      rw [PyData.depth, PyData.shown]
      exact ReprK.tuple ho hc hd na hk
theorem reprQs (I : Inv X pins σ H s) : ∀ (ds : List PyData) (vs : List V) (us : List Value), DqAll H vs ds → Vals vs us → okQs ds = true → PyData.showableAll ds = true → (∀ t ∈ PyData.shownAll ds, t.length ≤ sizeLine) →
    ∃ bs, ReadAtMost s.heap (PyData.depthAll ds) bs ∧ ReprAllK X.prog X.w bs s.heap (PyData.depthAll ds) us (PyData.shownAll ds)
  | [], _, _, h, r, _, _, _ => by
    cases h
    cases r
    exact ⟨[], (fun b hb => by cases hb), .nil⟩
  | d :: ds, _, _, h, r, ok, sh, sz => by
    cases h with
    | cons h1 h2 =>
      cases r with
      | cons r1 r2 =>
        have ok : (okQ d && okQs ds) = true := ok
        rw [Bool.and_eq_true] at ok
        rw [PyData.showableAll, Bool.and_eq_true] at sh
        rw [PyData.shownAll] at sz ⊢
        obtain ⟨b1, g1, k1⟩ := reprQ I d _ _ h1 r1 ok.1 sh.1 (sz _ List.mem_cons_self)
        obtain ⟨b2, g2, k2⟩ := reprQs I ds _ _ h2 r2 ok.2 sh.2 fun t ht => sz t (List.mem_cons_of_mem _ ht)
        have l1 : d.depth ≤ PyData.depthAll (d :: ds) := by rw [PyData.depthAll]; exact Nat.le_max_left _ _
        have l2 : PyData.depthAll ds ≤ PyData.depthAll (d :: ds) := by rw [PyData.depthAll]; exact Nat.le_max_right _ _
        exact ⟨b1 ++ b2, (g1.mono l1).append (g2.mono l2), .cons ((k1.more fun b hb => List.mem_append_left _ hb).level_le l1) (k2.more_le (fun b hb => List.mem_append_right _ hb) l2)⟩
end
end
section
variable {X : Cx}
/-- repr of such a thing, where no repr is under way -/
def rReprQ : List V → Hp → VK → Prop := fun xs H Q => ∃ (x : V) (d : PyData), xs = [x] ∧ Dq H x d ∧ okQ d = true ∧ d.showable = true ∧ d.depth ≤ 60 ∧ d.shown.length ≤ sizeLine ∧ Q (.str d.shown) H
theorem call_reprQ (hg : X.A.guards = some []) (hu : X.A.units + 64 < cLine) : CallR X (.builtin "repr") rReprQ := by
  intro pins s σ H xs us Q I r h
  obtain ⟨x, d, rfl, hd, ok, sh, dep, sz, q⟩ := h
  obtain ⟨u, rfl, rx⟩ := vals1 r
  have fin : ∀ (h' : Heap) (t tk : Tok), (∀ b o, s.heap.get? b = some o → h'.get? b = some o) → EP X pins σ Q (.str d.shown t) { s with heap := h', toks := tk } := fun h' t tk hk => ⟨.str d.shown, H, I.kept hk, ⟨t, rfl⟩, q⟩
  have same : ∀ b o, s.heap.get? b = some o → s.heap.get? b = some o := fun _ _ e => e
  have hin : X.A.in1.units = X.A.units + 1 := rfl
  cases hd with
  | non =>
    obtain rfl : u = .none := rx
    exact PySem.P.repr_of_none (fin s.heap _ _ same)
  | bl b =>
    obtain rfl : u = .bool b := rx
    exact PySem.P.repr_of_bool (fin s.heap _ _ same)
  | int i =>
    obtain ⟨t, rfl⟩ : ∃ t, u = .int i t := rx
    exact PySem.P.repr_of_int (by simpa [PyData.showable] using sh) (fin s.heap _ _ same)
  | str z =>
    obtain ⟨t, rfl⟩ : ∃ t, u = .str z t := rx
    exact PySem.P.repr_of_str (fin s.heap _ _ same) (hsz := sz)
  | lst h1 h2 =>
    rename_i a vs ds
    obtain rfl : u = .ref a := rx
    obtain ⟨as0, q0⟩ := readsQ I _ _ _ (.lst h1 h2) rfl ok
    have sz' : (listText (PyData.shownAll ds)).length ≤ sizeLine := by rw [PyData.shown] at sz; exact sz
    have sh' : PyData.showableAll ds = true := by rw [PyData.showable] at sh; exact sh
    have dep' : PyData.depthAll ds + 1 ≤ 60 := by simp only [PyData.depth] at dep; omega
    obtain ⟨its, rv, ⟨o, n, ho, hc, _, ht⟩, _⟩ := I.list (SqL.of h1)
    obtain ⟨bs, hb, hk⟩ := reprQs I ds _ its h2 rv ok sh' fun t ht => Nat.le_trans (listText_mem_le ht) sz'
    have na := not_mem_of_deeper q0 (show PyData.depthAll ds < (PyData.list ds).depth by simp only [PyData.depth]; omega) hb
    rw [PyData.shown] at fin
    refine call_repr_slot (by omega) ⟨o, ho, hc⟩ F.slot_list_repr.toG ?_
    cases its with
    | nil =>
      cases rv
      cases ds with
      | cons x xs => cases h2
      | nil => exact call_list_repr_empty ⟨o, ho, hc⟩ ho ht ⟨_, _, rfl, fin s.heap _ _ same⟩
    | cons y l => exact call_list_reprK ho hc ht na (by have := hk.length_eq; simpa using this) (fun i z e => hk.item i z (by simpa using e)) (A := X.A.in1) hg (fun b _ => Clear.nil b) (by rw [hin]; omega) same (fun h' t tk hk' => ⟨_, _, rfl, fin h' t tk hk'⟩) sz'
  | tup h1 h2 =>
    rename_i a vs ds
    obtain rfl : u = .ref a := rx
    obtain ⟨as0, q0⟩ := readsQ I _ _ _ (.tup h1 h2) rfl ok
    have sz' : (tupleText (PyData.shownAll ds)).length ≤ sizeLine := by rw [PyData.shown] at sz; exact sz
    have sh' : PyData.showableAll ds = true := by rw [PyData.showable] at sh; exact sh
    have dep' : PyData.depthAll ds + 1 ≤ 60 := by simp only [PyData.depth] at dep; omega
    obtain ⟨its, rv, ⟨o, ho, hc, n, ht⟩, _⟩ := I.tuple (SqT.of h1)
    obtain ⟨bs, hb, hk⟩ := reprQs I ds _ its h2 rv ok sh' fun t ht => Nat.le_trans (tupleText_mem_le ht) sz'
    have na := not_mem_of_deeper q0 (show PyData.depthAll ds < (PyData.tuple ds).depth by simp only [PyData.depth]; omega) hb
    rw [PyData.shown] at fin
    refine call_repr_slot (by omega) ⟨o, ho, hc⟩ F.slot_tuple_repr ?_
    exact call_tuple_reprK ho hc ht na hk (A := X.A.in1) hg (fun b _ => Clear.nil b) (by rw [hin]; omega) same (fun h' t tk hk' => ⟨_, _, rfl, fin h' t tk hk'⟩) sz'
  | dct h1 h2 =>
    rename_i a kvs ds
    obtain rfl : u = .ref a := rx
    cases ds with
    | cons p r => cases ok
    | nil =>
      cases h2
      obtain ⟨hm, o, es, n, ho, hc, ht, he⟩ := dict_empty I h1
      refine repr_of_reads' (.dict (as := []) (bs := []) ho hc ht (by rw [he]; exact .nil) (by rw [he]; exact .nil)) sh (fun _ z => ?_) hg (by omega) same (fun h' t tk hk => fin h' t tk hk) (hsz := sz)
      have z := List.mem_singleton.mp z
      rw [← z] at hm
      simp at hm
end
end Wn

namespace Wn
open PySem L2 PySem.Spec PyProof.Rows
/-! ### the heap but for one address; bounds of things -/
def hid (d : Addr) (H : Hp) : Hp := fun a => if a = d then none else H a
theorem hid_sub {d : Addr} {H : Hp} : Same (hid d H) H := fun a o h => by
  unfold hid at h
  split at h
  · cases h
  · exact h
theorem hid_same {d : Addr} {H H' : Hp} (s : Same H H') : Same (hid d H) (hid d H') := fun a o h => by
  unfold hid at h ⊢
  split at h
  · cases h
  · rename_i n
    rw [if_neg n]
    exact s _ _ h
theorem hid_kp {d : Addr} {H H' : Hp} (s : Kp [d] H H') : Same (hid d H) (hid d H') := fun a o h => by
  unfold hid at h ⊢
  split at h
  · cases h
  · rename_i n
    rw [if_neg n]
    exact s _ _ (nin1 n) h
theorem hid_at {d a : Addr} {H : Hp} {o : HO} (n : a ≠ d) (h : H a = some o) : hid d H a = some o := by
  unfold hid
  rw [if_neg n]
  exact h
theorem hid_ne {d a : Addr} {H : Hp} {o : HO} (h : hid d H a = some o) : a ≠ d := fun e => by
  unfold hid at h
  rw [if_pos e] at h
  cases h
theorem new_ne {d a : Addr} {H H' : Hp} {o : HO} (hd : H d = some o) (s : Same H H') (n : H' a = none) : a ≠ d := fun e => by
  rw [e, s _ _ hd] at n
  cases n
mutual
/-- dicts within only empty ones; numbers, signs, texts bounded -/
def gq (M : Nat) : PyData → Bool
  | .none | .bool _ => true
  | .int i => decide (i.natAbs ≤ M)
  | .str x => PyData.strOk x
  | .list xs | .tuple xs => gqs M xs
  | .dict ds => ds.isEmpty
def gqs (M : Nat) : List PyData → Bool
  | [] => true
  | x :: xs => gq M x && gqs M xs
end
theorem gqs_all {M : Nat} : ∀ {xs : List PyData}, gqs M xs = true ↔ ∀ x ∈ xs, gq M x = true
  | [] => ⟨(fun _ x h => by cases h), fun _ => rfl⟩
  | x :: xs => by
    show (gq M x && gqs M xs) = true ↔ _
    rw [Bool.and_eq_true, gqs_all, List.forall_mem_cons]
mutual
theorem gq_mono {M N : Nat} (h : M ≤ N) : ∀ {d : PyData}, gq M d = true → gq N d = true
  | .none, _ => rfl
  | .bool _, _ => rfl
  | .int i, g => decide_eq_true (Nat.le_trans (of_decide_eq_true g) h)
  | .str _, g => g
  | .list xs, g => gqs_mono h g
  | .tuple xs, g => gqs_mono h g
  | .dict ds, g => g
theorem gqs_mono {M N : Nat} (h : M ≤ N) : ∀ {ds : List PyData}, gqs M ds = true → gqs N ds = true
  | [], _ => rfl
  | x :: xs, g => by
    have g : (gq M x && gqs M xs) = true := g
    rw [Bool.and_eq_true] at g
    show (gq N x && gqs N xs) = true
    rw [gq_mono h g.1, gqs_mono h g.2]
    rfl
end
mutual
theorem gq_okQ {M : Nat} : ∀ {d : PyData}, gq M d = true → okQ d = true
  | .none, _ => rfl
  | .bool _, _ => rfl
  | .int i, g => rfl
  | .str _, g => rfl
  | .list xs, g => gqs_okQ (xs := xs) g
  | .tuple xs, g => gqs_okQ (xs := xs) g
  | .dict ds, g => g
theorem gqs_okQ {M : Nat} : ∀ {xs : List PyData}, gqs M xs = true → okQs xs = true
  | [], _ => rfl
  | x :: xs, g => by
    have g : (gq M x && gqs M xs) = true := g
    rw [Bool.and_eq_true] at g
    show (okQ x && okQs xs) = true
    rw [gq_okQ g.1, gqs_okQ g.2]
    rfl
end
theorem log2_10 {n k : Nat} (h : n ≤ 10 ^ k) (hk : k ≤ 200) : n.log2 < 1920 := by
  by_cases hx : n = 0
  · rw [hx]
    decide
  · have h2 : n ≤ 10 ^ 200 := Nat.le_trans h (Nat.pow_le_pow_right (by decide) hk)
    have h3 : (10 : Nat) ^ 200 < 2 ^ 700 := by decide +kernel
    have := (Nat.log2_lt hx).mpr (Nat.lt_of_le_of_lt h2 h3)
    omega
mutual
theorem gq_show {M : Nat} (hM : M ≤ 10 ^ 30) : ∀ {d : PyData}, gq M d = true → d.showable = true
  | .none, _ => rfl
  | .bool _, _ => rfl
  | .int i, g => decide_eq_true (log2_10 (Nat.le_trans (of_decide_eq_true g) hM) (by decide))
  | .str _, g => rfl
  | .list xs, g => gqs_show hM (xs := xs) g
  | .tuple xs, g => gqs_show hM (xs := xs) g
  | .dict [], g => rfl
  | .dict (_ :: _), g => by cases g
theorem gqs_show {M : Nat} (hM : M ≤ 10 ^ 30) : ∀ {xs : List PyData}, gqs M xs = true → PyData.showableAll xs = true
  | [], _ => rfl
  | x :: xs, g => by
    have g : (gq M x && gqs M xs) = true := g
    rw [Bool.and_eq_true] at g
    unfold PyData.showableAll
    rw [gq_show hM g.1, gqs_show hM g.2]
    rfl
end
mutual
theorem gq_leaf {M : Nat} (hM : M < 10 ^ 31) : ∀ {d : PyData}, gq M d = true → d.leavesShort 32 = true
  | .none, _ => rfl
  | .bool _, _ => rfl
  | .int i, g => by
    have := int_text_length_le10 (a := i) (k := 31) (by decide) (Nat.lt_of_le_of_lt (of_decide_eq_true g) hM)
    refine decide_eq_true ?_
    show (Str.ofString (toString i)).length ≤ 32
    rw [PySem.ofString_length]; exact this
  | .str x, g => by
    have g : x.cps.all (· < 0x110000) = true := g
    unfold PyData.leavesShort
    rw [List.all_eq_true]
    rw [← Array.all_toList, List.all_eq_true] at g
    intro c hc
    have := of_decide_eq_true (g c hc)
    exact decide_eq_true (by omega)
  | .list xs, g => by
    unfold PyData.leavesShort
    exact gqs_leaf hM (xs := xs) g
  | .tuple xs, g => by
    unfold PyData.leavesShort
    exact gqs_leaf hM (xs := xs) g
  | .dict [], g => rfl
  | .dict (_ :: _), g => by cases g
theorem gqs_leaf {M : Nat} (hM : M < 10 ^ 31) : ∀ {xs : List PyData}, gqs M xs = true → PyData.leavesShortAll 32 xs = true
  | [], _ => rfl
  | x :: xs, g => by
    have g : (gq M x && gqs M xs) = true := g
    rw [Bool.and_eq_true] at g
    unfold PyData.leavesShortAll
    rw [gq_leaf hM g.1, gqs_leaf hM g.2]
    rfl
end
mutual
/-- the longest list or tuple within -/
def wid : PyData → Nat
  | .list xs | .tuple xs => max xs.length (wids xs)
  | _ => 0
def wids : List PyData → Nat
  | [] => 0
  | x :: xs => max (wid x) (wids xs)
end
theorem wids_le {n : Nat} : ∀ {xs : List PyData}, wids xs ≤ n ↔ ∀ x ∈ xs, wid x ≤ n
  | [] => ⟨(fun _ x h => by cases h), fun _ => Nat.zero_le _⟩
  | x :: xs => by
    rw [List.forall_mem_cons, ← wids_le (xs := xs)]
    show max (wid x) (wids xs) ≤ n ↔ _
    omega
theorem wid_t {xs : List PyData} {n : Nat} : wid (.tuple xs) ≤ n ↔ xs.length ≤ n ∧ ∀ x ∈ xs, wid x ≤ n := by
  rw [← wids_le]
  show max xs.length (wids xs) ≤ n ↔ _
  omega
structure GQ (M N B W : Nat) (d : PyData) : Prop where
  g : gq M d = true
  n : d.depth ≤ N
  b : d.bulk ≤ B
  w : wid d ≤ W
theorem GQ.mono {M N B W M' N' B' W' : Nat} {d : PyData} (h : GQ M N B W d) (h1 : M ≤ M') (h2 : N ≤ N') (h3 : B ≤ B') (h4 : W ≤ W') : GQ M' N' B' W' d := ⟨gq_mono h1 h.g, Nat.le_trans h.n h2, Nat.le_trans h.b h3, Nat.le_trans h.w h4⟩
/-- what repr asks of a thing -/
theorem GQ.rep {M N B W : Nat} {d : PyData} (h : GQ M N B W d) (hM : M ≤ 10 ^ 30) (hN : N ≤ 60) (hB : B ≤ 490000) : okQ d = true ∧ d.showable = true ∧ d.depth ≤ 60 ∧ d.shown.length ≤ sizeLine := by
  refine ⟨gq_okQ h.g, gq_show hM h.g, Nat.le_trans h.n hN, ?_⟩
  have := PyData.shown_le_bulk 32 (by decide) d (gq_leaf (Nat.lt_of_le_of_lt hM (by decide)) h.g)
  have hb := h.b
  rw [sizeLine_eq]
  omega
/-! ### bulk, depth of lists -/
theorem bulk_app : ∀ (xs ys : List PyData), PyData.bulkAll (xs ++ ys) = PyData.bulkAll xs + PyData.bulkAll ys
  | [], ys => by
    show _ = 0 + _
    rw [Nat.zero_add]
    rfl
  | x :: xs, ys => by
    show PyData.bulk x + 1 + PyData.bulkAll (xs ++ ys) = PyData.bulk x + 1 + PyData.bulkAll xs + _
    rw [bulk_app xs ys]
    omega
theorem bulk_rev : ∀ (xs : List PyData), PyData.bulkAll xs.reverse = PyData.bulkAll xs
  | [] => rfl
  | x :: xs => by
    rw [List.reverse_cons, bulk_app, bulk_rev xs]
    show _ + (PyData.bulk x + 1 + 0) = PyData.bulk x + 1 + _
    omega
theorem bulk_split (xs : List PyData) (i : Nat) : PyData.bulkAll (xs.take i) + PyData.bulkAll (xs.drop i) = PyData.bulkAll xs := by
  rw [← bulk_app, List.take_append_drop]
theorem bulk_len : ∀ (xs : List PyData), xs.length ≤ PyData.bulkAll xs
  | [] => Nat.le_refl _
  | x :: xs => by
    have := bulk_len xs
    show xs.length + 1 ≤ PyData.bulk x + 1 + PyData.bulkAll xs
    omega
theorem depthAll_le {n : Nat} : ∀ {xs : List PyData}, PyData.depthAll xs ≤ n ↔ ∀ x ∈ xs, x.depth ≤ n
  | [] => ⟨(fun _ x h => by cases h), fun _ => Nat.zero_le _⟩
  | x :: xs => by
    rw [List.forall_mem_cons, ← depthAll_le (xs := xs)]
    show max x.depth (PyData.depthAll xs) ≤ n ↔ _
    omega
theorem depth_tup {xs : List PyData} : (PyData.tuple xs).depth = PyData.depthAll xs + 1 := by simp only [PyData.depth] <;> omega
theorem depth_lst {xs : List PyData} : (PyData.list xs).depth = PyData.depthAll xs + 1 := by simp only [PyData.depth] <;> omega
end Wn

namespace L2
open PySem PySem.Spec PyProof.Rows
/-! ### truths among numbers; tuples: == (), >= -/
def numI (x : V) (i : Int) : Prop := x = .int i ∨ ∃ b : Bool, x = .bl b ∧ i = if b = true then 1 else 0
section
variable {X : Cx}
theorem op_addN : OpR X (binaryOp .Add) (fun x y H Q => ∃ i j, numI x i ∧ y = .int j ∧ Q (.int (i + j)) H) := by
  intro pins s σ H x y v u Q I rx ry h
  obtain ⟨i, j, hx, rfl, q⟩ := h
  obtain ⟨t', rfl⟩ : ∃ t, u = .int j t := ry
  rcases hx with rfl | ⟨b, rfl, rfl⟩
  · obtain ⟨t, rfl⟩ : ∃ t, v = .int i t := rx
    exact add_int ⟨.int (i + j), H, I.tok _, ⟨_, rfl⟩, q⟩
  · obtain rfl : v = .bool b := rx
    exact PySem.IntBool.add_bool_int ⟨.int _, H, I.tok _, ⟨_, rfl⟩, q⟩
theorem op_subN : OpR X (binaryOp .Sub) (fun x y H Q => ∃ i j, numI x i ∧ y = .int j ∧ Q (.int (i - j)) H) := by
  intro pins s σ H x y v u Q I rx ry h
  obtain ⟨i, j, hx, rfl, q⟩ := h
  obtain ⟨t', rfl⟩ : ∃ t, u = .int j t := ry
  rcases hx with rfl | ⟨b, rfl, rfl⟩
  · obtain ⟨t, rfl⟩ : ∃ t, v = .int i t := rx
    exact sub_int ⟨.int (i - j), H, I.tok _, ⟨_, rfl⟩, q⟩
  · obtain rfl : v = .bool b := rx
    exact PySem.IntBool.sub_bool_int ⟨.int _, H, I.tok _, ⟨_, rfl⟩, q⟩
theorem un_negN : UnR X (unaryOp .USub) (fun x H Q => ∃ i, numI x i ∧ Q (.int (-i)) H) := by
  intro pins s σ H x v Q I rx h
  obtain ⟨i, hx, q⟩ := h
  rcases hx with rfl | ⟨b, rfl, rfl⟩
  · obtain ⟨t, rfl⟩ : ∃ t, v = .int i t := rx
    exact neg_int ⟨.int (-i), H, I.tok _, ⟨_, rfl⟩, q⟩
  · obtain rfl : v = .bool b := rx
    have g : Gives (Builtin.«int.__neg__» ⟨[.bool b], []⟩) (.int (-(if b = true then (1 : Int) else 0))) := by cases b <;> exact .of_eq rfl
    exact unaryOp_gives (op := .USub) (typeIs_bool' s b) rfl F.slot_bool_neg F.entry_int_neg (F.args_int_neg_1 _) g ⟨.int _, H, I.tok _, ⟨_, rfl⟩, q⟩
theorem op_eqN (hu : X.A.units + 64 < cLine) : OpR X (compareOp .Eq) (fun x y H Q => ∃ i j, numI x i ∧ y = .int j ∧ Q (.bl (decide (i = j))) H) := by
  intro pins s σ H x y v u Q I rx ry h
  obtain ⟨i, j, hx, rfl, q⟩ := h
  obtain ⟨t', rfl⟩ : ∃ t, u = .int j t := ry
  rcases hx with rfl | ⟨b, rfl, rfl⟩
  · obtain ⟨t, rfl⟩ : ∃ t, v = .int i t := rx
    refine SeqAt.compareEq_shaped (Reads.int i t) (Reads.int j t') rfl rfl hu ⟨.bl (decide (i = j)), H, I, ?_, q⟩
    show Value.bool (i == j) = Value.bool (decide (i = j))
    by_cases e : i = j <;> simp [e]
  · obtain rfl : v = .bool b := rx
    refine SeqAt.compareEq_shaped (Reads.bool b) (Reads.int j t') rfl rfl hu ⟨.bl (decide ((if b = true then (1 : Int) else 0) = j)), H, I, ?_, q⟩
    show Value.bool (PyData.eqv (.bool b) (.int j)) = Value.bool (decide _)
    cases b <;> simp [PyData.eqv, eq_comm] <;> (rw [Bool.eq_iff_iff, beq_iff_eq, decide_eq_true_iff]; exact eq_comm)
theorem op_eqT0 (hu : X.A.units + 64 < cLine) : OpR X (compareOp .Eq) (fun x y H Q => ∃ a b xs, x = .ref a ∧ y = .ref b ∧ SqT X.K H a xs ∧ SqT X.K H b [] ∧ Q (.bl (decide (xs = []))) H) := by
  intro pins s σ H x y v u Q I rx ry h
  obtain ⟨a, b, xs, rfl, rfl, ha, hb, q⟩ := h
  obtain rfl : v = .ref a := rx
  obtain rfl : u = .ref b := ry
  obtain ⟨i1, r1, p1, _⟩ := I.tuple ha
  obtain ⟨i2, r2, p2, _⟩ := I.tuple hb
  cases r2
  refine SeqAt.eq_tupleAt (e := fun _ => true) p1 p2 (by omega) (fun j h1 h2 => absurd h2 (by simp)) ⟨.bl (decide (xs = [])), H, I, ?_, q⟩
  show Value.bool _ = Value.bool _
  congr 1
  have l1 := r1.length
  cases i1 with
  | nil =>
    have : xs = [] := List.length_eq_zero_iff.mp l1
    simp [this]
  | cons z zs =>
    have : xs ≠ [] := fun e => by rw [e] at l1; cases l1
    simp [this]
/-- t >= u of two pairs of numbers -/
def pGe (p q : Int × Int) : Bool := if p.1 = q.1 then decide (q.2 ≤ p.2) else decide (q.1 ≤ p.1)
theorem op_geP (hu : X.A.units < cLine) : OpR X (compareOp .GtE) (fun x y H Q => ∃ (a b : Addr) (p q : Int × Int), x = .ref a ∧ y = .ref b ∧ SqT X.K H a [.int p.1, .int p.2] ∧ SqT X.K H b [.int q.1, .int q.2] ∧ Q (.bl (pGe p q)) H) := by
  intro pins s σ H x y v u Q I rx ry h
  obtain ⟨a, b, p, q, rfl, rfl, ha, hb, k⟩ := h
  cases rx
  cases ry
  obtain ⟨its, r1, p1, _⟩ := I.tuple ha
  obtain ⟨its2, r2, p2, _⟩ := I.tuple hb
  obtain ⟨x1, x2, rfl, hx1, hx2⟩ := vals2 r1
  obtain ⟨y1, y2, rfl, hy1, hy2⟩ := vals2 r2
  obtain ⟨t1, rfl⟩ : ∃ t, x1 = .int p.1 t := hx1
  obtain ⟨t2, rfl⟩ : ∃ t, x2 = .int p.2 t := hx2
  obtain ⟨t3, rfl⟩ : ∃ t, y1 = .int q.1 t := hy1
  obtain ⟨t4, rfl⟩ : ∃ t, y2 = .int q.2 t := hy2
  let ns := [p.1, p.2]
  let ms := [q.1, q.2]
  have R := Ob.RcOp.tuples_ge (A := X.A) (s := s) (e := fun j => ns.getD j 0 == ms.getD j 0) (r := fun j => decide (ms.getD j 0 ≤ ns.getD j 0)) p1 p2 hu (fun j h1 h2 => by
    match j, h1 with
    | 0, _ => exact SeqAt.EqAt.int_int _ _ _ _
    | 1, _ => exact SeqAt.EqAt.int_int _ _ _ _) (fun j h1 h2 _ => by
    match j, h1 with
    | 0, _ => exact Ob.RcOp.ge_int _ _ _ _
    | 1, _ => exact Ob.RcOp.ge_int _ _ _ _)
  have e : Ob.lexAt (fun j => ns.getD j 0 == ms.getD j 0) (fun j => decide (ms.getD j 0 ≤ ns.getD j 0)) (decide (2 ≥ 2)) 0 2 = pGe p q := by
    show (if (p.1 == q.1) = true then (if (p.2 == q.2) = true then _ else decide (q.2 ≤ p.2)) else decide (q.1 ≤ p.1)) = _
    unfold pGe
    by_cases e1 : p.1 = q.1
    · rw [if_pos (beq_iff_eq.mpr e1), if_pos e1]
      by_cases e2 : p.2 = q.2
      · rw [if_pos (beq_iff_eq.mpr e2), e2]
        simp [Ob.lexAt]
      · rw [if_neg (fun z => e2 (beq_iff_eq.mp z))]
    · rw [if_neg (fun z => e1 (beq_iff_eq.mp z)), if_neg e1]
  have z : wpAny (model X.prog X.w) X.A (compareOp .GtE (.ref a) (.ref b)) (EP X pins σ Q) X.xe s := R X.prog X.w X.xe (EP X pins σ Q) ⟨.bl (pGe p q), H, I, by
    show Value.bool (Ob.lexAt _ _ _ 0 _) = Value.bool _
    exact congrArg _ e, k⟩
  exact z
theorem op_eqT0K {K : PySem.W.Frag} (hK : X.K = K) (hu : X.A.units + 64 < cLine) : OpR X (compareOp .Eq) (fun x y H Q => ∃ a b xs, x = .ref a ∧ y = .ref b ∧ SqT K H a xs ∧ SqT K H b [] ∧ Q (.bl (decide (xs = []))) H) := hK ▸ op_eqT0 hu
theorem op_gePK {K : PySem.W.Frag} (hK : X.K = K) (hu : X.A.units < cLine) : OpR X (compareOp .GtE) (fun x y H Q => ∃ (a b : Addr) (p q : Int × Int), x = .ref a ∧ y = .ref b ∧ SqT K H a [.int p.1, .int p.2] ∧ SqT K H b [.int q.1, .int q.2] ∧ Q (.bl (pGe p q)) H) := hK ▸ op_geP hu
end
end L2

namespace Wn
open PySem L2
/-! ### terms that make data, all of it new -/
def nw (H H' : Hp) : Hp := fun a => if H a = none then H' a else none
theorem nw_sub {H H' : Hp} : Same (nw H H') H' := fun a o h => by
  unfold nw at h
  split at h
  · exact h
  · cases h
theorem nw_right {H H1 H2 : Hp} (s : Same H1 H2) : Same (nw H H1) (nw H H2) := fun a o h => by
  unfold nw at h ⊢
  split at h
  · rename_i n
    rw [if_pos n]
    exact s _ _ h
  · cases h
theorem nw_left {H H1 H2 : Hp} (s : Same H H1) : Same (nw H1 H2) (nw H H2) := fun a o h => by
  unfold nw at h ⊢
  split at h
  · rename_i n
    have n0 : H a = none := by
      cases e : H a with
      | none => rfl
      | some x => rw [s _ _ e] at n; cases n
    rw [if_pos n0]
    exact h
  · cases h
theorem nw_at {H H1 H2 : Hp} {a : Addr} {o : HO} (s : Same H H1) (n : H1 a = none) (h : H2 a = some o) : nw H H2 a = some o := by
  have n0 : H a = none := by
    cases e : H a with
    | none => rfl
    | some x => rw [s _ _ e] at n; cases n
  unfold nw
  rw [if_pos n0]
  exact h
theorem nw_hid {d : Addr} {H H' : Hp} (n : H d ≠ none) : Same (nw H H') (hid d H') := fun a o h => by
  unfold nw at h
  split at h
  · rename_i z
    exact hid_at (fun e => n (e ▸ z)) h
  · cases h
def Mk (t : TE) (D : PyData) : Prop := ∀ σ H Q, (∀ H' v, Same H H' → Dq (nw H H') v D → Q v H') → t σ H Q
def MkA (t : TA) (Ds : List PyData) : Prop := ∀ σ H Q, (∀ H' vs, Same H H' → DqAll (nw H H') vs Ds → Q vs H') → t σ H Q
theorem Mk.non : Mk (tC .non) .none := fun σ H Q h => h H .non (L2.Same.refl _) .non
theorem Mk.bl {b : Bool} : Mk (tC (.bl b)) (.bool b) := fun σ H Q h => h H (.bl b) (L2.Same.refl _) (.bl b)
theorem Mk.int {i : Int} : Mk (tC (.int i)) (.int i) := fun σ H Q h => h H (.int i) (L2.Same.refl _) (.int i)
theorem Mk.str {x : Str} : Mk (tC (.str x)) (.str x) := fun σ H Q h => h H (.str x) (L2.Same.refl _) (.str x)
theorem Mk.neg {i : Int} : Mk (tUn (rU fun i => V.int (-i)) (tC (.int i))) (.int (-i)) := fun σ H Q h => ⟨i, rfl, h H (.int (-i)) (L2.Same.refl _) (.int _)⟩
theorem Mk.pow {i j : Int} (c : CPow i j) : Mk (tOp (rI CPow fun i j => V.int (i ^ j.toNat)) (tC (.int i)) (tC (.int j))) (.int (i ^ j.toNat)) := fun σ H Q h => ⟨i, j, rfl, rfl, c, h H _ (L2.Same.refl _) (.int _)⟩
theorem Mk.dnew : Mk tDNewK (.dict []) := fun σ H Q h p np => h _ _ ((L2.Same.refl _).new np) (.dct (nw_at (L2.Same.refl _) np upd_same) .nil)
theorem MkA.nil : MkA tNil [] := fun σ H Q h => h H [] (L2.Same.refl _) .nil
theorem MkA.cons {t : TE} {r : TA} {D : PyData} {Ds : List PyData} (h1 : Mk t D) (h2 : MkA r Ds) : MkA (tCons t r) (D :: Ds) := fun σ H Q h =>
  h1 σ H _ fun H1 v s1 d1 => h2 σ H1 _ fun H2 vs s2 d2 => h H2 _ (s1.trans s2) (.cons (d1.sm (nw_right s2)) (d2.sm (nw_left s1)))
theorem Mk.tup {r : TA} {Ds : List PyData} (h1 : MkA r Ds) (l : Ds.length ≤ 100000) : Mk (tTup r) (.tuple Ds) := fun σ H Q h =>
  h1 σ H _ fun H1 vs s1 d1 => ⟨by rw [d1.len]; exact Nat.le_trans l (by decide), fun p np => by
    have s2 : Same H1 (upd H1 p (.tup vs)) := (L2.Same.refl _).new np
    exact h _ _ (s1.trans s2) (.tup (nw_at s1 np upd_same) (d1.sm (nw_right s2)))⟩
theorem Mk.lst {r : TA} {Ds : List PyData} (h1 : MkA r Ds) (l : Ds.length ≤ 100000) : Mk (tLst r) (.list Ds) := fun σ H Q h =>
  h1 σ H _ fun H1 vs s1 d1 => ⟨by rw [d1.len]; exact Nat.le_trans l (by decide), fun p np => by
    have s2 : Same H1 (upd H1 p (.lst vs)) := (L2.Same.refl _).new np
    exact h _ _ (s1.trans s2) (.lst (nw_at s1 np upd_same) (d1.sm (nw_right s2)))⟩
end Wn

set_option maxHeartbeats 1600000
namespace Wn
open PySem L2
set_option pp.maxSteps 700
set_option pp.deepTerms false
local macro_rules | `(tactic| walk_at "h") => `(tactic| first | with_reducible assumption | (with_reducible exact upd_same) | (with_reducible apply g_upd; (walk_at "neq"); (walk_at "h")) | (with_reducible apply g_same; (with_reducible assumption); (walk_at "h")) | (with_reducible apply g_kp; (with_reducible assumption); (walk_at "nin"); (walk_at "h")) | (with_reducible apply g_tk; (with_reducible assumption); (walk_at "h")))
local macro_rules | `(tactic| walk_at "neq") => `(tactic| first | with_reducible assumption | (with_reducible apply Ne.symm; with_reducible assumption) | (with_reducible apply ne_upd; (with_reducible assumption)) | (with_reducible apply Ne.symm; with_reducible apply ne_upd; with_reducible assumption) | (with_reducible apply ne_fr; (with_reducible assumption); (walk_at "h")) | (with_reducible apply ne_fr'; (with_reducible assumption); (walk_at "h")) | (with_reducible apply ne_kd; (walk_at "h"); (walk_at "h"); (with_unfolding_all (intro z; cases z))))
local macro_rules | `(tactic| walk_at "nin") => `(tactic| first | (with_reducible exact nin0) | with_reducible assumption | (with_reducible apply ninc; (walk_at "neq"); (walk_at "nin")))
local macro_rules | `(tactic| walk_at "none") => `(tactic| first | with_reducible assumption | (with_reducible apply n_upd; (with_reducible assumption)) | (with_reducible apply n_same; (with_reducible assumption); (walk_at "none")) | (with_reducible apply n_kp; (with_reducible assumption); (walk_at "nin"); (walk_at "none")))
local macro_rules | `(tactic| walk_at "mem") => `(tactic| first | (with_reducible exact List.mem_cons_self) | (with_reducible apply List.mem_cons_of_mem; (walk_at "mem")))
local macro_rules | `(tactic| walk_at "am") => `(tactic| first | (with_reducible exact am0) | (with_reducible apply am1; (first | (apply Or.inl; walk_at "mem") | (apply Or.inr; walk_at "none")); (walk_at "am")))
local macro_rules | `(tactic| walk_at "tk") => `(tactic| first | (with_reducible exact TK.refl _) | with_reducible assumption | (with_reducible apply t_tk; (with_reducible assumption); (walk_at "tk")) | (with_reducible apply t_same; (with_reducible assumption); (walk_at "tk")) | (with_reducible apply t_new; (with_reducible assumption); (walk_at "tk")) | (with_reducible apply t_wr; (walk_at "h"); (with_unfolding_all rfl); (walk_at "tk")))
local macro_rules | `(tactic| walk_at "same") => `(tactic| first | (with_reducible exact L2.Same.refl _) | with_reducible assumption | (with_reducible apply s_same; (with_reducible assumption); (walk_at "same")) | (with_reducible apply s_new; (with_reducible assumption); (walk_at "same")) | (with_reducible apply s_wrn; (walk_at "none"); (walk_at "same")))
local macro_rules | `(tactic| walk_at "kp") => `(tactic| first | (with_reducible exact Kp.refl _ _) | with_reducible assumption | (with_reducible apply k_same; (with_reducible assumption); (walk_at "kp")) | (with_reducible apply k_kp; (with_reducible assumption); (walk_at "kp")) | (with_reducible apply k_kpm; (with_reducible assumption); (walk_at "am"); (walk_at "kp")) | (with_reducible apply k_new; (with_reducible assumption); (walk_at "kp")) | (with_reducible apply k_wr; (walk_at "mem"); (walk_at "kp")) | (with_reducible apply k_wrn; (walk_at "none"); (walk_at "kp")))
local macro_rules | `(tactic| walk_at "rp") => `(tactic| first | with_reducible assumption | (with_reducible exact Rp.int) | (with_reducible exact Rp.str) | (with_reducible exact Rp.none) | (with_reducible exact Rp.bool) | (with_reducible apply Rp.tk'; (with_reducible assumption); (walk_at "tk")) | (with_reducible apply Rp.tup; (walk_at "h"); (walk_at "rpl")))
local macro_rules | `(tactic| walk_at "rpl") => `(tactic| first | with_reducible assumption | (with_reducible exact RpL.nil) | (with_reducible apply RpL.tk'; (with_reducible assumption); (walk_at "tk")) | (with_reducible apply RpL.cons; (walk_at "rp"); (walk_at "rpl")))
local macro_rules | `(tactic| walk_at "g") => `(tactic| repeat (first | refine ⟨_, rfl, ?_⟩ | refine ⟨_, _, rfl, rfl, ?_⟩ | refine ⟨rfl, _, rfl, ?_⟩ | refine ⟨_, _, rfl, rfl, (by first | decide | omega), ?_⟩))
abbrev sOddL : Stmt := top 38
abbrev sSpoilt : Stmt := top 39
structure KB9 (mg : Str → Option Value) : Prop where
  isinstance : mg "isinstance" = none
  str : mg "str" = none
  int : mg "int" = none
  bool : mg "bool" = none
  tuple : mg "tuple" = none
  list : mg "list" = none
  range : mg "range" = none
  len : mg "len" = none
theorem slA_t {K : PySem.W.Frag} {H : Hp} {a : Addr} {xs zs : List V} {lo hi : Option Int} {Q : VK} (h : H a = some (.tup xs)) (hz : cutL xs lo hi = zs) (q : ∀ (H' : Hp) (x : Addr), Same H H' → H' x = some (.tup zs) → Q (.ref x) H') : rSlA K (.ref a) lo hi H Q := by
  subst hz
  refine ⟨a, xs, rfl, SqT.of h, fun hw => ?_, fun hw p hp => ?_⟩
  · refine q H a (L2.Same.refl _) ?_
    have e : cutL xs lo hi = xs := by
      unfold cutL
      rw [hw.1, hw.2, List.drop_zero, Nat.sub_zero, List.take_length]
    rw [e]
    exact h
  · exact q _ p ((L2.Same.refl _).new hp) upd_same
theorem catA_t {K : PySem.W.Frag} {H : Hp} {a b : Addr} {xs ys : List V} {Q : VK} (ha : H a = some (.tup xs)) (hb : H b = some (.tup ys)) (hl : xs.length + ys.length ≤ 1000000) (q : ∀ (H' : Hp) (x : Addr), Same H H' → H' x = some (.tup (xs ++ ys)) → Q (.ref x) H') : rCatA K (.ref a) (.ref b) H Q := by
  refine ⟨a, b, xs, ys, rfl, rfl, SqT.of ha, SqT.of hb, Nat.le_trans hl (by decide), fun e => ?_, fun _ e => ?_, fun _ _ p hp => ?_⟩
  · subst e
    exact q H b (L2.Same.refl _) hb
  · subst e
    exact q H a (L2.Same.refl _) (by rw [List.append_nil]; exact ha)
  · exact q _ p ((L2.Same.refl _).new hp) upd_same
theorem gq_sub {M : Nat} {ds es : List PyData} (g : gq M (.tuple ds) = true) (h : ∀ x ∈ es, x ∈ ds) : gq (M + 1) (.tuple es) = true :=
  gqs_all.mpr fun x hx => gq_mono (Nat.le_succ _) (gqs_all.mp (show gqs M ds = true from g) x (h x hx))
theorem dep_sub {ds es : List PyData} (h : ∀ x ∈ es, x ∈ ds) : (PyData.tuple es).depth ≤ (PyData.tuple ds).depth + 3 := by
  rw [depth_tup, depth_tup]
  have : PyData.depthAll es ≤ PyData.depthAll ds := depthAll_le.mpr fun x hx => depthAll_le.mp (Nat.le_refl _) x (h x hx)
  omega
theorem bulk_t {ds : List PyData} : (PyData.tuple ds).bulk = PyData.bulkAll ds := by simp only [PyData.bulk]
theorem bulk_l {ds : List PyData} : (PyData.list ds).bulk = PyData.bulkAll ds := by simp only [PyData.bulk]
theorem bulk_c {d : PyData} {ds : List PyData} : PyData.bulkAll (d :: ds) = d.bulk + 1 + PyData.bulkAll ds := by simp only [PyData.bulkAll]
theorem bulk_n : PyData.bulkAll [] = 0 := rfl
theorem sp_drop {M W i : Nat} {ds : List PyData} (g : gq M (.tuple ds) = true) (hW : wid (.tuple ds) ≤ W) : GQ (M + 1) ((PyData.tuple ds).depth + 3) (2 * (PyData.tuple ds).bulk + 20) (W + 1) (.tuple (ds.take i ++ ds.drop (i + 1))) := by
  have hs : ∀ x ∈ ds.take i ++ ds.drop (i + 1), x ∈ ds := fun x hx => (List.mem_append.mp hx).elim List.mem_of_mem_take List.mem_of_mem_drop
  have hW := wid_t.mp hW
  have wx : ∀ x ∈ _, wid x ≤ W + 1 := fun x hx => Nat.le_succ_of_le (hW.2 x (hs x hx))
  refine ⟨gq_sub g hs, dep_sub hs, ?_, wid_t.mpr ⟨?_, wx⟩⟩
  rotate_left
  · simp only [List.length_append, List.length_take, List.length_drop, List.length_reverse]
    have := hW.1
    omega
  rw [bulk_t, bulk_t, bulk_app]
  have h1 := bulk_split ds i
  have h2 := bulk_split (ds.drop i) 1
  rw [List.drop_drop] at h2
  omega
theorem sp_two {M W i : Nat} {ds : List PyData} (g : gq M (.tuple ds) = true) (hW : wid (.tuple ds) ≤ W) : GQ (M + 1) ((PyData.tuple ds).depth + 3) (2 * (PyData.tuple ds).bulk + 20) (W + 1) (.tuple (ds.take i ++ (ds.drop i).take 1 ++ ds.drop i)) := by
  have hs : ∀ x ∈ ds.take i ++ (ds.drop i).take 1 ++ ds.drop i, x ∈ ds := fun x hx => (List.mem_append.mp hx).elim (fun z => (List.mem_append.mp z).elim List.mem_of_mem_take fun z => List.mem_of_mem_drop (List.mem_of_mem_take z)) List.mem_of_mem_drop
  have hW := wid_t.mp hW
  have wx : ∀ x ∈ _, wid x ≤ W + 1 := fun x hx => Nat.le_succ_of_le (hW.2 x (hs x hx))
  refine ⟨gq_sub g hs, dep_sub hs, ?_, wid_t.mpr ⟨?_, wx⟩⟩
  rotate_left
  · simp only [List.length_append, List.length_take, List.length_drop, List.length_reverse]
    have := hW.1
    omega
  rw [bulk_t, bulk_t, bulk_app, bulk_app]
  have h1 := bulk_split ds i
  have h2 := bulk_split (ds.drop i) 1
  omega
theorem sp_rev {M W : Nat} {ds : List PyData} (g : gq M (.tuple ds) = true) (hW : wid (.tuple ds) ≤ W) : GQ (M + 1) ((PyData.tuple ds).depth + 3) (2 * (PyData.tuple ds).bulk + 20) (W + 1) (.tuple ds.reverse) := by
  have hs : ∀ x ∈ ds.reverse, x ∈ ds := fun x hx => List.mem_reverse.mp hx
  have hW := wid_t.mp hW
  have wx : ∀ x ∈ _, wid x ≤ W + 1 := fun x hx => Nat.le_succ_of_le (hW.2 x (hs x hx))
  refine ⟨gq_sub g hs, dep_sub hs, ?_, wid_t.mpr ⟨?_, wx⟩⟩
  rotate_left
  · simp only [List.length_append, List.length_take, List.length_drop, List.length_reverse]
    have := hW.1
    omega
  rw [bulk_t, bulk_t, bulk_rev]
  omega
theorem sp_put {M W i : Nat} {ds : List PyData} (g : gq M (.tuple ds) = true) (hW : wid (.tuple ds) ≤ W) (hi : i < ds.length) {e : PyData} (h : GQ (M + 1) (ds[i].depth + 3) (2 * ds[i].bulk + 20) (W + 1) e) : GQ (M + 1) ((PyData.tuple ds).depth + 3) (2 * (PyData.tuple ds).bulk + 20) (W + 1) (.tuple (ds.take i ++ [e] ++ ds.drop (i + 1))) := by
  have hm : ∀ x ∈ ds.take i ++ [e] ++ ds.drop (i + 1), x ∈ ds ∨ x = e := fun x hx => (List.mem_append.mp hx).elim (fun z => (List.mem_append.mp z).elim (fun z => .inl (List.mem_of_mem_take z)) fun z => .inr (List.mem_singleton.mp z)) fun z => .inl (List.mem_of_mem_drop z)
  have hd : ∀ x ∈ ds, x.depth ≤ PyData.depthAll ds := depthAll_le.mp (Nat.le_refl _)
  have hW := wid_t.mp hW
  refine ⟨gqs_all.mpr fun x hx => ?_, ?_, ?_, wid_t.mpr ⟨?_, fun x hx => ?_⟩⟩
  rotate_right 2
  · simp only [List.length_append, List.length_take, List.length_drop, List.length_singleton]
    have := hW.1
    omega
  · rcases hm x hx with z | rfl
    · exact Nat.le_succ_of_le (hW.2 x z)
    · exact h.w
  · rcases hm x hx with z | rfl
    · exact gq_mono (Nat.le_succ _) (gqs_all.mp (show gqs M ds = true from g) x z)
    · exact h.g
  · rw [depth_tup, depth_tup]
    have : PyData.depthAll (ds.take i ++ [e] ++ ds.drop (i + 1)) ≤ PyData.depthAll ds + 3 := depthAll_le.mpr fun x hx => by
      rcases hm x hx with z | rfl
      · have := hd x z
        omega
      · have := hd _ (List.getElem_mem hi)
        have := h.n
        omega
    omega
  · rw [bulk_t, bulk_t, bulk_app, bulk_app, bulk_c, bulk_n]
    have h1 := bulk_split ds i
    rw [List.drop_eq_getElem_cons hi, bulk_c] at h1
    have := h.b
    omega
theorem bulk_at {ds : List PyData} {i : Nat} (hi : i < ds.length) : ds[i].bulk ≤ (PyData.tuple ds).bulk := by
  rw [bulk_t]
  have h1 := bulk_split ds i
  rw [List.drop_eq_getElem_cons hi, bulk_c] at h1
  omega
theorem sp_of {M N B W' W : Nat} {e : PyData} (h : GQ M N B W' e) (D : PyData) (h1 : N ≤ 3) (h2 : B ≤ 20) {M' : Nat} (h3 : M ≤ M' + 1) (h4 : W' ≤ W + 1) : GQ (M' + 1) (D.depth + 3) (2 * D.bulk + 20) (W + 1) e := h.mono h3 (by omega) (by omega) h4
theorem tup_q {d cs x : Addr} {n : Int} {H : Hp} {zs : List V} {Ds : List PyData} (D : Deck4 H d cs n) (r : H x = some (.tup zs)) (q : DqAll (hid d H) zs Ds) : Dq (hid d H) (.ref x) (.tuple Ds) := by
  refine .tup (hid_at (fun z => ?_) r) q
  obtain ⟨ys, hz⟩ := D.l1
  rw [z, hz] at r
  cases r
theorem Dq.of_hid {d : Addr} {H : Hp} {v : V} {D : PyData} (h : Dq (hid d H) v D) : Dq H v D := h.sm hid_sub
theorem DqAll.rev {H : Hp} : ∀ {xs : List V} {ds : List PyData}, DqAll H xs ds → DqAll H xs.reverse ds.reverse
  | _, _, .nil => .nil
  | _, _, .cons h1 h2 => by
    rw [List.reverse_cons, List.reverse_cons]
    exact (DqAll.rev h2).app (.cons h1 .nil)
def spOddL : Sp := fun vs H Q _ => ∃ (d cs : Addr) (n : Int), vs = [.ref d] ∧ Deck4 H d cs n ∧ n < 2 ^ 38 ∧
  ∀ (H' : Hp) (v : V) (D : PyData), Kp [d] H H' → Deck4 H' d cs (n + 1) → Dq (hid d H') v D → GQ (10 ^ 29) 3 20 3 D → Q v H'
def spSpoilt (m : Nat) : Sp := fun vs H Q _ => ∃ (d cs : Addr) (n : Int) (v : V) (D : PyData) (M W : Nat), vs = [.ref d, v, .int m] ∧ Deck4 H d cs n ∧ n < 2 ^ 37 + 2 ^ 20 - 10 * m ∧ Dq (hid d H) v D ∧ gq M D = true ∧ 10 ^ 29 ≤ M ∧ D.bulk ≤ 500000 ∧ wid D ≤ W ∧ 3 ≤ W ∧
  ∀ (H' : Hp) (v' : V) (D' : PyData), Kp [d] H H' → Deck4 H' d cs (n + 10 * (m + 1)) → Dq (hid d H') v' D' → GQ (M + 1) (D.depth + 3) (2 * D.bulk + 20) (W + 1) D' → Q v' H'
def odd1 : List PyData := [.none, .bool true, .bool false, .int 0, .int (-1), .int 7, .int (10 ^ (29 : Int).toNat), .str "", .str "a", .str "come", .str "hand", .tuple [], .list [], .dict [], .tuple [.int 0], .tuple [.int 0, .int 1], .tuple [.tuple [], .tuple []]]
def odd2 : List PyData := [.tuple [.str "come", .int 0, .str "hand"], .tuple [.str "go", .int 0], .tuple [.str "lose", .int 0, .int 0], .tuple [.tuple [.str "come", .int 0, .str "hand"]], .tuple [.tuple [.tuple [.str "go", .int 0]], .tuple []]]
theorem odd_ok : ∀ D ∈ odd1 ++ odd2, GQ (10 ^ 29) 3 20 3 D := by
  have h : ∀ D ∈ odd1 ++ odd2, gq (10 ^ 29) D = true ∧ D.depth ≤ 3 ∧ D.bulk ≤ 20 ∧ wid D ≤ 3 := by decide +kernel
  exact fun D hD => ⟨(h D hD).1, (h D hD).2.1, (h D hD).2.2.1, (h D hD).2.2.2⟩

section
variable {P : Program} {w : World} {K : PySem.W.Frag} {mg : Str → Option Value} {base : Heap}
theorem scOddL : FnScope ["_law_deck_here", "_law_some"] ["_law_deck_here"] (defScope sOddL) := ⟨rfl, rfl, rfl, by decide +kernel, rfl, by decide +kernel, by decide +kernel⟩
theorem ok_oddL {f : Addr} {fd : FuncData} (F : Fun K "_law_odd" "_law_odd" sOddL f fd) (B : KB9 mg) (cN : Cd P w K mg base 2 "_law_next" ["_law_deck_here", "_law_many"] spNext4) : FnOk P w K mg base CX0 3 f fd ["_law_deck_here"] spOddL := by
  obtain ⟨fN, fdN, GN, mN, kN, bN⟩ := cN.tk
  refine F.ok scOddL (fun vs H Q E h => ?_) (fun cdv A outer s H vs Q E hr h => ?_)
  · obtain ⟨d, cs, n, rfl, _⟩ := h
    rfl
  · obtain ⟨d, cs, n, rfl, D, hn, k⟩ := h
    have hr2 : Room 2 _ := hr.mono (by decide)
    refine ⟨_, (pss_cons (ps_set (i := 1) scOddL.nd rfl (Or.inl rfl) (pe_lst (pa_cons pe_non (pa_cons pe_bl (pa_cons pe_bl (pa_cons pe_int (pa_cons (pe_un un_neg pe_int) (pa_cons pe_int (pa_cons (pe_op op_pow pe_int pe_int) (pa_cons pe_str (pa_cons pe_str (pa_cons pe_str (pa_cons pe_str (pa_cons (pe_tup pa_nil) (pa_cons (pe_lst pa_nil) (pa_cons pe_dnewK (pa_cons (pe_tup (pa_cons pe_int pa_nil)) (pa_cons (pe_tup (pa_cons pe_int (pa_cons pe_int pa_nil))) (pa_cons (pe_tup (pa_cons (pe_tup pa_nil) (pa_cons (pe_tup pa_nil) pa_nil))) pa_nil)))))))))))))))))))
       (pss_cons (ps_set (i := 1) scOddL.nd rfl (Or.inl rfl) (pe_op op_cat (pv 1) (pe_lst (pa_cons (pe_tup (pa_cons pe_str (pa_cons pe_int (pa_cons pe_str pa_nil)))) (pa_cons (pe_tup (pa_cons pe_str (pa_cons pe_int pa_nil))) (pa_cons (pe_tup (pa_cons pe_str (pa_cons pe_int (pa_cons pe_int pa_nil)))) (pa_cons (pe_tup (pa_cons (pe_tup (pa_cons pe_str (pa_cons pe_int (pa_cons pe_str pa_nil)))) pa_nil)) (pa_cons (pe_tup (pa_cons (pe_tup (pa_cons (pe_tup (pa_cons pe_str (pa_cons pe_int pa_nil))) pa_nil)) (pa_cons (pe_tup pa_nil) pa_nil))) pa_nil))))))))
       (pss_one (ps_ret (pe_ix (ixL (K := K) rfl) (pv 1) (pe_call GN hr2 rfl mN kN bN .nil pass0 (pa_cons (pv 0) (pa_cons (pe_callB (lenK (K := K) rfl) (by rfl) B.len PySem.boot_len (pa_cons (pv 1) pa_nil)) pa_nil))) (fun _ _ => rfl)))))), ?_⟩
    have nd : H d ≠ none := by
      obtain ⟨zs, hz⟩ := D.l1
      rw [hz]
      exact fun z => by cases z
    refine seq_set ((Mk.lst (Ds := odd1) (by repeat first | exact Mk.non | exact Mk.bl | exact Mk.int | exact Mk.str | exact Mk.neg | exact Mk.dnew | exact MkA.nil | refine MkA.cons ?_ ?_ | refine Mk.tup ?_ (by decide) | refine Mk.lst ?_ (by decide) | refine Mk.pow ⟨by decide, by decide, by decide⟩) (by decide)) _ _ _ fun H1 v1 s1 d1 => ?_)
    refine ⟨_, rfl, (Mk.lst (Ds := odd2) (by repeat first | exact Mk.non | exact Mk.bl | exact Mk.int | exact Mk.str | exact Mk.neg | exact Mk.dnew | exact MkA.nil | refine MkA.cons ?_ ?_ | refine Mk.tup ?_ (by decide) | refine Mk.lst ?_ (by decide) | refine Mk.pow ⟨by decide, by decide, by decide⟩) (by decide)) _ _ _ fun H2 v2 s2 d2 => ?_⟩
    obtain ⟨l1, xs1, rfl, g1, q1⟩ := d1.inv_lst
    obtain ⟨l2, xs2, rfl, g2, q2⟩ := d2.inv_lst
    have x1 : xs1.length = 17 := q1.len
    have x2 : xs2.length = 5 := q2.len
    refine ⟨l1, l2, xs1, xs2, rfl, rfl, s2 _ _ (nw_sub _ _ g1), nw_sub _ _ g2, by rw [x1, x2]; decide, fun l3 n_l3 => ?_⟩
    obtain ⟨H3, e_H3, s3, r3⟩ := new_any n_l3
    rw [← e_H3]
    clear e_H3
    have D3 := ((D.same s1).same s2).same s3
    have n3d : l3 ≠ d := new_ne (o := _) (s2 _ _ (s1 _ _ (D.l1.choose_spec))) (L2.Same.refl _) n_l3
    have x3 : (xs1 ++ xs2).length = 22 := by rw [List.length_append, x1, x2]
    refine ⟨_, rfl, _, rfl, _, rfl, _, _, rfl, .inl ⟨_, SqL.of r3, rfl⟩, d, cs, _, n, rfl, by omega, by omega, by omega, D3, fun c H4 c0 c1 k4 D4 t4 => ?_⟩
    have q3 : DqAll (hid d H3) (xs1 ++ xs2) (odd1 ++ odd2) := ((q1.sm (nw_hid nd)).sm (hid_same (s2.trans s3))).app ((q2.sm (nw_hid (fun z => nd (by cases e : H d with | none => rfl | some x => rw [s1 _ _ e] at z; cases z)))).sm (hid_same s3))
    obtain ⟨i, rfl⟩ : ∃ i : Nat, c = (i : Int) := ⟨c.toNat, by omega⟩
    have hi : i < (odd1 ++ odd2).length := by show i < 22; omega
    obtain ⟨v, ev, dv⟩ := q3.get (List.getElem?_eq_getElem hi)
    refine ⟨l3, _, i, v, rfl, rfl, SqL.of (k4 _ _ (nin1 n3d) r3), atI_nat ev, ?_⟩
    exact k H4 v _ (Kp.trans (Kp.of ((s1.trans s2).trans s3)) k4) D4 (dv.sm (hid_kp k4)) (odd_ok _ (List.getElem_mem hi))
theorem scSpoilt : FnScope ["_law_deck_here", "_law_thing", "_law_deep", "_law_at", "_law_way"] ["_law_deck_here", "_law_thing", "_law_deep"] (defScope sSpoilt) := ⟨rfl, rfl, rfl, by decide +kernel, rfl, by decide +kernel, by decide +kernel⟩
theorem st_spoilt {f : Addr} {fd : FuncData} (m : Nat) (S : Sp) (hS : ∀ m', m = m' + 1 → S = spSpoilt m') (F : Fun K "_law_spoilt" "_law_spoilt" sSpoilt f fd) (B : KB9 mg) (cN : Cd P w K mg base 2 "_law_next" ["_law_deck_here", "_law_many"] spNext4) (cO : Cd P w K mg base 3 "_law_odd" ["_law_deck_here"] spOddL)
    (cS : Cd P w K mg base (m + 3) "_law_spoilt" ["_law_deck_here", "_law_thing", "_law_deep"] S) : FnOk P w K mg base CX0 (m + 4) f fd ["_law_deck_here", "_law_thing", "_law_deep"] (spSpoilt m) := by
  obtain ⟨fN, fdN, GN, mN, kN, bN⟩ := cN.tk
  obtain ⟨fO, fdO, GO, mO, kO, bO⟩ := cO.tk
  obtain ⟨fS, fdS, GS, mS, kS, bS⟩ := cS.tk
  refine F.ok scSpoilt (fun vs H Q E h => ?_) (fun cdv A outer s H vs Q E hr h => ?_)
  · obtain ⟨d, cs, n, v, D, M, W, rfl, _⟩ := h
    rfl
  · obtain ⟨d, cs, n, v, D, M, W, rfl, Dk, hn, hD, g, hM, hb, hW, hW3, k⟩ := h
    have hr2 : Room 2 _ := hr.mono (by omega)
    have hr3 : Room 3 _ := hr.mono (by omega)
    have hrS : Room (m + 3) _ := hr.mono (by omega)
    have hu := hu_of hr
    refine ⟨_, (pss_cons (ps_if (PW.pt (pw_or (pt_cmpR op_eq (pv 2) pe_int (nomark _)) (pw_or (pt_not (pt_val (pe_callB (isiK (K := K) rfl) (by rfl) B.isinstance (by decide +kernel) (pa_cons (pv 1) (pa_cons (pe_bltn (v := .ty "tuple") (by rfl) B.tuple PyProof.Rows.boot_tuple rfl) pa_nil))))) (pw_or (pt_cmpR (op_eqT0K (K := K) rfl (Nat.lt_of_succ_lt (room65 hr))) (pv 1) (pe_tup pa_nil) (nomark _)) (pw_or1 (pt_cmpR op_eq (pe_call GN hr2 rfl mN kN bN .nil pass0 (pa_cons (pv 0) (pa_cons pe_int pa_nil))) pe_int (nomark _)))))))
       (pss_cons (ps_if (PW.pt (pw_and (pt_val (pe_callB (isiK (K := K) rfl) (by rfl) B.isinstance (by decide +kernel) (pa_cons (pv 1) (pa_cons (pe_bltn (v := .ty "int") (by rfl) B.int PyProof.Rows.boot_int rfl) pa_nil)))) (pw_and1 (pt_cmpR op_eq (pe_call GN hr2 rfl mN kN bN .nil pass0 (pa_cons (pv 0) (pa_cons pe_int pa_nil))) pe_int (nomark _)))))
       (pss_one (ps_ret (pe_ix (ixL (K := K) rfl) (pe_lst (pa_cons (pe_op op_addN (pv 1) pe_int) (pa_cons (pe_op op_subN (pv 1) pe_int) (pa_cons (pe_un un_negN (pv 1)) (pa_cons (pe_cmpR (op_eqN (Nat.lt_of_succ_lt (room65 hr))) (pv 1) pe_int (nomark _)) (pa_cons (pe_lst (pa_cons (pv 1) pa_nil)) pa_nil)))))) (pe_call GN hr2 rfl mN kN bN .nil pass0 (pa_cons (pv 0) (pa_cons pe_int pa_nil))) (fun _ _ => rfl))))
       pss_nil)
       (pss_cons (ps_if (PW.pt (pw_and (pt_val (pe_callB (isiK (K := K) rfl) (by rfl) B.isinstance (by decide +kernel) (pa_cons (pv 1) (pa_cons (pe_bltn (v := .ty "tuple") (by rfl) B.tuple PyProof.Rows.boot_tuple rfl) pa_nil)))) (pw_and1 (pt_cmpR op_eq (pe_call GN hr2 rfl mN kN bN .nil pass0 (pa_cons (pv 0) (pa_cons pe_int pa_nil))) pe_int (nomark _)))))
       (pss_one (ps_ret (pe_callTy (lstOfK (K := K) rfl) (by rfl) B.list (by decide +kernel) (pa_cons (pv 1) pa_nil))))
       pss_nil)
       (pss_one (ps_ret (pe_call GO hr3 rfl mO kO bO .nil pass0 (pa_cons (pv 0) pa_nil))))))
       pss_nil)
       (pss_cons (ps_par (i := 3) (j := 4) (by rfl) scSpoilt.nd rfl rfl (by decide) rfl rfl (pa_cons (pe_call GN hr2 rfl mN kN bN .nil pass0 (pa_cons (pv 0) (pa_cons (pe_callB (lenK (K := K) rfl) (by rfl) B.len PySem.boot_len (pa_cons (pv 1) pa_nil)) pa_nil))) (pa_cons (pe_call GN hr2 rfl mN kN bN .nil pass0 (pa_cons (pv 0) (pa_cons pe_int pa_nil))) pa_nil)) (by rfl))
       (pss_cons (ps_if (pt_cmpR op_eq (pv 4) pe_int (nomark _))
       (pss_one (ps_ret (pe_op (opCatA (K := K) rfl) (pe_slice (slA (K := K) rfl) (pv 1) po_none (po_some (pv 3))) (pe_slice (slA (K := K) rfl) (pv 1) (po_some (pe_op op_add (pv 3) pe_int)) po_none))))
       pss_nil)
       (pss_cons (ps_if (pt_cmpR op_eq (pv 4) pe_int (nomark _))
       (pss_one (ps_ret (pe_op (opCatA (K := K) rfl) (pe_op (opCatA (K := K) rfl) (pe_slice (slA (K := K) rfl) (pv 1) po_none (po_some (pv 3))) (pe_slice (slA (K := K) rfl) (pv 1) (po_some (pv 3)) (po_some (pe_op op_add (pv 3) pe_int)))) (pe_slice (slA (K := K) rfl) (pv 1) (po_some (pv 3)) po_none))))
       pss_nil)
       (pss_cons (ps_if (pt_cmpR op_eq (pv 4) pe_int (nomark _))
       (pss_one (ps_ret (pe_revT (K := K) rfl (pv 1) po_none)))
       pss_nil)
       (pss_one (ps_ret (pe_op (opCatA (K := K) rfl) (pe_op (opCatA (K := K) rfl) (pe_slice (slA (K := K) rfl) (pv 1) po_none (po_some (pv 3))) (pe_tup (pa_cons (pe_call GS hrS rfl mS kS bS .nil pass0 (pa_cons (pv 0) (pa_cons (pe_ix (ixT (K := K) rfl) (pv 1) (pv 3) (fun _ _ => rfl)) (pa_cons (pe_op op_sub (pv 2) pe_int) pa_nil)))) pa_nil))) (pe_slice (slA (K := K) rfl) (pv 1) (po_some (pe_op op_add (pv 3) pe_int)) po_none))))))))), ?_⟩
    have R1 : ∀ {b : Bool} {A B : Prop}, b = true → A → (if b = true then A else B) := fun h a => by rw [if_pos h]; exact a
    have ny : ∀ t : Str, K = K → PySem.W.kitOne K (.type (tyN D)) (.type "tuple") = some (decide (tyN D = "tuple")) := fun _ _ => kit_tuple D
    have hu' := hu
    refine seq_or (fun H' => Kp [d] H H' ∧ Deck4 H' d cs (n + 1)) ?stop (fun stop => ?_)
    case stop =>
      rintro H1 ⟨k1, D1⟩
      have q1 := hD.sm (hid_kp k1)
      refine seq_if (fun σ' H' => σ' = [some (.ref d), some v, some (.int (m : Int)), none, none] ∧ Kp [d] H H' ∧ Deck4 H' d cs (n + 2)) ?rest (fun rest => ?_)
      case rest =>
        rintro σ' H2 ⟨rfl, k2, D2⟩
        have q2 := hD.sm (hid_kp k2)
        refine seq_if (fun σ' H' => σ' = [some (.ref d), some v, some (.int (m : Int)), none, none] ∧ Kp [d] H H' ∧ Deck4 H' d cs (n + 3)) ?rest2 (fun rest2 => ?_)
        case rest2 =>
          rintro σ' H3 ⟨rfl, k3, D3⟩
          refine ⟨_, rfl, d, cs, _, rfl, D3, by omega, fun H4 v4 E4 k4 D4 q4 g4 t4 => ?_⟩
          exact k H4 v4 E4 (Kp.trans k3 k4) (D4.mono (by omega)) q4 (sp_of g4 D (by decide) (by decide) (by omega) (by omega))
        refine ⟨_, rfl, _, _, _, _, _, rfl, .ty _, q2.of_hid.ty, kit_tuple D, _, rfl, ?_⟩
        refine iteP (fun ht => ?_) (fun _ => rest2 _ _ ⟨rfl, k2, D2.mono (by omega)⟩)
        refine ⟨_, rfl, d, cs, 2, _, rfl, by decide, by decide, by omega, D2, fun c3 H3 c30 c31 k3 D3 t3 => ⟨rfl, _, rfl, ?_⟩⟩
        refine iteI (fun _ => ?_) fun _ => rest2 _ _ ⟨rfl, Kp.trans k2 k3, D3.mono (by omega)⟩
        have q3 := q2.sm (hid_kp k3)
        obtain ⟨ds, rfl⟩ : ∃ ds, D = .tuple ds := by
          cases hD with
          | tup h1 h2 => exact ⟨_, rfl⟩
          | _ => simp [tyN] at ht
        obtain ⟨a, xs, rfl, ha, hx⟩ := q3.inv_tup
        refine ⟨_, rfl, a, xs, rfl, .inr (SqT.of (hid_sub _ _ ha)), fun l4 n_l4 => ?_⟩
        obtain ⟨H4, e_H4, s4, r4⟩ := new_any n_l4
        rw [← e_H4]
        clear e_H4
        have nd4 : l4 ≠ d := (D3.new n_l4).1
        refine k H4 (.ref l4) (.list ds) (Kp.trans k2 (Kp.trans k3 (Kp.of s4))) ((D3.same s4).mono (by omega)) (.lst (hid_at nd4 r4) (hx.sm (hid_same s4))) ⟨gqs_mono (Nat.le_succ _) (show gqs M ds = true from g), by rw [depth_lst, depth_tup]; omega, by rw [bulk_l, bulk_t]; omega, Nat.le_succ_of_le hW⟩
      refine ⟨_, rfl, _, _, _, _, _, rfl, .ty _, q1.of_hid.ty, kit_int D, _, rfl, ?_⟩
      refine iteP (fun ht => ?_) (fun _ => rest _ _ ⟨rfl, k1, D1.mono (by omega)⟩)
      refine ⟨_, rfl, d, cs, 2, _, rfl, by decide, by decide, by omega, D1, fun c2 H2 c20 c21 k2 D2 t2 => ⟨rfl, _, rfl, ?_⟩⟩
      refine iteI (fun _ => ?_) fun _ => rest _ _ ⟨rfl, Kp.trans k1 k2, D2.mono (by omega)⟩
      obtain ⟨i, hi, iM⟩ : ∃ i, numI v i ∧ i.natAbs ≤ M := by
        cases hD with
        | int i => exact ⟨i, .inl rfl, of_decide_eq_true g⟩
        | bl b =>
          refine ⟨_, .inr ⟨b, rfl, rfl⟩, ?_⟩
          have : (1 : Nat) ≤ 10 ^ 29 := by decide
          cases b
          · exact Nat.zero_le _
          · exact Nat.le_trans this hM
        | _ => simp [tyN] at ht
      have k02 := Kp.trans k1 k2
      have q2 := hD.sm (hid_kp k02)
      refine ⟨_, rfl, i, 1, hi, rfl, _, rfl, i, 1, hi, rfl, _, rfl, i, hi, _, rfl, i, 1, hi, rfl, _, rfl, (by show 1 ≤ sizeLine; decide), fun l3 n_l3 => ?_⟩
      obtain ⟨H3, e_H3, s3, r3⟩ := new_any n_l3
      rw [← e_H3]
      clear e_H3
      have nd3 : l3 ≠ d := (D2.new n_l3).1
      refine ⟨(by show 5 ≤ sizeLine; decide), fun l4 n_l4 => ?_⟩
      obtain ⟨H4, e_H4, s4, r4⟩ := new_any n_l4
      rw [← e_H4]
      clear e_H4
      have nd4 : l4 ≠ d := ((D2.same s3).new n_l4).1
      refine ⟨_, rfl, d, cs, 5, _, rfl, by decide, by decide, by omega, (D2.same s3).same s4, fun c5 H5 c50 c51 k5 D5 t5 => ?_⟩
      have q5 : Dq (hid d H5) (.ref l3) (.list [D]) := .lst (hid_at nd3 (k5 _ _ (nin1 nd3) (s4 _ _ r3))) (.cons (((q2.sm (hid_same s3)).sm (hid_same s4)).sm (hid_kp k5)) .nil)
      have k05 := Kp.trans k02 (Kp.trans (Kp.of s3) (Kp.trans (Kp.of s4) k5))
      have l4' := k5 _ _ (nin1 nd4) r4
      have fin : ∀ (x : V) (E : PyData), Dq (hid d H5) x E → GQ (M + 1) (D.depth + 3) (2 * D.bulk + 20) (W + 1) E → Q x H5 := fun x E h1 h2 => k H5 x E k05 (D5.mono (by omega)) h1 h2
      have dint : ∀ j : Int, j.natAbs ≤ M + 1 → GQ (M + 1) (D.depth + 3) (2 * D.bulk + 20) (W + 1) (.int j) := fun j hj => ⟨decide_eq_true hj, by show 0 ≤ _; omega, by show 0 ≤ _; omega, Nat.zero_le _⟩
      have db : D.bulk = 0 ∧ D.depth = 0 := by
        cases hD with
        | int i => exact ⟨rfl, rfl⟩
        | bl b => exact ⟨rfl, rfl⟩
        | _ => simp [tyN] at ht
      have h5 : c5 = 0 ∨ c5 = 1 ∨ c5 = 2 ∨ c5 = 3 ∨ c5 = 4 := by omega
      rcases h5 with rfl | rfl | rfl | rfl | rfl
      · exact ⟨l4, _, 0, _, rfl, rfl, SqL.of l4', rfl, fin _ _ (.int _) (dint _ (by omega))⟩
      · exact ⟨l4, _, 1, _, rfl, rfl, SqL.of l4', rfl, fin _ _ (.int _) (dint _ (by omega))⟩
      · exact ⟨l4, _, 2, _, rfl, rfl, SqL.of l4', rfl, fin _ _ (.int _) (dint _ (by omega))⟩
      · exact ⟨l4, _, 3, _, rfl, rfl, SqL.of l4', rfl, fin _ _ (.bl _) ⟨rfl, by show 0 ≤ _; omega, by show 0 ≤ _; omega, Nat.zero_le _⟩⟩
      · refine ⟨l4, _, 4, _, rfl, rfl, SqL.of l4', rfl, fin _ _ q5 ⟨?_, ?_, ?_, ?_⟩⟩
        · show (gq (M + 1) D && gqs (M + 1) []) = true
          rw [gq_mono (Nat.le_succ _) g]
          rfl
        · rw [depth_lst]
          have : PyData.depthAll [D] ≤ 0 := depthAll_le.mpr fun x hx => by
            rw [List.mem_singleton.mp hx, db.2]
            exact Nat.le_refl _
          omega
        · rw [bulk_l, bulk_c, bulk_n, db.1]
          omega
        · show max 1 (max (wid D) 0) ≤ W + 1
          omega
    have D0 : Deck4 H d cs (n + 1) := Dk.mono (by omega)
    refine ⟨_, rfl, rfl, _, rfl, iteI (fun _ => stop _ ⟨Kp.refl _ _, D0⟩) fun nm => ?_⟩
    refine ⟨_, rfl, _, _, _, _, _, rfl, .ty _, hD.of_hid.ty, kit_tuple D, _, rfl, ?_⟩
    refine iteNP (fun _ => stop _ ⟨Kp.refl _ _, D0⟩) fun ht => ?_
    obtain ⟨ds, rfl⟩ : ∃ ds, D = .tuple ds := by
      cases hD with
      | tup h1 h2 => exact ⟨_, rfl⟩
      | _ => simp [tyN] at ht
    obtain ⟨a, xs, rfl, ha, hx⟩ := hD.inv_tup
    have nad := hid_ne ha
    refine ⟨_, rfl, Nat.zero_le _, fun t1 n_t1 => ?_⟩
    obtain ⟨H1, e_H1, s1, r1⟩ := new_any n_t1
    rw [← e_H1]
    clear e_H1
    have ha1 := s1 _ _ (hid_sub _ _ ha)
    refine ⟨a, t1, xs, rfl, rfl, SqT.of ha1, SqT.of r1, _, rfl, iteP (fun _ => stop _ ⟨Kp.of s1, D0.same s1⟩) fun ne => ?_⟩
    refine ⟨_, rfl, d, cs, 8, _, rfl, by decide, by decide, by omega, Dk.same s1, fun c2 H2 c20 c21 k2 D2 t2 => ⟨rfl, _, rfl, iteI (fun _ => stop _ ⟨Kp.trans (Kp.of s1) k2, D2⟩) fun nc => ?_⟩⟩
    clear stop
    have ha2 := k2 _ _ (nin1 nad) ha1
    have hx2 : DqAll (hid d H2) xs ds := (hx.sm (hid_same s1)).sm (hid_kp k2)
    have lx := hx.len
    have lx0 : 0 < xs.length := List.length_pos_iff.mpr ne
    have lb : xs.length ≤ 500000 := by
      have := bulk_len ds
      rw [bulk_t] at hb
      omega
    dsimp only [tNext]
    refine ⟨_, rfl, _, rfl, _, xs.length, rfl, .inr ⟨_, SqT.of ha2, rfl⟩, d, cs, _, _, rfl, by omega, by omega, by omega, D2, fun c3 H3 c30 c31 k3 D3 t3 => ?_⟩
    refine ⟨_, rfl, d, cs, 8, _, rfl, by decide, by decide, by omega, D3, fun way H4 w0 w1 k4 D4 t4 => ?_⟩
    refine ⟨_, _, rfl, ?_⟩
    obtain ⟨i, rfl⟩ : ∃ i : Nat, c3 = (i : Int) := ⟨c3.toNat, by omega⟩
    have hi : i < ds.length := by omega
    have k04 : Kp [d] H H4 := Kp.trans (Kp.of s1) (Kp.trans k2 (Kp.trans k3 k4))
    have ha4 := k4 _ _ (nin1 nad) (k3 _ _ (nin1 nad) ha2)
    have hx4 : DqAll (hid d H4) xs ds := (hx2.sm (hid_kp k3)).sm (hid_kp k4)
    have eto : cutL xs none (some (i : Int)) = xs.take i := cutL_to xs i
    have efr : cutL xs (some ((i : Int) + 1)) none = xs.drop (i + 1) := cutL_from xs (i + 1)
    have efi : cutL xs (some (i : Int)) none = xs.drop i := cutL_from xs i
    have emd : cutL xs (some (i : Int)) (some ((i : Int) + 1)) = (xs.drop i).take 1 := by
      have e := cutL_mid xs i (i + 1)
      rw [Nat.add_sub_cancel_left] at e
      exact e
    dsimp only [gName, List.set]
    refine ⟨_, rfl, rfl, _, rfl, iteI (fun _ => ?_) fun _ => ?_⟩
    · refine ⟨_, rfl, ?_⟩
      dsimp only [tNoPart]
      refine ⟨_, rfl, _, rfl, slA_t ha4 eto fun H5 l1 s5 r5 => ?_⟩
      refine ⟨_, rfl, _, rfl, _, _, rfl, rfl, _, rfl, ?_⟩
      dsimp only [tNoPart]
      refine slA_t (s5 _ _ ha4) efr fun H6 l2 s6 r6 => ?_
      refine catA_t (s6 _ _ r5) r6 (by rw [List.length_take, List.length_drop]; omega) fun H7 l3 s7 r7 => ?_
      have s47 := s5.trans (s6.trans s7)
      have z := hx4.sm (hid_same s47)
      exact k H7 (.ref l3) _ (Kp.trans k04 (Kp.of s47)) ((D4.same s47).mono (by omega)) (tup_q (D4.same s47) r7 ((z.take i).app (z.drop (i + 1)))) (sp_drop g hW)
    dsimp only [tNext]
    refine ⟨_, rfl, rfl, _, rfl, iteI (fun _ => ?_) fun _ => ?_⟩
    · refine ⟨_, rfl, ?_⟩
      dsimp only [tNoPart]
      refine ⟨_, rfl, _, rfl, slA_t ha4 eto fun H5 l1 s5 r5 => ?_⟩
      refine ⟨_, rfl, _, rfl, _, rfl, _, rfl, _, _, rfl, rfl, _, rfl, slA_t (s5 _ _ ha4) emd fun H6 l2 s6 r6 => ?_⟩
      refine catA_t (s6 _ _ r5) r6 (by rw [List.length_take, List.length_take, List.length_drop]; omega) fun H7 l3 s7 r7 => ?_
      refine ⟨_, rfl, _, rfl, _, rfl, ?_⟩
      dsimp only [tNoPart]
      refine slA_t (s7 _ _ (s6 _ _ (s5 _ _ ha4))) efi fun H8 l4 s8 r8 => ?_
      refine catA_t (s8 _ _ r7) r8 (by rw [List.length_append, List.length_take, List.length_take, List.length_drop]; omega) fun H9 l5 s9 r9 => ?_
      have s49 := s5.trans (s6.trans (s7.trans (s8.trans s9)))
      have z := hx4.sm (hid_same s49)
      exact k H9 (.ref l5) _ (Kp.trans k04 (Kp.of s49)) ((D4.same s49).mono (by omega)) (tup_q (D4.same s49) r9 (((z.take i).app ((z.drop i).take 1)).app (z.drop i))) (sp_two g hW)
    dsimp only [tNext]
    refine ⟨_, rfl, rfl, _, rfl, iteI (fun _ => ?_) fun _ => ?_⟩
    · refine ⟨_, rfl, ?_⟩
      dsimp only [tNoPart]
      refine ⟨a, xs, rfl, SqT.of ha4, fun l5 n_l5 => ?_⟩
      obtain ⟨H5, e_H5, s5, r5⟩ := new_any n_l5
      rw [← e_H5]
      clear e_H5
      rw [show xs.take (revLen xs.length none) = xs from List.take_length] at r5
      have z := hx4.sm (hid_same s5)
      exact k H5 (.ref l5) _ (Kp.trans k04 (Kp.of s5)) ((D4.same s5).mono (by omega)) (tup_q (D4.same s5) r5 z.rev) (sp_rev g hW)
    dsimp only [tNext]
    obtain ⟨m', rfl⟩ : ∃ m', m = m' + 1 := ⟨m - 1, by omega⟩
    have eS := hS m' rfl
    subst eS
    refine ⟨_, rfl, ?_⟩
    dsimp only [tNoPart]
    refine ⟨_, rfl, _, rfl, slA_t ha4 eto fun H5 l1 s5 r5 => ?_⟩
    have D5 := D4.same s5
    have hx5 := hx4.sm (hid_same s5)
    obtain ⟨v, ev, dv⟩ := hx5.get (List.getElem?_eq_getElem hi)
    refine ⟨_, rfl, _, rfl, _, rfl, a, xs, i, v, rfl, rfl, SqT.of (s5 _ _ ha4), atI_nat ev, _, rfl, _, _, rfl, rfl, ?_⟩
    refine ⟨d, cs, _, v, ds[i], M, W, by show [V.ref d, v, V.int (((m' + 1 : Nat) : Int) - 1)] = _; rw [show ((m' + 1 : Nat) : Int) - 1 = (m' : Int) by omega], D5, by omega, dv, gqs_all.mp (show gqs M ds = true from g) _ (List.getElem_mem hi), hM, Nat.le_trans (bulk_at hi) hb, (wid_t.mp hW).2 _ (List.getElem_mem hi), hW3, fun H6 v6 E6 k6 D6 q6 g6 t6 => ?_⟩
    have nl1 : l1 ≠ d := by
      obtain ⟨ys, hz⟩ := D5.l1
      exact fun z => by rw [z, hz] at r5; cases r5
    refine ⟨(by show 1 ≤ sizeLine; decide), fun t7 n_t7 => ?_⟩
    obtain ⟨H7, e_H7, s7, r7⟩ := new_any n_t7
    rw [← e_H7]
    clear e_H7
    refine catA_t (s7 _ _ (k6 _ _ (nin1 nl1) r5)) r7 (by rw [List.length_take, List.length_singleton]; omega) fun H8 l2 s8 r8 => ?_
    refine ⟨_, rfl, _, rfl, _, _, rfl, rfl, _, rfl, ?_⟩
    dsimp only [tNoPart]
    refine slA_t (s8 _ _ (s7 _ _ (k6 _ _ (nin1 nad) (s5 _ _ ha4)))) efr fun H9 l3 s9 r9 => ?_
    refine catA_t (s9 _ _ r8) r9 (by rw [List.length_append, List.length_take, List.length_drop, List.length_singleton]; omega) fun H10 l4 s10 r10 => ?_
    have s610 := s7.trans (s8.trans (s9.trans s10))
    have z := (hx5.sm (hid_kp k6)).sm (hid_same s610)
    exact k H10 (.ref l4) _ (Kp.trans k04 (Kp.trans (Kp.of s5) (Kp.trans k6 (Kp.of s610)))) ((D6.same s610).mono (by omega)) (tup_q (D6.same s610) r10 (((z.take i).app (.cons (q6.sm (hid_same s610)) .nil)).app (z.drop (i + 1)))) (sp_put g hW hi g6)
theorem ok_spoilt {f : Addr} {fd : FuncData} (F : Fun K "_law_spoilt" "_law_spoilt" sSpoilt f fd) (B : KB9 mg) (cN : Cd P w K mg base 2 "_law_next" ["_law_deck_here", "_law_many"] spNext4) (cO : Cd P w K mg base 3 "_law_odd" ["_law_deck_here"] spOddL)
    (mS : mg "_law_spoilt" = some (.ref f)) (kS : PySem.W.keepIn K (.ref f) = true) (bS : Binds K fd ["_law_deck_here", "_law_thing", "_law_deep"] []) : ∀ m, FnOk P w K mg base CX0 (m + 4) f fd ["_law_deck_here", "_law_thing", "_law_deep"] (spSpoilt m)
  | 0 => st_spoilt 0 (fun _ _ _ _ => False) (fun m' h => by omega) F B cN cO ⟨f, fd, F.ok scSpoilt (fun vs H Q E h => h.elim) (fun cdv A outer s H vs Q E hr h => h.elim), mS, kS, bS⟩
  | m + 1 => st_spoilt (m + 1) (spSpoilt m) (fun m' h => by cases h; rfl) F B cN cO ⟨f, fd, ok_spoilt F B cN cO mS kS bS m, mS, kS, bS⟩
end
end Wn

set_option maxHeartbeats 1600000
namespace Wn
open PySem L2
set_option pp.maxSteps 700
set_option pp.deepTerms false
local macro_rules | `(tactic| walk_at "h") => `(tactic| first | with_reducible assumption | (with_reducible exact upd_same) | (with_reducible apply g_upd; (walk_at "neq"); (walk_at "h")) | (with_reducible apply g_same; (with_reducible assumption); (walk_at "h")) | (with_reducible apply g_kp; (with_reducible assumption); (walk_at "nin"); (walk_at "h")) | (with_reducible apply g_tk; (with_reducible assumption); (walk_at "h")))
local macro_rules | `(tactic| walk_at "neq") => `(tactic| first | with_reducible assumption | (with_reducible apply Ne.symm; with_reducible assumption) | (with_reducible apply ne_upd; (with_reducible assumption)) | (with_reducible apply Ne.symm; with_reducible apply ne_upd; with_reducible assumption) | (with_reducible apply ne_fr; (with_reducible assumption); (walk_at "h")) | (with_reducible apply ne_fr'; (with_reducible assumption); (walk_at "h")) | (with_reducible apply ne_kd; (walk_at "h"); (walk_at "h"); (with_unfolding_all (intro z; cases z))))
local macro_rules | `(tactic| walk_at "nin") => `(tactic| first | (with_reducible exact nin0) | with_reducible assumption | (with_reducible apply ninc; (walk_at "neq"); (walk_at "nin")))
local macro_rules | `(tactic| walk_at "none") => `(tactic| first | with_reducible assumption | (with_reducible apply n_upd; (with_reducible assumption)) | (with_reducible apply n_same; (with_reducible assumption); (walk_at "none")) | (with_reducible apply n_kp; (with_reducible assumption); (walk_at "nin"); (walk_at "none")))
local macro_rules | `(tactic| walk_at "mem") => `(tactic| first | (with_reducible exact List.mem_cons_self) | (with_reducible apply List.mem_cons_of_mem; (walk_at "mem")))
local macro_rules | `(tactic| walk_at "am") => `(tactic| first | (with_reducible exact am0) | (with_reducible apply am1; (first | (apply Or.inl; walk_at "mem") | (apply Or.inr; walk_at "none")); (walk_at "am")))
local macro_rules | `(tactic| walk_at "tk") => `(tactic| first | (with_reducible exact TK.refl _) | with_reducible assumption | (with_reducible apply t_tk; (with_reducible assumption); (walk_at "tk")) | (with_reducible apply t_same; (with_reducible assumption); (walk_at "tk")) | (with_reducible apply t_new; (with_reducible assumption); (walk_at "tk")) | (with_reducible apply t_wr; (walk_at "h"); (with_unfolding_all rfl); (walk_at "tk")))
local macro_rules | `(tactic| walk_at "same") => `(tactic| first | (with_reducible exact L2.Same.refl _) | with_reducible assumption | (with_reducible apply s_same; (with_reducible assumption); (walk_at "same")) | (with_reducible apply s_new; (with_reducible assumption); (walk_at "same")) | (with_reducible apply s_wrn; (walk_at "none"); (walk_at "same")))
local macro_rules | `(tactic| walk_at "kp") => `(tactic| first | (with_reducible exact Kp.refl _ _) | with_reducible assumption | (with_reducible apply k_same; (with_reducible assumption); (walk_at "kp")) | (with_reducible apply k_kp; (with_reducible assumption); (walk_at "kp")) | (with_reducible apply k_kpm; (with_reducible assumption); (walk_at "am"); (walk_at "kp")) | (with_reducible apply k_new; (with_reducible assumption); (walk_at "kp")) | (with_reducible apply k_wr; (walk_at "mem"); (walk_at "kp")) | (with_reducible apply k_wrn; (walk_at "none"); (walk_at "kp")))
local macro_rules | `(tactic| walk_at "rp") => `(tactic| first | with_reducible assumption | (with_reducible exact Rp.int) | (with_reducible exact Rp.str) | (with_reducible exact Rp.none) | (with_reducible exact Rp.bool) | (with_reducible apply Rp.tk'; (with_reducible assumption); (walk_at "tk")) | (with_reducible apply Rp.tup; (walk_at "h"); (walk_at "rpl")))
local macro_rules | `(tactic| walk_at "rpl") => `(tactic| first | with_reducible assumption | (with_reducible exact RpL.nil) | (with_reducible apply RpL.tk'; (with_reducible assumption); (walk_at "tk")) | (with_reducible apply RpL.cons; (walk_at "rp"); (walk_at "rpl")))
local macro_rules | `(tactic| walk_at "g") => `(tactic| repeat (first | refine ⟨_, rfl, ?_⟩ | refine ⟨_, _, rfl, rfl, ?_⟩ | refine ⟨rfl, _, rfl, ?_⟩ | refine ⟨_, _, rfl, rfl, (by first | decide | omega), ?_⟩))
abbrev sNumL : Stmt := top 40
abbrev sFormL : Stmt := top 41
abbrev sOpenL : Stmt := top 42
abbrev sFirstL : Stmt := top 43
def spNumL : Sp := fun vs H Q _ => ∃ v d, vs = [v] ∧ Dq H v d ∧ Q (.bl (Lk.ok .cnt d)) H

section
variable {P : Program} {w : World} {K : PySem.W.Frag} {mg : Str → Option Value} {base : Heap}
theorem scNumL : FnScope ["_law_thing"] ["_law_thing"] (defScope sNumL) := ⟨rfl, rfl, rfl, by decide +kernel, rfl, by decide +kernel, by decide +kernel⟩
theorem ok_numL {f : Addr} {fd : FuncData} (F : Fun K "_law_number" "_law_number" sNumL f fd) (B : KB9 mg) : FnOk P w K mg base CX0 1 f fd ["_law_thing"] spNumL := by
  refine F.ok scNumL (fun vs H Q E h => ?_) (fun cdv A outer s H vs Q E hr h => ?_)
  · obtain ⟨v, d, rfl, _⟩ := h
    rfl
  · obtain ⟨v, d, rfl, hd, k⟩ := h
    refine ⟨_, (pss_one (ps_ret (pe_and (pe_callB (isiK (K := K) rfl) (by rfl) B.isinstance (by decide +kernel) (pa_cons (pv 0) (pa_cons (pe_bltn (v := .ty "int") (by rfl) B.int PyProof.Rows.boot_int rfl) pa_nil))) (pe_and (pe_not (pe_callB (isiK (K := K) rfl) (by rfl) B.isinstance (by decide +kernel) (pa_cons (pv 0) (pa_cons (pe_bltn (v := .ty "bool") (by rfl) B.bool PyProof.Rows.boot_bool rfl) pa_nil)))) (pe_one (pe_cmpR op_ge (pv 0) pe_int (nomark _))))))), ?_⟩
    have no : Lk.ok .cnt d = false → Q (.bl false) H := fun e => by
      rw [e] at k
      exact k
    refine ⟨_, rfl, _, _, _, _, _, rfl, .ty _, hd.ty, kit_int d, _, rfl, iteP (fun c => ?_) (fun c => ?_)⟩
    · refine ⟨_, rfl, _, _, _, _, _, rfl, .ty _, hd.ty, kit_bool d, _, rfl, _, rfl, iteNP (fun c2 => ?_) (fun c2 => ?_)⟩
      · obtain ⟨i, rfl⟩ : ∃ i, d = .int i := by
          cases hd with
          | int i => exact ⟨i, rfl⟩
          | bl b => exact absurd rfl c2
          | _ => simp [tyN] at c
        cases hd
        exact ⟨_, rfl, _, _, rfl, rfl, k⟩
      · refine no ?_
        cases hd <;> first | rfl | (simp [tyN] at c2)
    · refine no ?_
      cases hd with
      | int i => exact absurd (.inl rfl) c
      | _ => rfl
def formK : List (Key × V) := [(.inr ("come" : Str), .int 3), (.inr ("go" : Str), .int 2), (.inr ("send" : Str), .int 5), (.inr ("hear" : Str), .int 5), (.inr ("lose" : Str), .int 3)]
theorem formK_val (w : Str) : valV formK (.inr w : Key) = (looksOf w).map fun ls => V.int ((ls.length : Int) + 1) := by
  have ne : ∀ {z : Str}, ¬ w = z → ((.inr z : Key) ≠ .inr w) := fun h e => h (by injection e with e; exact e.symm)
  unfold formK looksOf
  by_cases h1 : w = ("come" : Str)
  · subst h1; rfl
  rw [if_neg h1, valV_neg (ne h1)]
  by_cases h2 : w = ("go" : Str)
  · subst h2; rfl
  rw [if_neg h2, valV_neg (ne h2)]
  by_cases h3 : w = ("send" : Str)
  · subst h3; rfl
  rw [if_neg h3, valV_neg (ne h3)]
  by_cases h4 : w = ("hear" : Str)
  · subst h4; rfl
  rw [if_neg h4, valV_neg (ne h4)]
  by_cases h5 : w = ("lose" : Str)
  · subst h5; rfl
  rw [if_neg h5, valV_neg (ne h5)]
  rfl
theorem form_of {w : Str} {ls : List Lk} {ds : List PyData} (e : looksOf w = some ls) (hl : ds.length = ls.length) : formD (.tuple (.str w :: ds)) = ((ls.zip ds).all fun p => p.1.ok p.2) := by
  show (match looksOf w with | some ls => decide (ds.length = ls.length) && ((ls.zip ds).all fun p => p.1.ok p.2) | none => false) = _
  rw [e]
  dsimp only
  rw [decide_eq_true hl, Bool.true_and]
theorem form_no {w : Str} {ds : List PyData} (h : ∀ ls, looksOf w = some ls → ds.length ≠ ls.length) : formD (.tuple (.str w :: ds)) = false := by
  show (match looksOf w with | some ls => decide (ds.length = ls.length) && ((ls.zip ds).all fun p => p.1.ok p.2) | none => false) = _
  cases e : looksOf w with
  | none => rfl
  | some ls =>
    dsimp only
    rw [decide_eq_false (h ls e), Bool.false_and]
theorem scFormL : FnScope ["_law_row", "_law_many", "_law_aimed"] ["_law_row"] (defScope sFormL) := ⟨rfl, rfl, rfl, by decide +kernel, rfl, by decide +kernel, by decide +kernel⟩
theorem ok_formL {f : Addr} {fd : FuncData} (F : Fun K "_law_form" "_law_form" sFormL f fd) (B : KB9 mg) (cN : Cd P w K mg base 1 "_law_number" ["_law_thing"] spNumL) : FnOk P w K mg base CX0 2 f fd ["_law_row"] spForm := by
  obtain ⟨fN, fdN, GN, mN, kN, bN⟩ := cN
  refine F.ok scFormL (fun vs H Q E h => ?_) (fun cdv A outer s H vs Q E hr h => ?_)
  · obtain ⟨v, d, rfl, _⟩ := h
    rfl
  · obtain ⟨v, d, rfl, hd, k⟩ := h
    have hr1 : Room 1 _ := hr.mono (by omega)
    have hu := hu_of hr
    refine ⟨_, (pss_cons (ps_if (PW.pt (pw_or (pt_not (pt_val (pe_callB (isiK (K := K) rfl) (by rfl) B.isinstance (by decide +kernel) (pa_cons (pv 0) (pa_cons (pe_bltn (v := .ty "tuple") (by rfl) B.tuple PyProof.Rows.boot_tuple rfl) pa_nil))))) (pw_or (pt_cmpR (op_eqT0K (K := K) rfl (Nat.lt_of_succ_lt (room65 hr))) (pv 0) (pe_tup pa_nil) (nomark _)) (pw_or1 (pt_not (pt_val (pe_callB (isiK (K := K) rfl) (by rfl) B.isinstance (by decide +kernel) (pa_cons (pe_ix (ixT (K := K) rfl) (pv 0) pe_int (fun _ _ => rfl)) (pa_cons (pe_bltn (v := .ty "str") (by rfl) B.str PyProof.Rows.boot_str rfl) pa_nil)))))))))
       (pss_one (ps_ret pe_bl))
       pss_nil)
       (pss_cons (ps_set (i := 1) scFormL.nd rfl (Or.inl rfl) (pe_disp (pps_cons pe_str pe_int (pps_cons pe_str pe_int (pps_cons pe_str pe_int (pps_cons pe_str pe_int (pps_cons pe_str pe_int pps_nil))))) rfl rfl (List.cons_ne_nil _ _) (by decide)))
       (pss_cons (ps_if (PW.pt (pw_or (pt_cmp (pc_dnotin hu (pe_ix (ixT (K := K) rfl) (pv 0) pe_int (fun _ _ => rfl)) (pv 1))) (pw_or (pt_cmpR op_ne (pe_callB (lenK (K := K) rfl) (by rfl) B.len PySem.boot_len (pa_cons (pv 0) pa_nil)) (pe_dget hu (pv 1) (pe_ix (ixT (K := K) rfl) (pv 0) pe_int (fun _ _ => rfl)) (fun _ _ => rfl)) (nomark _)) (pw_or1 (pt_not (pt_val (pe_call GN hr1 rfl mN kN bN .nil pass0 (pa_cons (pe_ix (ixT (K := K) rfl) (pv 0) pe_int (fun _ _ => rfl)) pa_nil))))))))
       (pss_one (ps_ret pe_bl))
       pss_nil)
       (pss_cons (ps_if (pt_cmpR op_eq (pe_ix (ixT (K := K) rfl) (pv 0) pe_int (fun _ _ => rfl)) pe_str (nomark _))
       (pss_one (ps_ret (pe_and (pe_callB (isiK (K := K) rfl) (by rfl) B.isinstance (by decide +kernel) (pa_cons (pe_ix (ixT (K := K) rfl) (pv 0) pe_int (fun _ _ => rfl)) (pa_cons (pe_bltn (v := .ty "str") (by rfl) B.str PyProof.Rows.boot_str rfl) pa_nil))) (pe_one (pe_cmpR (inSeqK (K := K) rfl) (pe_ix (ixT (K := K) rfl) (pv 0) pe_int (fun _ _ => rfl)) (pe_lst (pa_cons pe_str (pa_cons pe_str pa_nil))) (by rfl))))))
       pss_nil)
       (pss_cons (ps_if (pt_cmpR op_eq (pe_ix (ixT (K := K) rfl) (pv 0) pe_int (fun _ _ => rfl)) pe_str (nomark _))
       (pss_one (ps_ret pe_bl))
       pss_nil)
       (pss_cons (ps_if (pt_not (pt_val (pe_call GN hr1 rfl mN kN bN .nil pass0 (pa_cons (pe_ix (ixT (K := K) rfl) (pv 0) pe_int (fun _ _ => rfl)) pa_nil))))
       (pss_one (ps_ret pe_bl))
       pss_nil)
       (pss_cons (ps_if (pt_cmpR op_eq (pe_ix (ixT (K := K) rfl) (pv 0) pe_int (fun _ _ => rfl)) pe_str (nomark _))
       (pss_one (ps_ret pe_bl))
       pss_nil)
       (pss_cons (ps_set (i := 2) scFormL.nd rfl (Or.inl rfl) (pe_or (pe_call GN hr1 rfl mN kN bN .nil pass0 (pa_cons (pe_ix (ixT (K := K) rfl) (pv 0) pe_int (fun _ _ => rfl)) pa_nil)) (pe_one (pe_and (pe_cmpR op_eq (pe_ix (ixT (K := K) rfl) (pv 0) pe_int (fun _ _ => rfl)) pe_str (nomark _)) (pe_one (pe_cmp (pc_isN (pe_ix (ixT (K := K) rfl) (pv 0) pe_int (fun _ _ => rfl))) rfl))))))
       (pss_one (ps_ret (pe_and (pv 2) (pe_one (pe_callB (isiK (K := K) rfl) (by rfl) B.isinstance (by decide +kernel) (pa_cons (pe_ix (ixT (K := K) rfl) (pv 0) pe_int (fun _ _ => rfl)) (pa_cons (pe_bltn (v := .ty "str") (by rfl) B.str PyProof.Rows.boot_str rfl) pa_nil))))))))))))))), ?_⟩
    have no : ∀ H', Same H H' → formD d = false → Q (.bl false) H' := fun H' s e => by
      have z := k H' s
      rw [e] at z
      exact z
    refine ⟨_, rfl, _, _, _, _, _, rfl, .ty _, hd.ty, kit_tuple d, _, rfl, iteNP (fun c => no H (L2.Same.refl _) ?_) (fun c => ?_)⟩
    · cases hd <;> first | rfl | exact absurd rfl c
    obtain ⟨ds, rfl⟩ : ∃ ds, d = .tuple ds := by
      cases hd with
      | tup h1 h2 => exact ⟨_, rfl⟩
      | _ => simp [tyN] at c
    obtain ⟨a, xs, rfl, ha, hx⟩ := hd.inv_tup
    refine ⟨_, rfl, Nat.zero_le _, fun t1 n_t1 => ?_⟩
    obtain ⟨H1, e_H1, s1, r1⟩ := new_any n_t1
    rw [← e_H1]
    clear e_H1
    have ha1 := s1 _ _ ha
    refine ⟨a, t1, xs, rfl, rfl, SqT.of ha1, SqT.of r1, _, rfl, iteP (fun e => no _ s1 ?_) fun ne => ?_⟩
    · subst e
      cases hx
      rfl
    cases ds with
    | nil => cases hx; exact absurd rfl ne
    | cons d0 dr =>
    obtain ⟨v0, xr, rfl, q0, qr⟩ := hx.inv_cons
    refine ⟨_, rfl, a, _, 0, v0, rfl, rfl, SqT.of ha1, atI_nat (j := 0) rfl, _, _, _, _, _, rfl, .ty _, (q0.sm s1).ty, kit_str d0, _, rfl, iteNP (fun c2 => no _ s1 ?_) (fun c2 => ?_)⟩
    · cases q0 <;> first | rfl | exact absurd rfl c2
    obtain ⟨w, rfl⟩ : ∃ w, d0 = .str w := by
      cases q0 with
      | str w => exact ⟨w, rfl⟩
      | _ => simp [tyN] at c2
    cases q0
    refine fun p2 n_p2 => ?_
    obtain ⟨H2, e_H2, s2, r2⟩ := new_any n_p2
    rw [← e_H2]
    clear e_H2
    refine ⟨r2, formK, rfl, by decide, ?_⟩
    have s3 : Same H1 (upd H2 p2 (.dK (mergeK [] formK))) := s2.wrn n_p2
    have r3 : upd H2 p2 (.dK (mergeK [] formK)) p2 = some (.dK formK) := upd_same
    generalize upd H2 p2 (.dK (mergeK [] formK)) = H3 at s3 r3
    have s03 := s1.trans s3
    have ha3 := s03 _ _ ha
    have look0 : DGet H3 p2 (.str w) ((looksOf w).map fun ls => V.int ((ls.length : Int) + 1)) := by
      rw [← formK_val]
      exact DGet.k (k := .inr w) r3
    dsimp only [gName, List.set]
    refine ⟨_, rfl, a, _, 0, _, rfl, rfl, SqT.of ha3, atI_nat (j := 0) rfl, _, rfl, p2, _, rfl, look0, _, rfl, ?_⟩
    cases el : looksOf w with
    | none => exact iteT (no _ s03 (form_no fun ls h => by rw [el] at h; cases h))
    | some ls =>
    rw [el] at look0
    refine iteF ?_
    refine ⟨_, rfl, _, _, rfl, .inr ⟨_, SqT.of ha3, rfl⟩, _, rfl, _, rfl, a, _, 0, _, rfl, rfl, SqT.of ha3, atI_nat (j := 0) rfl, p2, _, rfl, look0, rfl, _, rfl, iteNI (fun z => no _ s03 (form_no fun ls' h => ?_)) fun z => ?_⟩
    · rw [el] at h
      cases h
      have := qr.len
      rw [List.length_cons] at z
      omega
    have hl : dr.length = ls.length := by
      have := qr.len
      rw [List.length_cons] at z
      omega
    have fo := form_of el hl
    have kk : ∀ H', Same H H' → Q (.bl ((ls.zip dr).all fun p => p.1.ok p.2)) H' := fun H' s => by
      have z := k H' s
      rwa [fo] at z
    clear k no look0
    have pick : w = ("come" : Str) ∧ ls = [.cnt, .srt] ∨ w = ("go" : Str) ∧ ls = [.cnt] ∨ w = ("send" : Str) ∧ ls = [.cnt, .cnt, .aim, .wrd] ∨ w = ("hear" : Str) ∧ ls = [.cnt, .cnt, .cnt, .wrd] ∨ w = ("lose" : Str) ∧ ls = [.cnt, .cnt] := by
      unfold looksOf at el
      split at el
      · cases el; exact .inl ⟨by assumption, rfl⟩
      split at el
      · cases el; exact .inr (.inl ⟨by assumption, rfl⟩)
      split at el
      · cases el; exact .inr (.inr (.inl ⟨by assumption, rfl⟩))
      split at el
      · cases el; exact .inr (.inr (.inr (.inl ⟨by assumption, rfl⟩)))
      split at el
      · cases el; exact .inr (.inr (.inr (.inr ⟨by assumption, rfl⟩)))
      · cases el
    cases dr with
    | nil => rcases pick with ⟨_, rfl⟩ | ⟨_, rfl⟩ | ⟨_, rfl⟩ | ⟨_, rfl⟩ | ⟨_, rfl⟩ <;> cases hl
    | cons d1 dr =>
    obtain ⟨v1, xr, rfl, q1, qr⟩ := qr.inv_cons
    refine ⟨_, rfl, a, _, 1, v1, rfl, rfl, SqT.of ha3, atI_nat (j := 1) rfl, v1, d1, rfl, q1.sm s03, _, rfl, ?_⟩
    have n1 : ∀ b, ls.zip (d1 :: dr) = (.cnt, d1) :: b → Lk.ok .cnt d1 = false → ∀ H', Same H H' → Q (.bl false) H' := fun b e1 e2 H' s => by
      have z := kk H' s
      rw [e1, List.all_cons, e2] at z
      exact z
    have hc : ∃ lr, ls = .cnt :: lr := by rcases pick with ⟨_, rfl⟩ | ⟨_, rfl⟩ | ⟨_, rfl⟩ | ⟨_, rfl⟩ | ⟨_, rfl⟩ <;> exact ⟨_, rfl⟩
    obtain ⟨lr, rfl⟩ := hc
    cases c1 : Lk.ok .cnt d1 with
    | false => exact iteT (n1 _ rfl c1 _ s03)
    | true =>
    refine iteF ?_
    have kk : ∀ H', Same H H' → Q (.bl ((lr.zip dr).all fun p => p.1.ok p.2)) H' := fun H' s => by
      have z := kk H' s
      rw [List.zip_cons_cons, List.all_cons, c1, Bool.true_and] at z
      exact z
    clear n1
    dsimp only [tNext]
    have row0 : ∀ {A : Prop}, A → A := fun h => h
    have ix0 : SqT K H3 a (.str w :: v1 :: xr) := SqT.of ha3
    have at0 : atI (V.str w :: v1 :: xr) 0 = some (V.str w) := atI_nat (j := 0) rfl
    have at2 : ∀ {i : Nat} {d : PyData}, dr[i]? = some d → ∃ v, atI (V.str w :: v1 :: xr) ((i + 2 : Nat) : Int) = some v ∧ Dq H v d := fun h => by
      obtain ⟨v, e, q⟩ := qr.get h
      exact ⟨v, atI_nat e, q⟩
    have n2 : ∀ (b : Bool), (lr.zip dr).all (fun p => p.1.ok p.2) = b → ∀ H', Same H H' → Q (.bl b) H' := fun b e H' s => by
      have z := kk H' s
      rwa [e] at z
    rcases pick with ⟨rfl, e⟩ | ⟨rfl, e⟩ | ⟨rfl, e⟩ | ⟨rfl, e⟩ | ⟨rfl, e⟩ <;> cases e
    · refine ⟨_, rfl, a, _, 0, _, rfl, rfl, ix0, at0, rfl, _, rfl, iteS (fun _ => ?_) fun z => absurd rfl z⟩
      obtain ⟨d2, rfl⟩ : ∃ d2, dr = [d2] := by
        match dr, hl with
        | [d2], _ => exact ⟨d2, rfl⟩
      obtain ⟨v2, e2, q2⟩ := at2 (i := 0) rfl
      refine ⟨_, rfl, a, _, 2, v2, rfl, rfl, ix0, e2, _, _, _, _, _, rfl, .ty _, (q2.sm s03).ty, kit_str d2, _, rfl, iteP (fun c => ?_) fun c => ?_⟩
      · obtain ⟨z, rfl⟩ : ∃ z, d2 = .str z := by
          cases q2 with
          | str z => exact ⟨z, rfl⟩
          | _ => simp [tyN] at c
        cases q2
        refine ⟨_, rfl, a, _, 2, _, rfl, rfl, ix0, e2, (by show 2 ≤ sizeLine; decide), fun l4 n_l4 => ?_⟩
        obtain ⟨H4, e_H4, s4, r4⟩ := new_any n_l4
        rw [← e_H4]
        clear e_H4
        refine ⟨l4, _, rfl, .inl (SqL.of r4), rfl, rfl, ?_⟩
        refine n2 _ ?_ H4 (s03.trans s4)
        unfold inV
        show ((decide (z = ("hand" : Str)) || decide (z = ("alias" : Str))) && true) = (_ || (_ || false))
        rw [Bool.or_false, Bool.and_true]
        have q : ∀ y : Str, (y == z) = decide (z = y) := fun y => by rw [Bool.eq_iff_iff, beq_iff_eq, decide_eq_true_eq]; exact eq_comm
        show _ = ((("hand" : Str) == z) || (("alias" : Str) == z))
        rw [q, q]
      · refine n2 _ ?_ H3 s03
        show (Lk.ok .srt d2 && true) = false
        cases q2 <;> first | rfl | exact absurd rfl c
    · refine ⟨_, rfl, a, _, 0, _, rfl, rfl, ix0, at0, rfl, _, rfl, iteS (fun z => absurd z (by decide)) fun _ => ?_⟩
      refine ⟨_, rfl, a, _, 0, _, rfl, rfl, ix0, at0, rfl, _, rfl, iteS (fun _ => ?_) fun z => absurd rfl z⟩
      obtain rfl : dr = [] := by
        match dr, hl with
        | [], _ => rfl
      exact n2 _ rfl H3 s03
    · refine ⟨_, rfl, a, _, 0, _, rfl, rfl, ix0, at0, rfl, _, rfl, iteS (fun z => absurd z (by decide)) fun _ => ?_⟩
      refine ⟨_, rfl, a, _, 0, _, rfl, rfl, ix0, at0, rfl, _, rfl, iteS (fun z => absurd z (by decide)) fun _ => ?_⟩
      obtain ⟨d2, d3, d4, rfl⟩ : ∃ d2 d3 d4, dr = [d2, d3, d4] := by
        match dr, hl with
        | [d2, d3, d4], _ => exact ⟨d2, d3, d4, rfl⟩
      obtain ⟨v2, e2, q2⟩ := at2 (i := 0) rfl
      obtain ⟨v3, e3, q3⟩ := at2 (i := 1) rfl
      obtain ⟨v4, e4, q4⟩ := at2 (i := 2) rfl
      have al : ([Lk.cnt, .aim, .wrd].zip [d2, d3, d4]).all (fun p => p.1.ok p.2) = (Lk.ok .cnt d2 && (Lk.ok .aim d3 && Lk.ok .wrd d4)) := by
        show (_ && (_ && (_ && true))) = _
        rw [Bool.and_true]
      rw [al] at n2
      have n3 : ∀ H', Same H H' → Q (.bl (Lk.ok .cnt d2 && (Lk.ok .aim d3 && Lk.ok .wrd d4))) H' := fun H' s => n2 _ rfl H' s
      have w4 : Lk.ok .wrd d4 = decide (tyN d4 = "str") := by cases q4 <;> rfl
      refine ⟨_, rfl, a, _, 2, v2, rfl, rfl, ix0, e2, v2, d2, rfl, q2.sm s03, _, rfl, ?_⟩
      cases c2 : Lk.ok .cnt d2 with
      | false =>
        rw [c2] at n3
        exact iteT (n3 _ s03)
      | true =>
      rw [c2, Bool.true_and] at n3
      refine iteF ?_
      refine ⟨_, rfl, a, _, 0, _, rfl, rfl, ix0, at0, rfl, _, rfl, iteS (fun z => absurd z (by decide)) fun _ => ?_⟩
      refine ⟨_, rfl, a, _, 3, v3, rfl, rfl, ix0, e3, v3, d3, rfl, q3.sm s03, ?_⟩
      refine ⟨_, rfl, ?_⟩
      cases c3 : Lk.ok .cnt d3 with
      | true =>
        have ea : Lk.ok .aim d3 = true := by cases q3 <;> first | exact c3 | rfl | cases c3
        rw [ea, w4, Bool.true_and] at n3
        refine iteT ⟨_, rfl, _, rfl, iteT ⟨_, rfl, a, _, 4, v4, rfl, rfl, ix0, e4, _, _, _, _, _, rfl, .ty _, (q4.sm s03).ty, kit_str d4, n3 _ s03⟩⟩
      | false =>
        refine iteF ⟨_, rfl, a, _, 0, _, rfl, rfl, ix0, at0, rfl, ?_⟩
        refine ⟨_, rfl, iteS (fun _ => ?_) fun z => absurd rfl z⟩
        refine ⟨_, rfl, a, _, 3, v3, rfl, rfl, ix0, e3, ?_⟩
        have ea : Lk.ok .aim d3 = decide (v3 = .non) := by cases q3 <;> first | rfl | (cases c3) | exact c3
        rw [ea, w4] at n3
        dsimp only
        by_cases z : v3 = .non
        · rw [decide_eq_true z] at n3 ⊢
          rw [Bool.true_and] at n3
          exact ⟨_, rfl, _, rfl, iteT ⟨_, rfl, a, _, 4, v4, rfl, rfl, ix0, e4, _, _, _, _, _, rfl, .ty _, (q4.sm s03).ty, kit_str d4, n3 _ s03⟩⟩
        · rw [decide_eq_false z] at n3 ⊢
          rw [Bool.false_and] at n3
          exact ⟨_, rfl, _, rfl, iteF (n3 _ s03)⟩
    · refine ⟨_, rfl, a, _, 0, _, rfl, rfl, ix0, at0, rfl, _, rfl, iteS (fun z => absurd z (by decide)) fun _ => ?_⟩
      refine ⟨_, rfl, a, _, 0, _, rfl, rfl, ix0, at0, rfl, _, rfl, iteS (fun z => absurd z (by decide)) fun _ => ?_⟩
      obtain ⟨d2, d3, d4, rfl⟩ : ∃ d2 d3 d4, dr = [d2, d3, d4] := by
        match dr, hl with
        | [d2, d3, d4], _ => exact ⟨d2, d3, d4, rfl⟩
      obtain ⟨v2, e2, q2⟩ := at2 (i := 0) rfl
      obtain ⟨v3, e3, q3⟩ := at2 (i := 1) rfl
      obtain ⟨v4, e4, q4⟩ := at2 (i := 2) rfl
      have al : ([Lk.cnt, .cnt, .wrd].zip [d2, d3, d4]).all (fun p => p.1.ok p.2) = (Lk.ok .cnt d2 && (Lk.ok .cnt d3 && Lk.ok .wrd d4)) := by
        show (_ && (_ && (_ && true))) = _
        rw [Bool.and_true]
      rw [al] at n2
      have n3 : ∀ H', Same H H' → Q (.bl (Lk.ok .cnt d2 && (Lk.ok .cnt d3 && Lk.ok .wrd d4))) H' := fun H' s => n2 _ rfl H' s
      have w4 : Lk.ok .wrd d4 = decide (tyN d4 = "str") := by cases q4 <;> rfl
      refine ⟨_, rfl, a, _, 2, v2, rfl, rfl, ix0, e2, v2, d2, rfl, q2.sm s03, _, rfl, ?_⟩
      cases c2 : Lk.ok .cnt d2 with
      | false =>
        rw [c2] at n3
        exact iteT (n3 _ s03)
      | true =>
      rw [c2, Bool.true_and] at n3
      refine iteF ?_
      refine ⟨_, rfl, a, _, 0, _, rfl, rfl, ix0, at0, rfl, _, rfl, iteS (fun z => absurd z (by decide)) fun _ => ?_⟩
      refine ⟨_, rfl, a, _, 3, v3, rfl, rfl, ix0, e3, v3, d3, rfl, q3.sm s03, ?_⟩
      refine ⟨_, rfl, ?_⟩
      cases c3 : Lk.ok .cnt d3 with
      | true =>
        rw [c3, w4, Bool.true_and] at n3
        refine iteT ⟨_, rfl, _, rfl, iteT ⟨_, rfl, a, _, 4, v4, rfl, rfl, ix0, e4, _, _, _, _, _, rfl, .ty _, (q4.sm s03).ty, kit_str d4, n3 _ s03⟩⟩
      | false =>
        refine iteF ⟨_, rfl, a, _, 0, _, rfl, rfl, ix0, at0, rfl, ?_⟩
        refine ⟨_, rfl, iteS (fun z => absurd z (by decide)) fun _ => ?_⟩
        rw [c3, Bool.false_and] at n3
        exact ⟨_, rfl, _, rfl, iteF (n3 _ s03)⟩
    · refine ⟨_, rfl, a, _, 0, _, rfl, rfl, ix0, at0, rfl, _, rfl, iteS (fun z => absurd z (by decide)) fun _ => ?_⟩
      refine ⟨_, rfl, a, _, 0, _, rfl, rfl, ix0, at0, rfl, _, rfl, iteS (fun z => absurd z (by decide)) fun _ => ?_⟩
      obtain ⟨d2, rfl⟩ : ∃ d2, dr = [d2] := by
        match dr, hl with
        | [d2], _ => exact ⟨d2, rfl⟩
      obtain ⟨v2, e2, q2⟩ := at2 (i := 0) rfl
      have n3 : ∀ H', Same H H' → Q (.bl (Lk.ok .cnt d2)) H' := fun H' s => n2 _ (Bool.and_true _) H' s
      refine ⟨_, rfl, a, _, 2, v2, rfl, rfl, ix0, e2, v2, d2, rfl, q2.sm s03, _, rfl, ?_⟩
      cases c2 : Lk.ok .cnt d2 with
      | false =>
        rw [c2] at n3
        exact iteT (n3 _ s03)
      | true =>
      rw [c2] at n3
      refine iteF ?_
      exact ⟨_, rfl, a, _, 0, _, rfl, rfl, ix0, at0, rfl, _, rfl, iteS (fun _ => n3 _ s03) fun z => absurd rfl z⟩
theorem pGe_lt (p q : Int × Int) : pGe p q = !HT.lexLt [p.1, p.2] [q.1, q.2] := by
  unfold pGe
  by_cases e1 : p.1 = q.1
  · rw [if_pos e1]
    by_cases e2 : p.2 = q.2
    · simp [HT.lexLt, e1, e2]
    · simp only [HT.lexLt, e1, e2, if_true, if_false]
      by_cases l : p.2 < q.2
      · simp [l, Int.not_le.mpr l]
      · simp [l, Int.not_lt.mp l]
  · rw [if_neg e1]
    simp only [HT.lexLt, e1, if_false]
    by_cases l : p.1 < q.1
    · simp [l, Int.not_le.mpr l]
    · simp [l, Int.not_lt.mp l]
def geAt (ws : List (Int × Int)) (j : Nat) : Bool := match ws[j]?, ws[j + 1]? with
  | some p, some q => pGe p q
  | _, _ => false
theorem risB_ge (ws : List (Int × Int)) : risB ws = decide ((List.range (ws.length - 1)).filter (geAt ws) = []) := by
  rw [Bool.eq_iff_iff, decide_eq_true_eq, List.filter_eq_nil_iff]
  unfold risB
  rw [List.all_eq_true]
  constructor
  · intro h j hj
    have hj := List.mem_range.mp hj
    have h1 : j < ws.length := by omega
    have h2 : j + 1 < ws.length := by omega
    have z := h (ws[j], ws[j + 1]) (List.mem_iff_getElem?.mpr ⟨j, by rw [List.getElem?_zip_eq_some]; exact ⟨List.getElem?_eq_getElem h1, by rw [List.getElem?_tail]; exact List.getElem?_eq_getElem h2⟩⟩)
    unfold geAt
    rw [List.getElem?_eq_getElem h1, List.getElem?_eq_getElem h2]
    dsimp only at z ⊢
    rw [pGe_lt, z]
    decide
  · intro h p hp
    obtain ⟨j, e⟩ := List.mem_iff_getElem?.mp hp
    rw [List.getElem?_zip_eq_some, List.getElem?_tail] at e
    have l2 := (List.getElem?_eq_some_iff.mp e.2).1
    have z := h j (List.mem_range.mpr (by omega))
    unfold geAt at z
    rw [e.1, e.2] at z
    dsimp only at z
    rw [pGe_lt] at z
    simpa using z
theorem scOpenL : FnScope ["_law_waiting", "_law_one_here", "_law_k"] ["_law_waiting"] (defScope sOpenL) := ⟨rfl, rfl, rfl, by decide +kernel, rfl, by decide +kernel, by decide +kernel⟩
theorem ok_openL {f : Addr} {fd : FuncData} (F : Fun K "_law_open" "_law_open" sOpenL f fd) (B : KB9 mg) (cN : Cd P w K mg base 1 "_law_number" ["_law_thing"] spNumL) : FnOk P w K mg base CX0 2 f fd ["_law_waiting"] spRising := by
  obtain ⟨fN, fdN, GN, mN, kN, bN⟩ := cN
  refine F.ok scOpenL (fun vs H Q E h => ?_) (fun cdv A outer s H vs Q E hr h => ?_)
  · obtain ⟨v, d, rfl, _⟩ := h
    rfl
  · obtain ⟨v, d, rfl, hd, hl, k⟩ := h
    have hr1 : Room 1 _ := hr.mono (by omega)
    refine ⟨_, (pss_cons (ps_if (pt_not (pt_val (pe_callB (isiK (K := K) rfl) (by rfl) B.isinstance (by decide +kernel) (pa_cons (pv 0) (pa_cons (pe_bltn (v := .ty "tuple") (by rfl) B.tuple PyProof.Rows.boot_tuple rfl) pa_nil)))))
       (pss_one (ps_ret pe_bl))
       pss_nil)
       (pss_cons (ps_for PassesOwn.never rfl (pi_tup (pv 0)) (pg_name (i := 1) scOpenL.nd rfl (Or.inl rfl))
       (pss_one (ps_if (PW.pt (pw_or (pt_not (pt_val (pe_callB (isiK (K := K) rfl) (by rfl) B.isinstance (by decide +kernel) (pa_cons (pv 1) (pa_cons (pe_bltn (v := .ty "tuple") (by rfl) B.tuple PyProof.Rows.boot_tuple rfl) pa_nil))))) (pw_or (pt_cmpR op_ne (pe_callB (lenK (K := K) rfl) (by rfl) B.len PySem.boot_len (pa_cons (pv 1) pa_nil)) pe_int (nomark _)) (pw_or (pt_not (pt_val (pe_call GN hr1 rfl mN kN bN .nil pass0 (pa_cons (pe_ix (ixT (K := K) rfl) (pv 1) pe_int (fun _ _ => rfl)) pa_nil)))) (pw_or1 (pt_not (pt_val (pe_call GN hr1 rfl mN kN bN .nil pass0 (pa_cons (pe_ix (ixT (K := K) rfl) (pv 1) pe_int (fun _ _ => rfl)) pa_nil)))))))))
       (pss_one (ps_ret pe_bl))
       pss_nil)))
       (pss_one (ps_ret (pe_cmpR (eqDK (K := K) rfl hr.units) (pe_lc (own := [("_law_k", 2)]) (g := (gName 2)) (tt := _) rfl scOpenL.nd (pi_range1 rfl B.range (pa_cons (pe_op op_sub (pe_callB (lenK (K := K) rfl) (by rfl) B.len PySem.boot_len (pa_cons (pv 0) pa_nil)) pe_int) pa_nil)) (blkOk_by (N := ["_law_waiting", "_law_one_here", "_law_k"]) (sc := defScope sOpenL) (by decide +kernel))
       (fun _ _ _ _ _ => (pg_name (i := 2) scOpenL.nd rfl (Or.inl rfl))) (fun _ _ _ _ _ => (pts_one (pt_cmpR (op_gePK (K := K) rfl (show _ < cLine from Nat.lt_of_le_of_lt (Nat.le_add_right _ 65) (room65 hr))) (pe_ix (ixT (K := K) rfl) (pv 0) (pv 2) (fun _ _ => rfl)) (pe_ix (ixT (K := K) rfl) (pv 0) (pe_op op_add (pv 2) pe_int) (fun _ _ => rfl)) (nomark _)))) (fun _ _ _ _ _ => (pv 2))) (pe_lst pa_nil) (nomark _)))))), ?_⟩
    have no : ∀ H', Same H H' → (wsOf d).isSome = false → Q (.bl false) H' := fun H' s e => by
      have z := k H' s
      rw [e] at z
      exact z
    refine ⟨_, rfl, _, _, _, _, _, rfl, .ty _, hd.ty, kit_tuple d, _, rfl, iteNP (fun c => no H (L2.Same.refl _) ?_) (fun c => ?_)⟩
    · cases hd <;> first | rfl | exact absurd rfl c
    obtain ⟨ds, rfl⟩ : ∃ ds, d = .tuple ds := by
      cases hd with
      | tup h1 h2 => exact ⟨_, rfl⟩
      | _ => simp [tyN] at c
    have hl := hl ds rfl
    obtain ⟨a, xs, rfl, ha, hx⟩ := hd.inv_tup
    have lx := hx.len
    have bad : ∀ i d, ds[i]? = some d → pairOf d = none → (wsOf (.tuple ds)).isSome = false := fun i d e1 e2 => by
      show (if (ds.all fun d => (pairOf d).isSome) = true ∧ _ then some _ else none).isSome = false
      rw [if_neg]
      · rfl
      · intro h
        have := List.all_eq_true.mp h.1 d (List.mem_of_getElem? e1)
        rw [e2] at this
        cases this
    dsimp only [tNext]
    refine ⟨_, rfl, a, rfl, ⟨_, SqT.of ha⟩, ?_⟩
    refine for_tup (K := K) (a := a) (xs := xs) (fun i σ H' => ∃ v1 : Option V, σ = [some (.ref a), v1, none] ∧ H' = H ∧ ∀ d ∈ ds.take i, (pairOf d).isSome = true) ⟨_, rfl, rfl, fun d hd => by cases hd⟩ (fun i σ H' _ ⟨_, _, e, _⟩ => by rw [e]; exact SqT.of ha) ?_ ?_
    · rintro i x σ H' hi ⟨v1, rfl, rfl, hp⟩
      obtain ⟨d, ed, q⟩ := hx.getV hi
      have good : ∀ p, pairOf d = some p → ∀ d ∈ ds.take (i + 1), (pairOf d).isSome = true := fun p e d' h => by
        rw [List.take_succ, ed] at h
        rcases List.mem_append.mp h with h | h
        · exact hp d' h
        · rw [List.mem_singleton.mp h, e]
          rfl
      have badi : pairOf d = none → Q (.bl false) H' := fun e => no _ (L2.Same.refl _) (bad i d ed e)
      refine ⟨_, rfl, _, _, _, _, _, rfl, .ty _, q.ty, kit_tuple d, _, rfl, iteNP (fun c => badi ?_) (fun c => ?_)⟩
      · cases q <;> first | rfl | exact absurd rfl c
      obtain ⟨es, rfl⟩ : ∃ es, d = .tuple es := by
        cases q with
        | tup h1 h2 => exact ⟨_, rfl⟩
        | _ => simp [tyN] at c
      obtain ⟨b, ys, rfl, hb, hy⟩ := q.inv_tup
      have ly := hy.len
      refine ⟨_, rfl, _, ys.length, rfl, .inr ⟨_, SqT.of hb, rfl⟩, rfl, _, rfl, iteNI (fun c2 => badi ?_) (fun c2 => ?_)⟩
      · match es, ly with
        | [], _ => rfl
        | [_], _ => unfold pairOf; split <;> first | rfl | (rename_i h; cases h)
        | [x, y], h => exact absurd (by rw [h]; rfl) c2
        | x :: y :: z :: r, _ => unfold pairOf; split <;> first | rfl | (rename_i h; cases h)
      obtain ⟨d1, d2, rfl⟩ := len2 (show es.length = 2 by omega)
      obtain ⟨w1, r1, rfl, q1, hr1'⟩ := hy.inv_cons
      obtain ⟨w2, r2, rfl, q2, hr2'⟩ := hr1'.inv_cons
      have := hr2'.inv_nil
      subst this
      refine ⟨_, rfl, b, _, 0, w1, rfl, rfl, SqT.of hb, atI_nat (j := 0) rfl, w1, d1, rfl, q1, _, rfl, ?_⟩
      cases c1 : Lk.ok .cnt d1 with
      | false =>
        refine iteT (badi ?_)
        unfold pairOf
        split
        · rename_i h
          cases h
          rw [if_neg (fun z => by have : decide ((0 : Int) ≤ _) = false := c1; rw [decide_eq_true z.1] at this; cases this)]
        · rfl
      | true =>
      refine iteF ?_
      refine ⟨_, rfl, b, _, 1, w2, rfl, rfl, SqT.of hb, atI_nat (j := 1) rfl, w2, d2, rfl, q2, _, rfl, ?_⟩
      cases c2 : Lk.ok .cnt d2 with
      | false =>
        refine iteT (badi ?_)
        unfold pairOf
        split
        · rename_i h
          cases h
          rw [if_neg (fun z => by have : decide ((0 : Int) ≤ _) = false := c2; rw [decide_eq_true z.2] at this; cases this)]
        · rfl
      | true =>
      obtain ⟨i1, rfl, g1⟩ := cnt_inv c1
      obtain ⟨i2, rfl, g2⟩ := cnt_inv c2
      exact iteF ⟨_, rfl, rfl, good (i1, i2) (pairOf_prD (k := (i1, i2)) ⟨g1, g2⟩)⟩
    · rintro σ H' ⟨v1, rfl, rfl, hp⟩
      have hall : (ds.all fun d => (pairOf d).isSome) = true := List.all_eq_true.mpr fun d h => hp d (by rw [lx, List.take_length]; exact h)
      have eds := pairs_map hall
      generalize ds.filterMap pairOf = ws at eds
      subst eds
      have e2 := filterMap_prD (ws := ws)
      have lw : ws.length = xs.length := by rw [lx, List.length_map]
      have at1 : ∀ (i : Nat) (q : Int × Int), ws[i]? = some q → ∃ b, xs[i]? = some (.ref b) ∧ H' b = some (.tup [.int q.1, .int q.2]) := fun i q h2 => by
        obtain ⟨u, eu, hu'⟩ := hx.get (i := i) (d := prD q) (by rw [List.getElem?_map, h2]; rfl)
        obtain ⟨b, ys, rfl, hb, hys⟩ := hu'.inv_tup
        obtain ⟨v1, r1, rfl, q1, hr1⟩ := hys.inv_cons
        obtain ⟨v2, r2, rfl, q2, hr2'⟩ := hr1.inv_cons
        rw [hr2'.inv_nil, q1.inv_int, q2.inv_int] at hb
        exact ⟨b, eu, hb⟩
      have hpos : ∀ k ∈ ws, 0 ≤ k.1 ∧ 0 ≤ k.2 := fun k hk => by
        have z := List.all_eq_true.mp hall (prD k) (List.mem_map_of_mem hk)
        by_cases c : 0 ≤ k.1 ∧ 0 ≤ k.2
        · exact c
        · have z : (if 0 ≤ k.1 ∧ 0 ≤ k.2 then some (k.1, k.2) else none).isSome = true := z
          rw [if_neg c] at z
          cases z
      have ew : (wsOf (.tuple (ws.map prD))).isSome = risB ws := by
        show (if ((ws.map prD).all fun d => (pairOf d).isSome) = true ∧ risB ((ws.map prD).filterMap pairOf) = true then some ((ws.map prD).filterMap pairOf) else none).isSome = _
        rw [filterMap_prD hpos, hall]
        cases risB ws with
        | true => rw [if_pos ⟨rfl, rfl⟩]; rfl
        | false => rw [if_neg (fun z => Bool.noConfusion z.2)]; rfl
      rw [ew] at k
      refine ⟨_, rfl, _, xs.length, rfl, .inr ⟨_, SqT.of ha, rfl⟩, _, _, rfl, rfl, _, rfl, by omega, by omega, fun D nD => ?_⟩
      refine comp_ls (L := List.range (ws.length - 1)) ((walk_range (lo := 0) (n := (((xs.length : Nat) : Int) - 1).toNat)).cast (by rw [List.length_range]; omega)) (fun _ _ => trivial) (geAt ws) (fun j => .int (0 + (j : Nat))) nD (by rw [List.length_range]; omega) ?_ ?_
      · rintro j b v H1 H2 Q' N' hj s' ⟨rfl, rfl⟩ hQ hN
        have hj' := List.getElem?_eq_some_iff.mp hj
        have l1 : j < ws.length - 1 := by have := hj'.1; rwa [List.length_range] at this
        obtain rfl : b = j := by have := hj'.2; rw [List.getElem_range] at this; exact this.symm
        obtain ⟨b1, e1, g1⟩ := at1 b ws[b] (List.getElem?_eq_getElem (by omega))
        obtain ⟨b2, e2', g2⟩ := at1 (b + 1) ws[b + 1] (List.getElem?_eq_getElem (by omega))
        have eg : geAt ws b = pGe ws[b] ws[b + 1] := by
          unfold geAt
          rw [List.getElem?_eq_getElem (show b < ws.length by omega), List.getElem?_eq_getElem (show b + 1 < ws.length by omega)]
        rw [eg] at hQ hN
        have a1 : atI xs (0 + (b : Int)) = some (.ref b1) := by rw [Int.zero_add]; exact atI_nat e1
        have a2 : atI xs (0 + (b : Int) + 1) = some (.ref b2) := by rw [Int.zero_add]; exact atI_nat e2'
        refine ⟨rfl, _, rfl, _, rfl, a, xs, _, _, rfl, rfl, SqT.of (s' _ _ ha), a1, _, rfl, _, rfl, _, _, rfl, rfl, a, xs, _, _, rfl, rfl, SqT.of (s' _ _ ha), a2, b1, b2, ws[b], ws[b + 1], rfl, rfl, SqT.of (s' _ _ g1), SqT.of (s' _ _ g2), _, rfl, ?_⟩
        cases eb : pGe ws[b] ws[b + 1] with
        | true => exact iteT ⟨_, rfl, hQ eb _ (L2.Same.refl _)⟩
        | false => exact iteF (hN eb _ (L2.Same.refl _))
      · intro H1 s1 hD
        refine ⟨Nat.zero_le _, fun l4 n_l4 => ?_⟩
        obtain ⟨H4, e_H4, s4, r4⟩ := new_any n_l4
        rw [← e_H4]
        clear e_H4
        have ei : (((List.range (ws.length - 1)).filter (geAt ws)).map fun j => V.int (0 + (j : Nat))) = (((List.range (ws.length - 1)).filter (geAt ws)).map fun j => (0 + (j : Nat) : Int)).map V.int := by
          rw [List.map_map]
          rfl
        rw [ei] at hD
        refine ⟨_, _, .lst (SqL.of (s4 _ _ hD)) (dp_ints _), .lst (SqL.of r4) .nil, Shp.ok (n := 2) (Shp.lst (Shp.map fun _ => Shp.int)) (by decide), rfl, ?_⟩
        rw [lst_eqv]
        have z := k H4 (s1.trans s4)
        rw [risB_ge] at z
        have e5 : decide ((((List.range (ws.length - 1)).filter (geAt ws)).map fun j => (0 + (j : Nat) : Int)) = []) = decide ((List.range (ws.length - 1)).filter (geAt ws) = []) := by
          rw [Bool.eq_iff_iff, decide_eq_true_eq, decide_eq_true_eq, List.map_eq_nil_iff]
        rw [e5]
        exact z
theorem scFirstL : FnScope ["_law_kind", "_law_rows", "_law_waiting", "_law_stands", "_law_at"] ["_law_kind", "_law_rows", "_law_waiting"] (defScope sFirstL) := ⟨rfl, rfl, rfl, by decide +kernel, rfl, by decide +kernel, by decide +kernel⟩
def spFirstL : Sp := fun vs H Q _ => ∃ (κ : JK) (ra : Addr) (xs : List V) (wv : V) (ds : List PyData) (wd : PyData), vs = [.str (jkS κ), .ref ra, wv] ∧ H ra = some (.tup xs) ∧ DqAll H xs ds ∧ Dq H wv wd ∧ ds.length ≤ 90000 ∧ (∀ es, wd = .tuple es → es.length ≤ 90000) ∧
  ∀ H', Same H H' → Q (natV (firstD κ ds wd)) H'
theorem ok_firstL {f : Addr} {fd : FuncData} (F : Fun K "_law_first" "_law_first" sFirstL f fd) (B : KB9 mg) (cF : Cd P w K mg base 2 "_law_form" ["_law_row"] spForm) (cO : Cd P w K mg base 2 "_law_open" ["_law_waiting"] spRising)
    (cR : Cd P w K mg base 2 "_law_row_right" ["_law_kind", "_law_row", "_law_stands"] spRowR) (cE : Cd P w K mg base 1 "_law_end_right" ["_law_stands", "_law_waiting"] (spEndR K)) : FnOk P w K mg base CX0 3 f fd ["_law_kind", "_law_rows", "_law_waiting"] spFirstL := by
  obtain ⟨fF, fdF, GF, mF, kF, bF⟩ := cF
  obtain ⟨fO, fdO, GO, mO, kO, bO⟩ := cO
  obtain ⟨fR, fdR, GR, mR, kR, bR⟩ := cR.tk
  obtain ⟨fE, fdE, GE, mE, kE, bE⟩ := cE.tk
  refine F.ok scFirstL (fun vs H Q E h => ?_) (fun cdv A outer s H vs Q E hr h => ?_)
  · obtain ⟨κ, ra, xs, wv, ds, wd, rfl, _⟩ := h
    rfl
  · obtain ⟨κ, ra, xs, wv, ds, wd, rfl, hra, dx, hw, lr, lw, k⟩ := h
    have hr2 : Room 2 _ := hr.mono (by omega)
    have hr1 : Room 1 _ := hr.mono (by omega)
    refine ⟨_, (pss_cons (ps_set (i := 3) scFirstL.nd rfl (Or.inl rfl) (pe_lst (pa_cons pe_dnewK (pa_cons pe_dnewT (pa_cons pe_dnewT (pa_cons pe_dnewT (pa_cons pe_dnewK pa_nil)))))))
       (pss_cons (ps_for PassesOwn.never rfl (pi_range1 rfl B.range (pa_cons (pe_callB (lenK (K := K) rfl) (by rfl) B.len PySem.boot_len (pa_cons (pv 1) pa_nil)) pa_nil)) (pg_name (i := 4) scFirstL.nd rfl (Or.inl rfl))
       (pss_one (ps_if (PW.pt (pw_or (pt_not (pt_val (pe_call GF hr2 rfl mF kF bF .nil pass0 (pa_cons (pe_ix (ixT (K := K) rfl) (pv 1) (pv 4) (fun _ _ => rfl)) pa_nil)))) (pw_or1 (pt_not (pt_val (pe_call GR hr2 rfl mR kR bR .nil pass0 (pa_cons (pv 0) (pa_cons (pe_ix (ixT (K := K) rfl) (pv 1) (pv 4) (fun _ _ => rfl)) (pa_cons (pv 3) pa_nil)))))))))
       (pss_one (ps_ret (pv 4)))
       pss_nil)))
       (pss_cons (ps_if (PW.pt (pw_or (pt_not (pt_val (pe_call GO hr2 rfl mO kO bO .nil pass0 (pa_cons (pv 2) pa_nil)))) (pw_or1 (pt_not (pt_val (pe_call GE hr1 rfl mE kE bE .nil pass0 (pa_cons (pv 3) (pa_cons (pv 2) pa_nil))))))))
       (pss_one (ps_ret (pe_callB (lenK (K := K) rfl) (by rfl) B.len PySem.boot_len (pa_cons (pv 1) pa_nil))))
       pss_nil)
       (pss_one (ps_ret pe_non))))), ?_⟩
    refine seq_set (stands_new fun H1 a h1 s1 => ?_)
    have w0 : ∀ x ∈ a.ws, H x = none := fun x hx => h1.fr x (List.mem_cons_of_mem _ hx)
    have lx := dx.len
    refine ⟨_, rfl, _, _, rfl, .inr ⟨_, SqT.of (s1 _ _ hra), rfl⟩, _, rfl, by omega, by omega, ?_⟩
    refine for_range (lo := 0) (fun i σ H' => ∃ (v4 : Option V) (S : Sd) (J : Jd), σ = [some (.str (jkS κ)), some (.ref ra), some wv, some (.ref a.l), v4] ∧ Same H H' ∧ SdAt H H' a S ∧ S.Sz i ∧ RelS κ S J ∧ judgeD κ Jd.nil ds 0 = judgeD κ J (ds.drop i) i)
      ⟨_, Sd.nil, Jd.nil, rfl, s1, h1, Sd.Sz.nil, RelS.nil, rfl⟩ ?_ ?_
    · rintro i σ H2 hi ⟨v4, S, J, rfl, s2, h2, hz, R, ej⟩
      have hi : i < ds.length := by omega
      obtain ⟨v, ev, dv⟩ := dx.get (i := i) (d := ds[i]) (List.getElem?_eq_getElem hi)
      rw [judgeD_at (List.getElem?_eq_getElem hi)] at ej
      have a1 : atI xs (0 + (i : Int)) = some v := by rw [Int.zero_add]; exact atI_nat ev
      dsimp only [gName, List.set]
      have bad : ∀ H', Same H H' → judgeD κ Jd.nil ds 0 = .inl i → Q (.int (0 + (i : Int))) H' := fun H' s e => by
        have z := k H' s
        unfold firstD at z
        rw [e] at z
        rw [Int.zero_add]
        exact z
      refine ⟨_, rfl, _, rfl, ra, xs, _, v, rfl, rfl, SqT.of (s2 _ _ hra), a1, v, ds[i], rfl, dv.sm s2, fun H3 s3 => ?_⟩
      have h3 := h2.same s3
      have s03 := s2.trans s3
      cases ef : formD ds[i] with
      | false =>
        rw [rwOf_none ef] at ej
        refine ⟨_, rfl, iteT ⟨_, rfl, ?_⟩⟩
        exact bad _ s03 ej
      | true =>
      refine ⟨_, rfl, iteF ?_⟩
      obtain ⟨r, ro, ed⟩ := form_inv ef
      rw [ed, rwOf_rwD ro] at ej
      dsimp only at ej
      rw [ed] at dv
      obtain ⟨q, zs, rfl, hq, dz⟩ := Dq.inv_tup dv
      rw [rw_vals dz] at hq
      have RR := R.row ro
      refine ⟨_, rfl, _, rfl, _, rfl, ra, xs, _, _, rfl, rfl, SqT.of (s03 _ _ hra), a1, _, rfl, κ, q, a, S, i, H, r, rfl, s03 _ _ hq, h3, hz, by omega, fun H4 k4 h4 t4 => ?_⟩
      have s4 : Same H H4 := fun b o e => k4 _ _ (fun z => by rw [w0 b z] at e; cases e) (s03 _ _ e)
      refine ⟨_, rfl, ?_⟩
      cases er : J.row κ r with
      | none =>
        rw [er] at RR ej
        rw [RR]
        exact iteT ⟨_, rfl, bad _ s4 ej⟩
      | some J' =>
        rw [er] at RR ej
        rw [RR.1]
        exact iteF ⟨_, _, J', rfl, s4, h4, hz.row _, RR.2, ej⟩
    · rintro σ H2 ⟨v4, S, J, rfl, s2, h2, hz, R, ej⟩
      have e1 : ((xs.length : Nat) : Int).toNat = ds.length := by omega
      rw [e1, List.drop_length] at ej
      rw [e1] at hz
      have ej : judgeD κ Jd.nil ds 0 = .inr J := ej
      unfold firstD at k
      rw [ej] at k
      dsimp only at k
      have lenQ : ∀ H', Same H H' → Q (natV (some ds.length)) H' → tRet (tCB (fun xs H Q => ∃ x n, xs = [x] ∧ LenV K x H n ∧ Q (V.int (n : Int)) H) (tCons (tVar 1) tNil)) { nx := fun _ _ => False, rt := Q } [some (.str (jkS κ)), some (.ref ra), some wv, some (.ref a.l), v4] H' := fun H' s z => ⟨_, rfl, _, _, rfl, .inr ⟨_, SqT.of (s _ _ hra), rfl⟩, by rw [lx]; exact z⟩
      refine ⟨_, rfl, wv, wd, rfl, hw.sm s2, (fun es e => Nat.le_trans (lw es e) (by decide)), fun H3 s3 => ⟨_, rfl, ?_⟩⟩
      have s03 := s2.trans s3
      have h3 := h2.same s3
      cases ew : wsOf wd with
      | none =>
        rw [ew] at k
        exact iteT (lenQ _ s03 (k _ s03))
      | some ws =>
      rw [ew] at k
      dsimp only at k
      have ewd := wsOf_some ew
      subst ewd
      obtain ⟨wa, ys, rfl, hwa, dy⟩ := hw.inv_tup
      have ly : ys.length = ws.length := by
        have := dy.len
        rwa [List.length_map] at this
      have lw' := lw _ rfl
      rw [List.length_map] at lw'
      refine iteF ⟨_, rfl, _, rfl, a, S, ds.length, H, wa, ys, ws, rfl, h3, hz, by omega, SqT.of (s03 _ _ hwa), ly, by omega, fun i v kk g1 g2 => ?_, fun H4 s4 h4 t4 => ?_⟩
      · obtain ⟨u, eu, hu'⟩ := dy.get (i := i) (d := prD kk) (by rw [List.getElem?_map, g2]; rfl)
        rw [eu] at g1
        cases g1
        obtain ⟨b, zs, rfl, hb, hys⟩ := hu'.inv_tup
        obtain ⟨v1, r1, rfl, q1, hr1⟩ := hys.inv_cons
        obtain ⟨v2, r2, rfl, q2, hr2'⟩ := hr1.inv_cons
        rw [hr2'.inv_nil, q1.inv_int, q2.inv_int] at hb
        exact ⟨b, rfl, s03 _ _ hb⟩
      · have s04 := s03.trans s4
        rw [← R.endOk] at k
        refine ⟨_, rfl, ?_⟩
        cases ee : S.endOk ws with
        | true =>
          rw [ee] at k
          exact iteF (k _ s04)
        | false =>
          rw [ee] at k
          exact iteT (lenQ _ s04 (k _ s04))
end
end Wn

set_option maxHeartbeats 1600000
namespace Wn
open PySem L2 PySem.Spec PyProof.Rows
set_option pp.maxSteps 700
set_option pp.deepTerms false
local macro_rules | `(tactic| walk_at "h") => `(tactic| first | with_reducible assumption | (with_reducible exact upd_same) | (with_reducible apply g_upd; (walk_at "neq"); (walk_at "h")) | (with_reducible apply g_same; (with_reducible assumption); (walk_at "h")) | (with_reducible apply g_kp; (with_reducible assumption); (walk_at "nin"); (walk_at "h")) | (with_reducible apply g_tk; (with_reducible assumption); (walk_at "h")))
local macro_rules | `(tactic| walk_at "neq") => `(tactic| first | with_reducible assumption | (with_reducible apply Ne.symm; with_reducible assumption) | (with_reducible apply ne_upd; (with_reducible assumption)) | (with_reducible apply Ne.symm; with_reducible apply ne_upd; with_reducible assumption) | (with_reducible apply ne_fr; (with_reducible assumption); (walk_at "h")) | (with_reducible apply ne_fr'; (with_reducible assumption); (walk_at "h")) | (with_reducible apply ne_kd; (walk_at "h"); (walk_at "h"); (with_unfolding_all (intro z; cases z))))
local macro_rules | `(tactic| walk_at "nin") => `(tactic| first | (with_reducible exact nin0) | with_reducible assumption | (with_reducible apply ninc; (walk_at "neq"); (walk_at "nin")))
local macro_rules | `(tactic| walk_at "none") => `(tactic| first | with_reducible assumption | (with_reducible apply n_upd; (with_reducible assumption)) | (with_reducible apply n_same; (with_reducible assumption); (walk_at "none")) | (with_reducible apply n_kp; (with_reducible assumption); (walk_at "nin"); (walk_at "none")))
local macro_rules | `(tactic| walk_at "mem") => `(tactic| first | (with_reducible exact List.mem_cons_self) | (with_reducible apply List.mem_cons_of_mem; (walk_at "mem")))
local macro_rules | `(tactic| walk_at "am") => `(tactic| first | (with_reducible exact am0) | (with_reducible apply am1; (first | (apply Or.inl; walk_at "mem") | (apply Or.inr; walk_at "none")); (walk_at "am")))
local macro_rules | `(tactic| walk_at "tk") => `(tactic| first | (with_reducible exact TK.refl _) | with_reducible assumption | (with_reducible apply t_tk; (with_reducible assumption); (walk_at "tk")) | (with_reducible apply t_same; (with_reducible assumption); (walk_at "tk")) | (with_reducible apply t_new; (with_reducible assumption); (walk_at "tk")) | (with_reducible apply t_wr; (walk_at "h"); (with_unfolding_all rfl); (walk_at "tk")))
local macro_rules | `(tactic| walk_at "same") => `(tactic| first | (with_reducible exact L2.Same.refl _) | with_reducible assumption | (with_reducible apply s_same; (with_reducible assumption); (walk_at "same")) | (with_reducible apply s_new; (with_reducible assumption); (walk_at "same")) | (with_reducible apply s_wrn; (walk_at "none"); (walk_at "same")))
local macro_rules | `(tactic| walk_at "kp") => `(tactic| first | (with_reducible exact Kp.refl _ _) | with_reducible assumption | (with_reducible apply k_same; (with_reducible assumption); (walk_at "kp")) | (with_reducible apply k_kp; (with_reducible assumption); (walk_at "kp")) | (with_reducible apply k_kpm; (with_reducible assumption); (walk_at "am"); (walk_at "kp")) | (with_reducible apply k_new; (with_reducible assumption); (walk_at "kp")) | (with_reducible apply k_wr; (walk_at "mem"); (walk_at "kp")) | (with_reducible apply k_wrn; (walk_at "none"); (walk_at "kp")))
local macro_rules | `(tactic| walk_at "rp") => `(tactic| first | with_reducible assumption | (with_reducible exact Rp.int) | (with_reducible exact Rp.str) | (with_reducible exact Rp.none) | (with_reducible exact Rp.bool) | (with_reducible apply Rp.tk'; (with_reducible assumption); (walk_at "tk")) | (with_reducible apply Rp.tup; (walk_at "h"); (walk_at "rpl")))
local macro_rules | `(tactic| walk_at "rpl") => `(tactic| first | with_reducible assumption | (with_reducible exact RpL.nil) | (with_reducible apply RpL.tk'; (with_reducible assumption); (walk_at "tk")) | (with_reducible apply RpL.cons; (walk_at "rp"); (walk_at "rpl")))
local macro_rules | `(tactic| walk_at "g") => `(tactic| repeat (first | refine ⟨_, rfl, ?_⟩ | refine ⟨_, _, rfl, rfl, ?_⟩ | refine ⟨rfl, _, rfl, ?_⟩ | refine ⟨_, _, rfl, rfl, (by first | decide | omega), ?_⟩))
abbrev sTold : Stmt := top 44
abbrev sLaw : Stmt := top 45
/-- repr of None, a truth, a small number -/
def flatD : V → PyData
  | .bl b => .bool b
  | .int i => .int i
  | _ => .none
def flatR : V → Prop
  | .non => True
  | .bl _ => True
  | .int i => i.natAbs < 2 ^ 64
  | _ => False
theorem call_reprS {X : Cx} : CallR X (.builtin "repr") (fun xs H Q => ∃ x, xs = [x] ∧ flatR x ∧ Q (.str (flatD x).shown) H) := by
  intro pins s σ H xs us Q I r h
  obtain ⟨x, rfl, hx, q⟩ := h
  obtain ⟨u, rfl, rx⟩ := vals1 r
  have fin : ∀ (h' : Heap) (t tk : Tok), (∀ b o, s.heap.get? b = some o → h'.get? b = some o) → EP X pins σ Q (.str (flatD x).shown t) { s with heap := h', toks := tk } := fun h' t tk hk => ⟨.str (flatD x).shown, H, I.kept hk, ⟨t, rfl⟩, q⟩
  have same : ∀ b o, s.heap.get? b = some o → s.heap.get? b = some o := fun _ _ e => e
  cases x with
  | non =>
    obtain rfl : u = .none := rx
    exact PySem.P.repr_of_none (fin s.heap _ _ same)
  | bl b =>
    obtain rfl : u = .bool b := rx
    exact PySem.P.repr_of_bool (fin s.heap _ _ same)
  | int i =>
    obtain ⟨t, rfl⟩ : ∃ t, u = .int i t := rx
    have hi : i.natAbs.log2 < 1920 := by
      have hx : i.natAbs < 2 ^ 64 := hx
      by_cases z : i.natAbs = 0
      · rw [z]; decide
      · exact Nat.lt_of_lt_of_le ((Nat.log2_lt z).mpr hx) (by decide)
    exact PySem.P.repr_of_int hi (fin s.heap _ _ same)
  | _ => exact hx.elim
structure KB8 (mg : Str → Option Value) : Prop where
  repr : mg "repr" = none
  range : mg "range" = none
  isinstance : mg "isinstance" = none
  len : mg "len" = none
  tuple : mg "tuple" = none
def spTold : Sp := fun vs H Q _ => ∃ (κ : JK) (v : V) (D : PyData), vs = [.str (jkS κ), v] ∧ Dq H v D ∧ wid D ≤ 40000 ∧ ∀ H', Same H H' → Q (.bl true) H'

theorem judgeD_le {κ : JK} : ∀ {ds : List PyData} {J : Jd} {i j : Nat}, judgeD κ J ds i = .inl j → j ≤ i + ds.length
  | [], J, i, j, h => by cases h
  | d :: ds, J, i, j, h => by
    unfold judgeD at h
    rw [List.length_cons]
    split at h
    · cases h; omega
    · split at h
      · cases h; omega
      · have := judgeD_le h
        omega
theorem firstD_le {κ : JK} {ds : List PyData} {wd : PyData} {n : Nat} (h : firstD κ ds wd = some n) : n ≤ ds.length := by
  unfold firstD at h
  split at h
  · rename_i e
    cases h
    have := judgeD_le e
    omega
  · split at h
    · cases h; exact Nat.le_refl _
    · split at h
      · cases h
      · cases h; exact Nat.le_refl _
mutual
def noL : PyData → Bool
  | .list _ | .dict _ => false
  | .tuple xs => noLs xs
  | _ => true
def noLs : List PyData → Bool
  | [] => true
  | x :: xs => noL x && noLs xs
end
theorem noLs_all : ∀ {xs : List PyData}, (∀ x ∈ xs, noL x = true) → noLs xs = true
  | [], _ => rfl
  | x :: xs, h => by
    show (noL x && noLs xs) = true
    rw [h x List.mem_cons_self, noLs_all fun y hy => h y (List.mem_cons_of_mem _ hy)]
    rfl
mutual
/-- what has no lists within lies nowhere near a list -/
theorem dq_hid {d : Addr} {H : Hp} {zs : List V} (hd : H d = some (.lst zs)) : ∀ {v : V} {D : PyData}, noL D = true → Dq H v D → Dq (hid d H) v D
  | _, _, _, .non => .non
  | _, _, _, .bl b => .bl b
  | _, _, _, .int i => .int i
  | _, _, _, .str x => .str x
  | _, _, n, .lst h1 h2 => by cases n
  | _, _, n, .tup (a := a) h1 h2 => .tup (hid_at (fun e => by rw [e, hd] at h1; cases h1) h1) (dqs_hid hd n h2)
  | _, _, n, .dct h1 h2 => by cases n
theorem dqs_hid {d : Addr} {H : Hp} {zs : List V} (hd : H d = some (.lst zs)) : ∀ {vs : List V} {Ds : List PyData}, noLs Ds = true → DqAll H vs Ds → DqAll (hid d H) vs Ds
  | [], [], _, _ => .nil
  | v :: vs, D :: Ds, n, .cons h1 h2 => by
    have n : (noL D && noLs Ds) = true := n
    rw [Bool.and_eq_true] at n
    exact .cons (dq_hid hd n.1 h1) (dqs_hid hd n.2 h2)
end
theorem rw_noL (r : Rw) : noL (rwD r) = true := by
  cases r with
  | send a n aim t => cases aim <;> rfl
  | _ => rfl
theorem gq_i {z : Int} (h0 : 0 ≤ z) (h : z ≤ 100) : gq (10 ^ 29) (.int z) = true := decide_eq_true (Nat.le_trans (show z.natAbs ≤ 100 by omega) (by decide))
theorem row_gq {r : Rw} (ok : r.ok) (sm : r.sm 100) : GQ (10 ^ 29) 1 109 5 (rwD r) := by
  have w0 : ∀ z : Str, z = ("come" : Str) ∨ z = ("go" : Str) ∨ z = ("send" : Str) ∨ z = ("hear" : Str) ∨ z = ("lose" : Str) → gq (10 ^ 29) (.str z) = true := fun z h => by
    show PyData.strOk z = true
    rcases h with rfl | rfl | rfl | rfl | rfl <;> decide +kernel
  have mk : ∀ ds : List PyData, gqs (10 ^ 29) ds = true → PyData.depthAll ds ≤ 0 → PyData.bulkAll ds ≤ 109 → ds.length ≤ 5 → wids ds ≤ 5 → GQ (10 ^ 29) 1 109 5 (.tuple ds) := fun ds h1 h2 h3 h4 h5 => ⟨h1, by rw [depth_tup]; omega, by rw [bulk_t]; omega, by show max ds.length (wids ds) ≤ 5; omega⟩
  have g : ∀ {x y : PyData} {ds : List PyData}, gq (10 ^ 29) x = true → gqs (10 ^ 29) ds = true → gqs (10 ^ 29) (x :: ds) = true := fun {x _ ds} h1 h2 => by
    show (gq _ x && gqs _ ds) = true
    rw [h1, h2]
    rfl
  have l : ∀ {t : Str}, (t.length : Int) ≤ 100 → (PyData.str t).bulk ≤ 100 := fun {t} h => by
    have h : ((t.cps.size : Nat) : Int) ≤ 100 := h
    show t.cps.size ≤ 100
    omega
  cases r with
  | come z s =>
    obtain ⟨g1, g2, g3⟩ := sm
    have := l g2
    refine mk _ (g (y := .none) (w0 _ (.inl rfl)) (g (y := .none) (gq_i ok.1 g1) (g (y := .none) g3 rfl))) (Nat.le_of_ble_eq_true rfl) ?_ (Nat.le_of_ble_eq_true rfl) (Nat.le_of_ble_eq_true rfl)
    show 4 + 1 + (0 + 1 + ((PyData.str s).bulk + 1 + 0)) ≤ 109
    omega
  | go z => exact mk _ (g (y := .none) (w0 _ (.inr (.inl rfl))) (g (y := .none) (gq_i ok sm) rfl)) (Nat.le_of_ble_eq_true rfl) (by show 2 + 1 + (0 + 1 + 0) ≤ 109; decide) (Nat.le_of_ble_eq_true rfl) (Nat.le_of_ble_eq_true rfl)
  | send a n aim t =>
    obtain ⟨g1, g2, g3, g4, g5⟩ := sm
    obtain ⟨o1, o2, o3⟩ := ok
    have := l g4
    have ga : gq (10 ^ 29) (aimD aim) = true := by
      cases aim with
      | none => rfl
      | some j => exact gq_i o3 (g3 j rfl)
    refine mk _ (g (y := .none) (w0 _ (.inr (.inr (.inl rfl)))) (g (y := .none) (gq_i o1 g1) (g (y := .none) (gq_i o2 g2) (g (y := .none) ga (g (y := .none) g5 rfl))))) (by cases aim <;> exact Nat.le_of_ble_eq_true rfl) ?_ (Nat.le_of_ble_eq_true rfl) (by cases aim <;> exact Nat.le_of_ble_eq_true rfl)
    have : (aimD aim).bulk = 0 := by cases aim <;> rfl
    show 4 + 1 + (0 + 1 + (0 + 1 + ((aimD aim).bulk + 1 + ((PyData.str t).bulk + 1 + 0)))) ≤ 109
    omega
  | hear z a n t =>
    obtain ⟨g1, g2, g3, g4, g5⟩ := sm
    obtain ⟨o1, o2, o3⟩ := ok
    have := l g4
    refine mk _ (g (y := .none) (w0 _ (.inr (.inr (.inr (.inl rfl))))) (g (y := .none) (gq_i o1 g1) (g (y := .none) (gq_i o2 g2) (g (y := .none) (gq_i o3 g3) (g (y := .none) g5 rfl))))) (Nat.le_of_ble_eq_true rfl) ?_ (Nat.le_of_ble_eq_true rfl) (Nat.le_of_ble_eq_true rfl)
    show 4 + 1 + (0 + 1 + (0 + 1 + (0 + 1 + ((PyData.str t).bulk + 1 + 0)))) ≤ 109
    omega
  | lose a n => exact mk _ (g (y := .none) (w0 _ (.inr (.inr (.inr (.inr rfl))))) (g (y := .none) (gq_i ok.1 sm.1) (g (y := .none) (gq_i ok.2 sm.2) rfl))) (Nat.le_of_ble_eq_true rfl) (by show 4 + 1 + (0 + 1 + (0 + 1 + 0)) ≤ 109; decide) (Nat.le_of_ble_eq_true rfl) (Nat.le_of_ble_eq_true rfl)
theorem bulks_le {B : Nat} : ∀ {xs : List PyData}, (∀ x ∈ xs, x.bulk ≤ B) → PyData.bulkAll xs ≤ (B + 1) * xs.length
  | [], _ => Nat.zero_le _
  | x :: xs, h => by
    have h1 := h x List.mem_cons_self
    have h2 := bulks_le fun y hy => h y (List.mem_cons_of_mem _ hy)
    rw [List.length_cons, Nat.mul_succ, bulk_c]
    omega
theorem tup_gq {M N B W L : Nat} {ds : List PyData} (h : ∀ x ∈ ds, GQ M N B W x) (l : ds.length ≤ L) (lw : L ≤ W) : GQ M (N + 1) ((B + 1) * L) W (.tuple ds) := by
  refine ⟨gqs_all.mpr fun x hx => (h x hx).g, ?_, ?_, wid_t.mpr ⟨by omega, fun x hx => (h x hx).w⟩⟩
  · rw [depth_tup]
    have : PyData.depthAll ds ≤ N := depthAll_le.mpr fun x hx => (h x hx).n
    omega
  · rw [bulk_t]
    exact Nat.le_trans (bulks_le fun x hx => (h x hx).b) (Nat.mul_le_mul_left _ l)
theorem pr_gq {k : Int × Int} (h1 : 0 ≤ k.1) (h2 : k.1 ≤ 100) (h3 : 0 ≤ k.2) (h4 : k.2 ≤ 100) : GQ (10 ^ 29) 1 2 5 (prD k) := by
  refine ⟨?_, Nat.le_of_ble_eq_true rfl, Nat.le_of_ble_eq_true rfl, Nat.le_of_ble_eq_true rfl⟩
  show (gq _ (.int k.1) && (gq _ (.int k.2) && true)) = true
  rw [gq_i h1 h2, gq_i h3 h4]
  rfl
theorem paper_gq {rs : List Rw} {ws : List (Int × Int)} (okr : ∀ r ∈ rs, r.ok ∧ r.sm 100) (lr : rs.length ≤ 1000) (lw : ws.length ≤ 20) (hin : ∀ k ∈ ws, in5 k.1 ∧ 0 ≤ k.2 ∧ k.2 ≤ 100) : GQ (10 ^ 29) 3 110100 1000 (.tuple [.tuple (rs.map rwD), .tuple (ws.map prD)]) := by
  have g1 : GQ (10 ^ 29) 2 (110 * 1000) 1000 (.tuple (rs.map rwD)) := tup_gq (N := 1) (B := 109) (fun x hx => by
    obtain ⟨r, hr, rfl⟩ := List.mem_map.mp hx
    exact (row_gq (okr r hr).1 (okr r hr).2).mono (Nat.le_refl _) (Nat.le_refl _) (Nat.le_refl _) (by decide)) (by rw [List.length_map]; exact lr) (Nat.le_refl _)
  have g2 : GQ (10 ^ 29) 2 (3 * 20) 1000 (.tuple (ws.map prD)) := tup_gq (N := 1) (B := 2) (fun x hx => by
    obtain ⟨k, hk, rfl⟩ := List.mem_map.mp hx
    have h := hin k hk
    exact (pr_gq h.1.1 (by have := h.1.2; omega) h.2.1 h.2.2).mono (Nat.le_refl _) (Nat.le_refl _) (Nat.le_refl _) (by decide)) (by rw [List.length_map]; exact lw) (by decide)
  refine ⟨?_, ?_, ?_, ?_⟩
  · show (gq _ (.tuple (rs.map rwD)) && (gq _ (.tuple (ws.map prD)) && true)) = true
    rw [g1.g, g2.g]
    rfl
  · rw [depth_tup]
    have : PyData.depthAll [.tuple (rs.map rwD), .tuple (ws.map prD)] ≤ 2 := depthAll_le.mpr fun x hx => by
      simp only [List.mem_cons, List.not_mem_nil, or_false] at hx
      rcases hx with rfl | rfl
      · exact g1.n
      · exact g2.n
    omega
  · rw [bulk_t, bulk_c, bulk_c, bulk_n]
    have := g1.b
    have := g2.b
    omega
  · refine wid_t.mpr ⟨by show 2 ≤ 1000; decide, fun x hx => ?_⟩
    simp only [List.mem_cons, List.not_mem_nil, or_false] at hx
    rcases hx with rfl | rfl
    · exact g1.w
    · exact g2.w
section
variable {P : Program} {w : World} {K : PySem.W.Frag} {mg : Str → Option Value} {base : Heap}
theorem scTold : FnScope ["_law_kind", "_law_thing", "_law_due"] ["_law_kind", "_law_thing"] (defScope sTold) := ⟨rfl, rfl, rfl, by decide +kernel, rfl, by decide +kernel, by decide +kernel⟩
theorem ok_told {f : Addr} {fd : FuncData} (F : Fun K "_law_told_right" "_law_told_right" sTold f fd) (B : KB8 mg) (cJ : Cd P w K mg base 3 "_law_first" ["_law_kind", "_law_rows", "_law_waiting"] spFirstL)
    (cF : Cd P w K mg base 5 "first_wrong" ["kind", "paper"] spFirst) (cL : Cd P w K mg base 6 "is_plain" ["kind", "thing"] spPlain) : FnOk P w K mg base CX0 7 f fd ["_law_kind", "_law_thing"] spTold := by
  obtain ⟨fJ, fdJ, GJ, mJ, kJ, bJ⟩ := cJ
  obtain ⟨fF, fdF, GF, mF, kF, bF⟩ := cF
  obtain ⟨fL, fdL, GL, mL, kL, bL⟩ := cL
  refine F.ok scTold (fun vs H Q E h => ?_) (fun cdv A outer s H vs Q E hr h => ?_)
  · obtain ⟨κ, v, D, rfl, _⟩ := h
    rfl
  · obtain ⟨κ, v, D, rfl, hD, hw, k⟩ := h
    have hr3 : Room 3 _ := hr.mono (by decide)
    have hr5 : Room 5 _ := hr.mono (by decide)
    have hr6 : Room 6 _ := hr.mono (by decide)
    refine ⟨_, (pss_cons (ps_if (PW.pt (pw_or (pt_not (pt_val (pe_callB (isiK (K := K) rfl) (by rfl) B.isinstance (by decide +kernel) (pa_cons (pv 1) (pa_cons (pe_bltn (v := .ty "tuple") (by rfl) B.tuple PyProof.Rows.boot_tuple rfl) pa_nil))))) (pw_or (pt_cmpR op_ne (pe_callB (lenK (K := K) rfl) (by rfl) B.len PySem.boot_len (pa_cons (pv 1) pa_nil)) pe_int (nomark _)) (pw_or1 (pt_not (pt_val (pe_callB (isiK (K := K) rfl) (by rfl) B.isinstance (by decide +kernel) (pa_cons (pe_ix (ixT (K := K) rfl) (pv 1) pe_int (fun _ _ => rfl)) (pa_cons (pe_bltn (v := .ty "tuple") (by rfl) B.tuple PyProof.Rows.boot_tuple rfl) pa_nil)))))))))
       (pss_one (ps_ret (pe_cmpR op_eq (pe_callB call_reprS (by rfl) B.repr (by decide +kernel) (pa_cons (pe_call GL hr6 rfl mL kL bL .nil pass0 (pa_cons (pv 0) (pa_cons (pv 1) pa_nil))) pa_nil)) pe_str (nomark _))))
       pss_nil)
       (pss_cons (ps_set (i := 2) scTold.nd rfl (Or.inl rfl) (pe_call GJ hr3 rfl mJ kJ bJ .nil pass0 (pa_cons (pv 0) (pa_cons (pe_ix (ixT (K := K) rfl) (pv 1) pe_int (fun _ _ => rfl)) (pa_cons (pe_ix (ixT (K := K) rfl) (pv 1) pe_int (fun _ _ => rfl)) pa_nil)))))
       (pss_one (ps_ret (pe_and (pe_cmpR op_eq (pe_callB call_reprS (by rfl) B.repr (by decide +kernel) (pa_cons (pe_call GL hr6 rfl mL kL bL .nil pass0 (pa_cons (pv 0) (pa_cons (pv 1) pa_nil))) pa_nil)) (pe_callB call_reprS (by rfl) B.repr (by decide +kernel) (pa_cons (pe_cmp (pc_isN (pv 2)) rfl) pa_nil)) (nomark _)) (pe_one (pe_cmpR op_eq (pe_callB call_reprS (by rfl) B.repr (by decide +kernel) (pa_cons (pe_call GF hr5 rfl mF kF bF .nil pass0 (pa_cons (pv 0) (pa_cons (pv 1) pa_nil))) pa_nil)) (pe_callB call_reprS (by rfl) B.repr (by decide +kernel) (pa_cons (pv 2) pa_nil)) (nomark _)))))))), ?_⟩
    have sh : ∀ ds wd, D = .tuple [.tuple ds, wd] → ds.length ≤ 40000 ∧ ∀ es, wd = .tuple es → es.length ≤ 100000 := fun ds wd e => by
      subst e
      have h := wid_t.mp hw
      refine ⟨(wid_t.mp (h.2 (.tuple ds) (by simp))).1, fun es e2 => ?_⟩
      subst e2
      have := (wid_t.mp (h.2 (.tuple es) (by simp))).1
      omega
    refine seq_or (fun H' => Same H H' ∧ plainD κ D = false) ?stop (fun stop => ?_)
    case stop =>
      rintro H1 ⟨s1, e1⟩
      refine ⟨_, rfl, _, rfl, κ, v, D, rfl, hD.sm s1, sh, fun H2 s2 => ?_⟩
      rw [e1]
      exact ⟨_, rfl, trivial, rfl, k _ (s1.trans s2)⟩
    refine ⟨_, rfl, _, _, _, _, _, rfl, .ty _, hD.ty, kit_tuple D, _, rfl, iteNP (fun c => stop _ ⟨L2.Same.refl _, ?_⟩) (fun c => ?_)⟩
    · cases hD <;> first | rfl | exact absurd rfl c
    obtain ⟨es, rfl⟩ : ∃ es, D = .tuple es := by
      cases hD with
      | tup h1 h2 => exact ⟨_, rfl⟩
      | _ => simp [tyN] at c
    obtain ⟨a, xs, rfl, ha, hx⟩ := hD.inv_tup
    have lx := hx.len
    refine ⟨_, rfl, _, xs.length, rfl, .inr ⟨_, SqT.of ha, rfl⟩, rfl, _, rfl, iteNI (fun c2 => stop _ ⟨L2.Same.refl _, ?_⟩) (fun c2 => ?_)⟩
    · unfold plainD
      split
      · rename_i h
        cases h
        rw [lx] at c2
        exact absurd rfl c2
      · rfl
    obtain ⟨d1, d2, rfl⟩ := len2 (show es.length = 2 by omega)
    obtain ⟨v1, r1, rfl, q1, hr1⟩ := hx.inv_cons
    obtain ⟨v2, r2, rfl, q2, hr2'⟩ := hr1.inv_cons
    have := hr2'.inv_nil
    subst this
    refine ⟨_, rfl, a, _, 0, _, rfl, rfl, SqT.of ha, atI_nat (j := 0) rfl, _, _, _, _, _, rfl, .ty _, q1.ty, kit_tuple d1, _, rfl, iteNP (fun c3 => stop _ ⟨L2.Same.refl _, ?_⟩) (fun c3 => ?_)⟩
    · cases q1 <;> first | rfl | exact absurd rfl c3
    clear stop
    obtain ⟨ds, rfl⟩ : ∃ ds, d1 = .tuple ds := by
      cases q1 with
      | tup h1 h2 => exact ⟨_, rfl⟩
      | _ => simp [tyN] at c3
    obtain ⟨ra, ys, rfl, hra, hy⟩ := q1.inv_tup
    obtain ⟨l1, l2⟩ := sh ds d2 rfl
    have hwd := wid_t.mp hw
    have l3 : ∀ es, d2 = .tuple es → es.length ≤ 90000 := fun es e2 => by
      subst e2
      have := (wid_t.mp (hwd.2 (.tuple es) (by simp))).1
      omega
    dsimp only [tNext]
    refine ⟨_, rfl, _, rfl, a, _, 0, _, rfl, rfl, SqT.of ha, atI_nat (j := 0) rfl, _, rfl, a, _, 1, _, rfl, rfl, SqT.of ha, atI_nat (j := 1) rfl, ?_⟩
    refine ⟨κ, ra, ys, v2, ds, d2, rfl, hra, hy, q2, by omega, l3, fun H1 s1 => ?_⟩
    have hD := Dq.tup ha (.cons (.tup hra hy) (.cons q2 .nil))
    have fR : flatR (natV (firstD κ ds d2)) := by
      cases ef : firstD κ ds d2 with
      | none => trivial
      | some m =>
        have := firstD_le ef
        show (m : Int).natAbs < 2 ^ 64
        omega
    refine ⟨_, rfl, _, rfl, κ, _, _, rfl, hD.sm s1, sh, fun H2 s2 => ?_⟩
    have ep : plainD κ (.tuple [.tuple ds, d2]) = decide (natV (firstD κ ds d2) = .non) := by
      show (firstD κ ds d2).isNone = _
      cases firstD κ ds d2 with
      | none => rfl
      | some m => exact (decide_eq_false (fun z => by cases z)).symm
    rw [ep]
    have s02 := s1.trans s2
    refine ⟨_, rfl, trivial, _, rfl, _, rfl, trivial, rfl, _, rfl, iteS (fun _ => ?_) fun z => absurd rfl z⟩
    refine ⟨_, rfl, _, rfl, κ, _, ds, d2, rfl, hD.sm s02, l1, (fun es e => Nat.le_trans (l3 es e) (by decide)), fun H3 s3 => ?_⟩
    refine ⟨_, rfl, fR, _, rfl, _, rfl, fR, rfl, ?_⟩
    rw [decide_eq_true rfl]
    exact k _ (s02.trans s3)
theorem scLaw : FnScope ["_law_script", "_law_deck_here", "_law_turn", "_law_kind", "_law_thing", "_law_bends", "_law_one_here", "_law_kept", "_law_again"] ["_law_script"] (defScope sLaw) := ⟨rfl, rfl, rfl, by decide +kernel, rfl, by decide +kernel, by decide +kernel⟩
theorem ok_law {f : Addr} {fd : FuncData} (F : Fun K "law" "law" sLaw f fd) (B : KB8 mg) (cD : Cd P w K mg base 1 "_law_deck" ["_law_script"] (spDeck4 K)) (cN : Cd P w K mg base 2 "_law_next" ["_law_deck_here", "_law_many"] spNext4)
    (cP : Cd P w K mg base 5 "_law_paper" ["_law_deck_here", "_law_kind", "_law_spoil"] spPaper) (cO : Cd P w K mg base 3 "_law_odd" ["_law_deck_here"] spOddL) (cS : Cd P w K mg base 8 "_law_spoilt" ["_law_deck_here", "_law_thing", "_law_deep"] (spSpoilt 4))
    (cT : Cd P w K mg base 7 "_law_told_right" ["_law_kind", "_law_thing"] spTold) : LawOk P w K mg base f fd ["_law_script"] (spLaw K) := by
  obtain ⟨fD, fdD, GD, mD, kD, bD⟩ := cD.tk
  obtain ⟨fN, fdN, GN, mN, kN, bN⟩ := cN.tk
  obtain ⟨fP, fdP, GP, mP, kP, bP⟩ := cP.tk
  obtain ⟨fO, fdO, GO, mO, kO, bO⟩ := cO
  obtain ⟨fS, fdS, GS, mS, kS, bS⟩ := cS
  obtain ⟨fT, fdT, GT, mT, kT, bT⟩ := cT
  refine law_ok (k := 8) F scLaw (fun vs H Q E h => ?_) ⟨rfl, by decide, by decide⟩ (fun cdv A s H vs Q hA hr h => ?_)
  · obtain ⟨a, ns, rfl, _⟩ := h
    rfl
  · obtain ⟨a, ns, rfl, hS, hl, k⟩ := h
    subst hA
    have hr1 : Room 1 _ := hr.mono (by decide)
    have hr2 : Room 2 _ := hr.mono (by decide)
    have hr3 : Room 3 _ := hr.mono (by decide)
    have hr5 : Room 5 _ := hr.mono (by decide)
    have hr7 : Room 7 _ := hr.mono (by decide)
    have hr8 : Room 8 _ := hr
    refine ⟨_, (pss_cons (ps_set (i := 1) scLaw.nd rfl (Or.inl rfl) (pe_call GD hr1 rfl mD kD bD .nil pass0 (pa_cons (pv 0) pa_nil)))
       (pss_cons (ps_for PassesOwn.never rfl (pi_range1 rfl B.range (pa_cons pe_int pa_nil)) (pg_name (i := 2) scLaw.nd rfl (Or.inl rfl))
       (pss_cons (ps_set (i := 3) scLaw.nd rfl (Or.inl rfl) (pe_ix (ixL (K := K) rfl) (pe_lst (pa_cons pe_str (pa_cons pe_str (pa_cons pe_str pa_nil)))) (pe_call GN hr2 rfl mN kN bN .nil pass0 (pa_cons (pv 1) (pa_cons pe_int pa_nil))) (fun _ _ => rfl)))
       (pss_cons (ps_set (i := 4) scLaw.nd rfl (Or.inl rfl) (pe_call GP hr5 rfl mP kP bP .nil pass0 (pa_cons (pv 1) (pa_cons (pv 3) (pa_cons pe_bl pa_nil)))))
       (pss_cons (ps_for PassesOwn.never rfl (pi_range1 rfl B.range (pa_cons (pe_call GN hr2 rfl mN kN bN .nil pass0 (pa_cons (pv 1) (pa_cons pe_int pa_nil))) pa_nil)) (pg_name (i := 5) scLaw.nd rfl (Or.inl rfl))
       (pss_one (ps_set (i := 4) scLaw.nd rfl (Or.inl rfl) (pe_call GS hr8 rfl mS kS bS .nil pass0 (pa_cons (pv 1) (pa_cons (pv 4) (pa_cons pe_int pa_nil)))))))
       (pss_one (ps_for PassesOwn.never rfl (pi_list (pe_lst (pa_cons (pv 4) (pa_cons (pe_call GO hr3 rfl mO kO bO .nil pass0 (pa_cons (pv 1) pa_nil)) pa_nil)))) (pg_name (i := 6) scLaw.nd rfl (Or.inl rfl))
       (pss_cons (ps_set (i := 7) scLaw.nd rfl (Or.inl rfl) (pe_callB (call_reprQ rfl hr.units) (by rfl) B.repr (by decide +kernel) (pa_cons (pv 6) pa_nil)))
       (pss_one (ps_for PassesOwn.never rfl (pi_range1 rfl B.range (pa_cons pe_int pa_nil)) (pg_name (i := 8) scLaw.nd rfl (Or.inl rfl))
       (pss_one (ps_if (PW.pt (pw_or (pt_not (pt_val (pe_call GT hr7 rfl mT kT bT .nil pass0 (pa_cons (pv 3) (pa_cons (pv 6) pa_nil))))) (pw_or1 (pt_cmpR op_ne (pe_callB (call_reprQ rfl hr.units) (by rfl) B.repr (by decide +kernel) (pa_cons (pv 6) pa_nil)) (pv 7) (nomark _)))))
       (pss_one (ps_ret pe_bl))
       pss_nil)))))))))))
       (pss_one (ps_ret pe_bl)))), ?_⟩
    refine ⟨_, rfl, a, ns, rfl, hS, hl, fun H1 d cs nd ncs s1 D1 t1 => ?_⟩
    refine ⟨8, rfl, by decide, by decide, ?_⟩
    refine for_range (lo := 0) (fun i σ H' => ∃ (v2 v3 v4 v5 v6 v7 v8 : Option V), σ = [some (.ref a), some (.ref d), v2, v3, v4, v5, v6, v7, v8] ∧ Deck4 H' d cs (5000 * i)) ⟨_, _, _, _, _, _, _, rfl, D1.mono (by omega)⟩ ?_ ?_
    · rintro i σ H2 hi ⟨v2, v3, v4, v5, v6, v7, v8, rfl, D2⟩
      have hi : i < 8 := hi
      refine ⟨(by show 3 ≤ sizeLine; decide), fun l3 n_l3 => ?_⟩
      obtain ⟨H3, e_H3, s3, r3⟩ := new_any n_l3
      rw [← e_H3]
      clear e_H3
      have D3 := D2.same s3
      have n3d : l3 ≠ d := (D2.new n_l3).1
      refine ⟨_, rfl, d, cs, 3, _, rfl, by decide, by decide, by omega, D3, fun c4 H4 c40 c41 k4 D4 t4 => ?_⟩
      obtain ⟨κ, hat⟩ : ∃ κ : JK, atI [V.str "loose", .str "once", .str "row"] c4 = some (.str (jkS κ)) := by
        have h : c4 = 0 ∨ c4 = 1 ∨ c4 = 2 := by omega
        rcases h with rfl | rfl | rfl
        · exact ⟨.lo, rfl⟩
        · exact ⟨.on, rfl⟩
        · exact ⟨.tu, rfl⟩
      refine ⟨l3, _, c4, _, rfl, rfl, SqL.of (k4 _ _ (nin1 n3d) r3), hat, ?_⟩
      refine ⟨_, rfl, _, rfl, d, cs, _, κ, false, rfl, D4, by omega, fun H6 p ra wa xs ys rs ws k6 D6 hp hra dx hwa dy okr _ lr lw up hin t6 => ?_⟩
      have GP := paper_gq okr lr lw hin
      have QP : Dq (hid d H6) (.ref p) (.tuple [.tuple (rs.map rwD), .tuple (ws.map prD)]) := by
        obtain ⟨zs, hz⟩ := D6.l1
        refine dq_hid hz ?_ (.tup hp (.cons (.tup hra dx) (.cons (.tup hwa dy) .nil)))
        show (noLs (rs.map rwD) && (noLs (ws.map prD) && true)) = true
        rw [noLs_all (fun x hx => by obtain ⟨r, _, rfl⟩ := List.mem_map.mp hx; exact rw_noL r), noLs_all (fun x hx => by obtain ⟨r, _, rfl⟩ := List.mem_map.mp hx; rfl)]
        rfl
      generalize PyData.tuple [.tuple (rs.map rwD), .tuple (ws.map prD)] = DP at GP QP
      clear hp hra dx hwa dy okr lr lw up hin t6 k6 k4 r3
      refine ⟨_, rfl, d, cs, 3, _, rfl, by decide, by decide, by omega, D6, fun c7 H7 c70 c71 k7 D7 t7 => ?_⟩
      refine ⟨_, rfl, by omega, by omega, ?_⟩
      refine for_range (lo := 0) (fun j σ H' => ∃ (v5 : Option V) (v : V) (D : PyData), σ = [some (.ref a), some (.ref d), some (.int (0 + (i : Int))), some (.str (jkS κ)), some v, v5, v6, v7, v8] ∧ Deck4 H' d cs (5000 * i + 2100 + 60 * j) ∧ Dq (hid d H') v D ∧ GQ (10 ^ 29 + j) (3 + 3 * j) (110120 * 2 ^ j - 20) (1000 + j) D)
        ⟨_, _, DP, rfl, D7.mono (by omega), QP.sm (hid_kp k7), GP.mono (by omega) (by omega) (by decide) (by omega)⟩ ?_ ?_
      · rintro j σ H8 hj ⟨v5, v, D, rfl, D8, Qd, Gd⟩
        have hj : j < 2 := by omega
        have pj : 2 ^ j ≤ 2 := by
          have h : j = 0 ∨ j = 1 := by omega
          rcases h with rfl | rfl <;> decide
        have bD := Gd.b
        refine ⟨_, rfl, _, rfl, d, cs, _, v, D, 10 ^ 29 + j, 1000 + j, rfl, D8, by omega, Qd, Gd.g, by omega, by omega, Gd.w, by omega, fun H9 v' D' k9 D9 q9 g9 => ?_⟩
        refine ⟨_, v', D', rfl, D9.mono (by omega), q9, g9.mono (by omega) (by have := Gd.n; omega) ?_ (by omega)⟩
        rw [Nat.pow_succ]
        have : 1 ≤ 2 ^ j := Nat.one_le_two_pow
        omega
      rintro σ H8 ⟨v5, v, D, rfl, D8, Qd, Gd⟩
      have hc7 : c7.toNat ≤ 2 := by omega
      have hc7' : ((c7.toNat : Nat) : Int) ≤ 2 := by omega
      have p7 : 2 ^ c7.toNat ≤ 4 := by
        have h : c7.toNat = 0 ∨ c7.toNat = 1 ∨ c7.toNat = 2 := by omega
        rcases h with h | h | h <;> rw [h] <;> decide
      have D8 := D8.mono (m := 5000 * i + 2300) (by omega)
      have Gd : GQ (10 ^ 29 + 2) 9 440460 1002 D := Gd.mono (by omega) (by omega) (by omega) (by omega)
      refine ⟨_, rfl, _, rfl, d, cs, _, rfl, D8, by omega, fun H9 vo Do k9 D9 qo go => ?_⟩
      have go : GQ (10 ^ 29 + 2) 9 440460 1002 Do := go.mono (by omega) (by decide) (by decide) (by decide)
      refine ⟨(by show 2 ≤ sizeLine; decide), fun l10 n_l10 => ?_⟩
      obtain ⟨H10, e_H10, s10, r10⟩ := new_any n_l10
      rw [← e_H10]
      clear e_H10
      have QD : Dq H10 v D := ((Qd.sm (hid_kp k9)).sm (hid_same s10)).of_hid
      have QO : Dq H10 vo Do := (qo.sm (hid_same s10)).of_hid
      refine ⟨l10, rfl, ⟨_, SqL.of r10⟩, ?_⟩
      refine for_list (K := K) (a := l10) (xs := [v, vo]) (fun j σ H' => ∃ (v6 v7 v8 : Option V), σ = [some (.ref a), some (.ref d), some (.int (0 + (i : Int))), some (.str (jkS κ)), some v, v5, v6, v7, v8] ∧ Same H10 H')
        ⟨_, _, _, rfl, L2.Same.refl _⟩ (fun j σ H' _ z => SqL.of (z.choose_spec.choose_spec.choose_spec.2 _ _ r10)) ?_ ?_
      · rintro j x σ H11 ex ⟨v6, v7, v8, rfl, s11⟩
        obtain ⟨E, QE, GE⟩ : ∃ E, Dq H10 x E ∧ GQ (10 ^ 29 + 2) 9 440460 1002 E := by
          have j4 : j < 2 := (List.getElem?_eq_some_iff.mp ex).1
          have h : j = 0 ∨ j = 1 := by omega
          rcases h with rfl | rfl <;> cases ex
          · exact ⟨D, QD, Gd⟩
          · exact ⟨Do, QO, go⟩
        obtain ⟨e1, e2, e3, e4⟩ := GE.rep (by decide) (by decide) (by decide)
        refine ⟨_, rfl, x, E, rfl, QE.sm s11, e1, e2, e3, e4, ?_⟩
        refine ⟨2, rfl, by decide, by decide, ?_⟩
        refine for_range (lo := 0) (fun l σ H' => ∃ (v8 : Option V), σ = [some (.ref a), some (.ref d), some (.int (0 + (i : Int))), some (.str (jkS κ)), some v, v5, some x, some (.str E.shown), v8] ∧ Same H10 H') ⟨_, rfl, s11⟩ ?_ ?_
        · rintro l σ H12 hl ⟨v8, rfl, s12⟩
          refine ⟨_, rfl, _, rfl, κ, x, E, rfl, QE.sm s12, Nat.le_trans GE.w (by decide), fun H13 s13 => ?_⟩
          have s013 := s12.trans s13
          refine ⟨_, rfl, iteF ⟨_, rfl, x, E, rfl, QE.sm s013, e1, e2, e3, e4, ?_⟩⟩
          exact ⟨_, rfl, rfl, _, rfl, iteNS' (fun z => absurd rfl z) fun _ => ⟨_, rfl, s013⟩⟩
        · rintro σ H12 ⟨v8, rfl, s12⟩
          exact ⟨_, _, _, rfl, s12⟩
      · rintro σ H11 ⟨v6, v7, v8, rfl, s11⟩
        exact ⟨_, _, _, _, _, _, _, rfl, ((D9.same s10).same s11).mono (by omega)⟩
    · rintro σ H2 ⟨v2, v3, v4, v5, v6, v7, v8, rfl, D2⟩
      exact k H2
end
end Wn

namespace Wn
open PySem L2
/-! ### the tables of plain.py, from what the head tells -/
theorem nsIn_dk {K : PySem.W.Frag} {a : Addr} {c : Value} {od : Option Addr} {es : List DictEntry} {n : Nat} {sl : Array (Option Value)} (h : K.lookup a = some ⟨c, od, .dict es.toArray n, sl⟩) (z : Str) :
    PySem.W.nsIn K a z = match es.find? (·.key.isStr z) with
      | some e => some (some e.val)
      | none => if es.any (·.refKey) then none else some none := by
  unfold PySem.W.nsIn
  rw [h]
  rfl
theorem find_cons {x z : Str} {t : Tok} {hh : Int} {v : Value} {es : List DictEntry} : List.find? (fun e : DictEntry => e.key.isStr z) (⟨hh, .str x t, v⟩ :: es) = if z = x then some ⟨hh, .str x t, v⟩ else es.find? (fun e : DictEntry => e.key.isStr z) := by
  rw [List.find?_cons]
  by_cases h : z = x
  · rw [if_pos h]
    have : (DictEntry.key ⟨hh, .str x t, v⟩).isStr z = true := by
      show (x == z) = true
      rw [h]
      exact beq_self_eq_true x
    rw [this]
  · rw [if_neg h]
    have : (DictEntry.key ⟨hh, .str x t, v⟩).isStr z = false := by
      show (x == z) = false
      exact beq_eq_false_iff_ne.mpr fun q => h q.symm
    rw [this]
def t5 (a b c d e : Addr) (z : Str) : Addr := if z = ("come" : Str) then a else if z = ("go" : Str) then b else if z = ("send" : Str) then c else if z = ("hear" : Str) then d else e
def lkF (a b c d : Addr) : Lk → Addr
  | .cnt => a
  | .srt => b
  | .aim => c
  | .wrd => d
section
variable {K : PySem.W.Frag} {w : World} {mg : Str → Option Value} {h1 h2 h3 h4 h5 : Int} {t1 t2 t3 t4 t5' : Tok} {A a b c d e : Addr} {n : Nat}
theorem look5 (lk : K.lookup A = some ⟨.type "dict", none, .dict #[⟨h1, .str "come" t1, .ref a⟩, ⟨h2, .str "go" t2, .ref b⟩, ⟨h3, .str "send" t3, .ref c⟩, ⟨h4, .str "hear" t4, .ref d⟩, ⟨h5, .str "lose" t5', .ref e⟩] n, #[]⟩) (z : Str) :
    PySem.W.nsIn K A z = some ((looksOf z).map fun _ => Value.ref (t5 a b c d e z)) := by
  rw [nsIn_dk (es := [⟨h1, .str "come" t1, .ref a⟩, ⟨h2, .str "go" t2, .ref b⟩, ⟨h3, .str "send" t3, .ref c⟩, ⟨h4, .str "hear" t4, .ref d⟩, ⟨h5, .str "lose" t5', .ref e⟩]) lk]
  rw [find_cons, find_cons, find_cons, find_cons, find_cons]
  unfold looksOf t5
  by_cases c1 : z = ("come" : Str)
  · simp only [if_pos c1]; rfl
  by_cases c2 : z = ("go" : Str)
  · simp only [if_neg c1, if_pos c2]; rfl
  by_cases c3 : z = ("send" : Str)
  · simp only [if_neg c1, if_neg c2, if_pos c3]; rfl
  by_cases c4 : z = ("hear" : Str)
  · simp only [if_neg c1, if_neg c2, if_neg c3, if_pos c4]; rfl
  by_cases c5 : z = ("lose" : Str)
  · simp only [if_neg c1, if_neg c2, if_neg c3, if_neg c4, if_pos c5]; rfl
  simp only [if_neg c1, if_neg c2, if_neg c3, if_neg c4, if_neg c5]
  rfl
theorem kd5 (lk : K.lookup A = some ⟨.type "dict", none, .dict #[⟨h1, .str "come" t1, .ref a⟩, ⟨h2, .str "go" t2, .ref b⟩, ⟨h3, .str "send" t3, .ref c⟩, ⟨h4, .str "hear" t4, .ref d⟩, ⟨h5, .str "lose" t5', .ref e⟩] n, #[]⟩) (lo : (A == sysModules) = false)
    (e1 : h1 = PyData.keyHash w.params "come") (e2 : h2 = PyData.keyHash w.params "go") (e3 : h3 = PyData.keyHash w.params "send") (e4 : h4 = PyData.keyHash w.params "hear") (e5 : h5 = PyData.keyHash w.params "lose") :
    KDict K w A #[⟨h1, .str "come" t1, .ref a⟩, ⟨h2, .str "go" t2, .ref b⟩, ⟨h3, .str "send" t3, .ref c⟩, ⟨h4, .str "hear" t4, .ref d⟩, ⟨h5, .str "lose" t5', .ref e⟩] n :=
  ⟨lk, ⟨⟨_, _, rfl, e1⟩, ⟨_, _, rfl, e2⟩, ⟨_, _, rfl, e3⟩, ⟨_, _, rfl, e4⟩, ⟨_, _, rfl, e5⟩, trivial⟩, lo⟩
theorem forms5 {f1 f2 f3 f4 : Addr} (H1 : ∀ H, SqT K H a [.ref f1, .ref f2]) (H2 : ∀ H, SqT K H b [.ref f1]) (H3 : ∀ H, SqT K H c [.ref f1, .ref f1, .ref f3, .ref f4]) (H4 : ∀ H, SqT K H d [.ref f1, .ref f1, .ref f1, .ref f4]) (H5 : ∀ H, SqT K H e [.ref f1, .ref f1]) :
    ∀ z ls, looksOf z = some ls → ∀ H, SqT K H (t5 a b c d e z) (ls.map fun l => V.ref (lkF f1 f2 f3 f4 l)) := by
  intro z ls h H
  unfold looksOf at h
  unfold t5
  by_cases c1 : z = ("come" : Str)
  · rw [if_pos c1] at h ⊢; cases h; exact H1 H
  rw [if_neg c1] at h ⊢
  by_cases c2 : z = ("go" : Str)
  · rw [if_pos c2] at h ⊢; cases h; exact H2 H
  rw [if_neg c2] at h ⊢
  by_cases c3 : z = ("send" : Str)
  · rw [if_pos c3] at h ⊢; cases h; exact H3 H
  rw [if_neg c3] at h ⊢
  by_cases c4 : z = ("hear" : Str)
  · rw [if_pos c4] at h ⊢; cases h; exact H4 H
  rw [if_neg c4] at h ⊢
  by_cases c5 : z = ("lose" : Str)
  · rw [if_pos c5] at h; cases h; exact H5 H
  · rw [if_neg c5] at h; cases h
theorem takes5 (lk : K.lookup A = some ⟨.type "dict", none, .dict #[⟨h1, .str "come" t1, .ref a⟩, ⟨h2, .str "go" t2, .ref b⟩, ⟨h3, .str "send" t3, .ref c⟩, ⟨h4, .str "hear" t4, .ref d⟩, ⟨h5, .str "lose" t5', .ref e⟩] n, #[]⟩) (r : Rw) :
    PySem.W.nsIn K A (rwW r) = some (some (.ref (t5 a b c d e (rwW r)))) := by
  rw [look5 lk]
  cases r <;> rfl
end
end Wn

set_option maxHeartbeats 4000000
namespace Wn
open PySem L2
theorem all_mk {l : PySem.W.OpenLaw} {w : World} {K : PySem.W.Frag} {h : Heap} {mg : Str → Option Value} {fa A_SORTS C_Post f_Post_init f_Post_is_done C_Judge f_Judge_init f_Judge_is_in_turn f_Judge_come f_Judge_go f_Judge_due_of f_Judge_send f_Judge_is_for f_Judge_hear f_Judge_lose f_Judge_is_right_end C_JudgeOnce f_JudgeOnce_is_in_turn C_JudgeTurn f_JudgeTurn_init f_JudgeTurn_is_in_turn f_is_whole f_is_count f_is_sort f_is_aim f_is_words f_is_form f_take_come f_take_go f_take_send f_take_hear f_take_lose f_judge_of f_is_pair f_is_rising f_first_wrong f_law_mixed f_law_deck f_law_next f_law_one f_law_sent_right f_law_heard_right f_law_row_right f_law_end_right f_law_next_row f_law_paper f_is_plain f_law_odd f_law_spoilt f_law_number f_law_form f_law_open f_law_first f_law_told_right f_law A_FORMS A_TAKES T_come T_go T_send T_hear T_lose : Addr} (X : K.In h) (G : h.Ns mainGlobals mg) (hfa : mg "law" = some (.ref fa))
    {dd_SORTS od_Post_init an_Post_init od_Post_is_done an_Post_is_done od_Judge_init an_Judge_init od_Judge_is_in_turn an_Judge_is_in_turn od_Judge_come an_Judge_come od_Judge_go an_Judge_go od_Judge_due_of an_Judge_due_of od_Judge_send an_Judge_send od_Judge_is_for an_Judge_is_for od_Judge_hear an_Judge_hear od_Judge_lose an_Judge_lose od_Judge_is_right_end an_Judge_is_right_end od_JudgeOnce_is_in_turn an_JudgeOnce_is_in_turn od_JudgeTurn_init an_JudgeTurn_init od_JudgeTurn_is_in_turn an_JudgeTurn_is_in_turn od_is_whole an_is_whole od_is_count an_is_count od_is_sort an_is_sort od_is_aim an_is_aim od_is_words an_is_words od_is_form an_is_form od_take_come an_take_come od_take_go an_take_go od_take_send an_take_send od_take_hear an_take_hear od_take_lose an_take_lose od_judge_of an_judge_of od_is_pair an_is_pair od_is_rising an_is_rising od_first_wrong an_first_wrong od_law_mixed an_law_mixed od_law_deck an_law_deck od_law_next an_law_next od_law_one an_law_one od_law_sent_right an_law_sent_right od_law_heard_right an_law_heard_right od_law_row_right an_law_row_right od_law_end_right an_law_end_right od_law_next_row an_law_next_row od_law_paper an_law_paper od_is_plain an_is_plain od_law_odd an_law_odd od_law_spoilt an_law_spoilt od_law_number an_law_number od_law_form an_law_form od_law_open an_law_open od_law_first an_law_first od_law_told_right an_law_told_right od_law an_law : Option Addr} {sl_SORTS sl_Post_init sl_Post_is_done sl_Judge_init sl_Judge_is_in_turn sl_Judge_come sl_Judge_go sl_Judge_due_of sl_Judge_send sl_Judge_is_for sl_Judge_hear sl_Judge_lose sl_Judge_is_right_end sl_JudgeOnce_is_in_turn sl_JudgeTurn_init sl_JudgeTurn_is_in_turn sl_is_whole sl_is_count sl_is_sort sl_is_aim sl_is_words sl_is_form sl_take_come sl_take_go sl_take_send sl_take_hear sl_take_lose sl_judge_of sl_is_pair sl_is_rising sl_first_wrong sl_law_mixed sl_law_deck sl_law_next sl_law_one sl_law_sent_right sl_law_heard_right sl_law_row_right sl_law_end_right sl_law_next_row sl_law_paper sl_is_plain sl_law_odd sl_law_spoilt sl_law_number sl_law_form sl_law_open sl_law_first sl_law_told_right sl_law : Array (Option Value)} {oc_Post_init kV_Post_init dc_Post_init pm_Post_init cd_Post_init ct_Post_init oc_Post_is_done kV_Post_is_done dc_Post_is_done pm_Post_is_done cd_Post_is_done ct_Post_is_done oc_Judge_init kV_Judge_init dc_Judge_init pm_Judge_init cd_Judge_init ct_Judge_init oc_Judge_is_in_turn kV_Judge_is_in_turn dc_Judge_is_in_turn pm_Judge_is_in_turn cd_Judge_is_in_turn ct_Judge_is_in_turn oc_Judge_come kV_Judge_come dc_Judge_come pm_Judge_come cd_Judge_come ct_Judge_come oc_Judge_go kV_Judge_go dc_Judge_go pm_Judge_go cd_Judge_go ct_Judge_go oc_Judge_due_of kV_Judge_due_of dc_Judge_due_of pm_Judge_due_of cd_Judge_due_of ct_Judge_due_of oc_Judge_send kV_Judge_send dc_Judge_send pm_Judge_send cd_Judge_send ct_Judge_send oc_Judge_is_for kV_Judge_is_for dc_Judge_is_for pm_Judge_is_for cd_Judge_is_for ct_Judge_is_for oc_Judge_hear kV_Judge_hear dc_Judge_hear pm_Judge_hear cd_Judge_hear ct_Judge_hear oc_Judge_lose kV_Judge_lose dc_Judge_lose pm_Judge_lose cd_Judge_lose ct_Judge_lose oc_Judge_is_right_end kV_Judge_is_right_end dc_Judge_is_right_end pm_Judge_is_right_end cd_Judge_is_right_end ct_Judge_is_right_end oc_JudgeOnce_is_in_turn kV_JudgeOnce_is_in_turn dc_JudgeOnce_is_in_turn pm_JudgeOnce_is_in_turn cd_JudgeOnce_is_in_turn ct_JudgeOnce_is_in_turn oc_JudgeTurn_init kV_JudgeTurn_init dc_JudgeTurn_init pm_JudgeTurn_init cd_JudgeTurn_init ct_JudgeTurn_init oc_JudgeTurn_is_in_turn kV_JudgeTurn_is_in_turn dc_JudgeTurn_is_in_turn pm_JudgeTurn_is_in_turn cd_JudgeTurn_is_in_turn ct_JudgeTurn_is_in_turn oc_is_whole kV_is_whole dc_is_whole pm_is_whole cd_is_whole ct_is_whole oc_is_count kV_is_count dc_is_count pm_is_count cd_is_count ct_is_count oc_is_sort kV_is_sort dc_is_sort pm_is_sort cd_is_sort ct_is_sort oc_is_aim kV_is_aim dc_is_aim pm_is_aim cd_is_aim ct_is_aim oc_is_words kV_is_words dc_is_words pm_is_words cd_is_words ct_is_words oc_is_form kV_is_form dc_is_form pm_is_form cd_is_form ct_is_form oc_take_come kV_take_come dc_take_come pm_take_come cd_take_come ct_take_come oc_take_go kV_take_go dc_take_go pm_take_go cd_take_go ct_take_go oc_take_send kV_take_send dc_take_send pm_take_send cd_take_send ct_take_send oc_take_hear kV_take_hear dc_take_hear pm_take_hear cd_take_hear ct_take_hear oc_take_lose kV_take_lose dc_take_lose pm_take_lose cd_take_lose ct_take_lose oc_judge_of kV_judge_of dc_judge_of pm_judge_of cd_judge_of ct_judge_of oc_is_pair kV_is_pair dc_is_pair pm_is_pair cd_is_pair ct_is_pair oc_is_rising kV_is_rising dc_is_rising pm_is_rising cd_is_rising ct_is_rising oc_first_wrong kV_first_wrong dc_first_wrong pm_first_wrong cd_first_wrong ct_first_wrong oc_law_mixed kV_law_mixed dc_law_mixed pm_law_mixed cd_law_mixed ct_law_mixed oc_law_deck kV_law_deck dc_law_deck pm_law_deck cd_law_deck ct_law_deck oc_law_next kV_law_next dc_law_next pm_law_next cd_law_next ct_law_next oc_law_one kV_law_one dc_law_one pm_law_one cd_law_one ct_law_one oc_law_sent_right kV_law_sent_right dc_law_sent_right pm_law_sent_right cd_law_sent_right ct_law_sent_right oc_law_heard_right kV_law_heard_right dc_law_heard_right pm_law_heard_right cd_law_heard_right ct_law_heard_right oc_law_row_right kV_law_row_right dc_law_row_right pm_law_row_right cd_law_row_right ct_law_row_right oc_law_end_right kV_law_end_right dc_law_end_right pm_law_end_right cd_law_end_right ct_law_end_right oc_law_next_row kV_law_next_row dc_law_next_row pm_law_next_row cd_law_next_row ct_law_next_row oc_law_paper kV_law_paper dc_law_paper pm_law_paper cd_law_paper ct_law_paper oc_is_plain kV_is_plain dc_is_plain pm_is_plain cd_is_plain ct_is_plain oc_law_odd kV_law_odd dc_law_odd pm_law_odd cd_law_odd ct_law_odd oc_law_spoilt kV_law_spoilt dc_law_spoilt pm_law_spoilt cd_law_spoilt ct_law_spoilt oc_law_number kV_law_number dc_law_number pm_law_number cd_law_number ct_law_number oc_law_form kV_law_form dc_law_form pm_law_form cd_law_form ct_law_form oc_law_open kV_law_open dc_law_open pm_law_open cd_law_open ct_law_open oc_law_first kV_law_first dc_law_first pm_law_first cd_law_first ct_law_first oc_law_told_right kV_law_told_right dc_law_told_right pm_law_told_right cd_law_told_right ct_law_told_right oc_law kV_law dc_law pm_law cd_law ct_law : Value} {t_HAND t_NEVER tk0 tk1 : Tok}
    {n_tup_SORTS : Nat}
    {hF_come hF_go hF_send hF_hear hF_lose hT_come hT_go hT_send hT_hear hT_lose : Int} {tF_come tF_go tF_send tF_hear tF_lose tT_come tT_go tT_send tT_hear tT_lose : Tok} {n_FORMS n_TAKES nT_come nT_go nT_send nT_hear nT_lose : Nat} {dT_come dT_go dT_send dT_hear dT_lose : Option Addr} {sT_come sT_go sT_send sT_hear sT_lose : Array (Option Value)}
    (a_HAND : PySem.W.nsIn K mainGlobals "HAND" = some (some (.str "hand" t_HAND)))
    (a_NEVER : PySem.W.nsIn K mainGlobals "NEVER" = some (some (.int (-1) t_NEVER)))
    (a_SORTS : PySem.W.nsIn K mainGlobals "SORTS" = some (some (.ref A_SORTS)))
    (lk_SORTS : K.lookup A_SORTS = some ⟨.type "tuple", dd_SORTS, .seq #[.str "hand" tk0, .str "alias" tk1] n_tup_SORTS, sl_SORTS⟩)
    (a_C_Post : PySem.W.nsIn K mainGlobals "Post" = some (some (.ref C_Post)))
    (pg_C_Post : PySem.W.plainGet K C_Post Str.empty = true)
    (hd_C_Post : PySem.W.hasDictIn K C_Post = true)
    (po_C_Post : PySem.W.plainOver K C_Post = true)
    (sa_C_Post : PySem.W.findIn K (.ref C_Post) "__setattr__" = some (some (.builtin "object.__setattr__")))
    (mk_C_Post : PySem.W.makesIn K C_Post = true)
    (kc_C_Post : PySem.W.keepIn K (.ref C_Post) = true)
    (n_C_Post_aim : PySem.W.findIn K (.ref C_Post) "aim" = some none)
    (n_C_Post_words : PySem.W.findIn K (.ref C_Post) "words" = some none)
    (n_C_Post_due : PySem.W.findIn K (.ref C_Post) "due" = some none)
    (n_C_Post_ears : PySem.W.findIn K (.ref C_Post) "ears" = some none)
    (n_C_Post_is_lost : PySem.W.findIn K (.ref C_Post) "is_lost" = some none)
    (a_Post_init : PySem.W.findIn K (.ref C_Post) "__init__" = some (some (.ref f_Post_init)))
    (i_Post_init : PySem.W.isFn K (.ref f_Post_init) = true)
    (l_Post_init : K.lookup f_Post_init = some ⟨oc_Post_init, od_Post_init, .func (PySem.W.fnOf "__init__" "Post.__init__" (defArgs sPInit) (defBody sPInit) (defScope sPInit) .none kV_Post_init dc_Post_init pm_Post_init an_Post_init cd_Post_init ct_Post_init), sl_Post_init⟩)
    (c_Post_init : PySem.W.codeIn K cd_Post_init "Post.__init__" = true)
    (k_Post_init : PySem.W.keepIn K (.ref f_Post_init) = true)
    (a_Post_is_done : PySem.W.findIn K (.ref C_Post) "is_done" = some (some (.ref f_Post_is_done)))
    (i_Post_is_done : PySem.W.isFn K (.ref f_Post_is_done) = true)
    (l_Post_is_done : K.lookup f_Post_is_done = some ⟨oc_Post_is_done, od_Post_is_done, .func (PySem.W.fnOf "is_done" "Post.is_done" (defArgs sPDone) (defBody sPDone) (defScope sPDone) .none kV_Post_is_done dc_Post_is_done pm_Post_is_done an_Post_is_done cd_Post_is_done ct_Post_is_done), sl_Post_is_done⟩)
    (c_Post_is_done : PySem.W.codeIn K cd_Post_is_done "Post.is_done" = true)
    (k_Post_is_done : PySem.W.keepIn K (.ref f_Post_is_done) = true)
    (a_C_Judge : PySem.W.nsIn K mainGlobals "Judge" = some (some (.ref C_Judge)))
    (pg_C_Judge : PySem.W.plainGet K C_Judge Str.empty = true)
    (hd_C_Judge : PySem.W.hasDictIn K C_Judge = true)
    (po_C_Judge : PySem.W.plainOver K C_Judge = true)
    (sa_C_Judge : PySem.W.findIn K (.ref C_Judge) "__setattr__" = some (some (.builtin "object.__setattr__")))
    (mk_C_Judge : PySem.W.makesIn K C_Judge = true)
    (kc_C_Judge : PySem.W.keepIn K (.ref C_Judge) = true)
    (n_C_Judge_present : PySem.W.findIn K (.ref C_Judge) "present" = some none)
    (n_C_Judge_posts : PySem.W.findIn K (.ref C_Judge) "posts" = some none)
    (n_C_Judge_newest : PySem.W.findIn K (.ref C_Judge) "newest" = some none)
    (a_Judge_init : PySem.W.findIn K (.ref C_Judge) "__init__" = some (some (.ref f_Judge_init)))
    (i_Judge_init : PySem.W.isFn K (.ref f_Judge_init) = true)
    (l_Judge_init : K.lookup f_Judge_init = some ⟨oc_Judge_init, od_Judge_init, .func (PySem.W.fnOf "__init__" "Judge.__init__" (defArgs sJInit) (defBody sJInit) (defScope sJInit) .none kV_Judge_init dc_Judge_init pm_Judge_init an_Judge_init cd_Judge_init ct_Judge_init), sl_Judge_init⟩)
    (c_Judge_init : PySem.W.codeIn K cd_Judge_init "Judge.__init__" = true)
    (k_Judge_init : PySem.W.keepIn K (.ref f_Judge_init) = true)
    (a_Judge_is_in_turn : PySem.W.findIn K (.ref C_Judge) "is_in_turn" = some (some (.ref f_Judge_is_in_turn)))
    (i_Judge_is_in_turn : PySem.W.isFn K (.ref f_Judge_is_in_turn) = true)
    (l_Judge_is_in_turn : K.lookup f_Judge_is_in_turn = some ⟨oc_Judge_is_in_turn, od_Judge_is_in_turn, .func (PySem.W.fnOf "is_in_turn" "Judge.is_in_turn" (defArgs sJTurn) (defBody sJTurn) (defScope sJTurn) .none kV_Judge_is_in_turn dc_Judge_is_in_turn pm_Judge_is_in_turn an_Judge_is_in_turn cd_Judge_is_in_turn ct_Judge_is_in_turn), sl_Judge_is_in_turn⟩)
    (c_Judge_is_in_turn : PySem.W.codeIn K cd_Judge_is_in_turn "Judge.is_in_turn" = true)
    (k_Judge_is_in_turn : PySem.W.keepIn K (.ref f_Judge_is_in_turn) = true)
    (a_Judge_come : PySem.W.findIn K (.ref C_Judge) "come" = some (some (.ref f_Judge_come)))
    (i_Judge_come : PySem.W.isFn K (.ref f_Judge_come) = true)
    (l_Judge_come : K.lookup f_Judge_come = some ⟨oc_Judge_come, od_Judge_come, .func (PySem.W.fnOf "come" "Judge.come" (defArgs sJCome) (defBody sJCome) (defScope sJCome) .none kV_Judge_come dc_Judge_come pm_Judge_come an_Judge_come cd_Judge_come ct_Judge_come), sl_Judge_come⟩)
    (c_Judge_come : PySem.W.codeIn K cd_Judge_come "Judge.come" = true)
    (k_Judge_come : PySem.W.keepIn K (.ref f_Judge_come) = true)
    (a_Judge_go : PySem.W.findIn K (.ref C_Judge) "go" = some (some (.ref f_Judge_go)))
    (i_Judge_go : PySem.W.isFn K (.ref f_Judge_go) = true)
    (l_Judge_go : K.lookup f_Judge_go = some ⟨oc_Judge_go, od_Judge_go, .func (PySem.W.fnOf "go" "Judge.go" (defArgs sJGo) (defBody sJGo) (defScope sJGo) .none kV_Judge_go dc_Judge_go pm_Judge_go an_Judge_go cd_Judge_go ct_Judge_go), sl_Judge_go⟩)
    (c_Judge_go : PySem.W.codeIn K cd_Judge_go "Judge.go" = true)
    (k_Judge_go : PySem.W.keepIn K (.ref f_Judge_go) = true)
    (a_Judge_due_of : PySem.W.findIn K (.ref C_Judge) "due_of" = some (some (.ref f_Judge_due_of)))
    (i_Judge_due_of : PySem.W.isFn K (.ref f_Judge_due_of) = true)
    (l_Judge_due_of : K.lookup f_Judge_due_of = some ⟨oc_Judge_due_of, od_Judge_due_of, .func (PySem.W.fnOf "due_of" "Judge.due_of" (defArgs sJDue) (defBody sJDue) (defScope sJDue) .none kV_Judge_due_of dc_Judge_due_of pm_Judge_due_of an_Judge_due_of cd_Judge_due_of ct_Judge_due_of), sl_Judge_due_of⟩)
    (c_Judge_due_of : PySem.W.codeIn K cd_Judge_due_of "Judge.due_of" = true)
    (k_Judge_due_of : PySem.W.keepIn K (.ref f_Judge_due_of) = true)
    (a_Judge_send : PySem.W.findIn K (.ref C_Judge) "send" = some (some (.ref f_Judge_send)))
    (i_Judge_send : PySem.W.isFn K (.ref f_Judge_send) = true)
    (l_Judge_send : K.lookup f_Judge_send = some ⟨oc_Judge_send, od_Judge_send, .func (PySem.W.fnOf "send" "Judge.send" (defArgs sJSend) (defBody sJSend) (defScope sJSend) .none kV_Judge_send dc_Judge_send pm_Judge_send an_Judge_send cd_Judge_send ct_Judge_send), sl_Judge_send⟩)
    (c_Judge_send : PySem.W.codeIn K cd_Judge_send "Judge.send" = true)
    (k_Judge_send : PySem.W.keepIn K (.ref f_Judge_send) = true)
    (a_Judge_is_for : PySem.W.findIn K (.ref C_Judge) "is_for" = some (some (.ref f_Judge_is_for)))
    (i_Judge_is_for : PySem.W.isFn K (.ref f_Judge_is_for) = true)
    (l_Judge_is_for : K.lookup f_Judge_is_for = some ⟨oc_Judge_is_for, od_Judge_is_for, .func (PySem.W.fnOf "is_for" "Judge.is_for" (defArgs sJFor) (defBody sJFor) (defScope sJFor) .none kV_Judge_is_for dc_Judge_is_for pm_Judge_is_for an_Judge_is_for cd_Judge_is_for ct_Judge_is_for), sl_Judge_is_for⟩)
    (c_Judge_is_for : PySem.W.codeIn K cd_Judge_is_for "Judge.is_for" = true)
    (k_Judge_is_for : PySem.W.keepIn K (.ref f_Judge_is_for) = true)
    (a_Judge_hear : PySem.W.findIn K (.ref C_Judge) "hear" = some (some (.ref f_Judge_hear)))
    (i_Judge_hear : PySem.W.isFn K (.ref f_Judge_hear) = true)
    (l_Judge_hear : K.lookup f_Judge_hear = some ⟨oc_Judge_hear, od_Judge_hear, .func (PySem.W.fnOf "hear" "Judge.hear" (defArgs sJHear) (defBody sJHear) (defScope sJHear) .none kV_Judge_hear dc_Judge_hear pm_Judge_hear an_Judge_hear cd_Judge_hear ct_Judge_hear), sl_Judge_hear⟩)
    (c_Judge_hear : PySem.W.codeIn K cd_Judge_hear "Judge.hear" = true)
    (k_Judge_hear : PySem.W.keepIn K (.ref f_Judge_hear) = true)
    (a_Judge_lose : PySem.W.findIn K (.ref C_Judge) "lose" = some (some (.ref f_Judge_lose)))
    (i_Judge_lose : PySem.W.isFn K (.ref f_Judge_lose) = true)
    (l_Judge_lose : K.lookup f_Judge_lose = some ⟨oc_Judge_lose, od_Judge_lose, .func (PySem.W.fnOf "lose" "Judge.lose" (defArgs sJLose) (defBody sJLose) (defScope sJLose) .none kV_Judge_lose dc_Judge_lose pm_Judge_lose an_Judge_lose cd_Judge_lose ct_Judge_lose), sl_Judge_lose⟩)
    (c_Judge_lose : PySem.W.codeIn K cd_Judge_lose "Judge.lose" = true)
    (k_Judge_lose : PySem.W.keepIn K (.ref f_Judge_lose) = true)
    (a_Judge_is_right_end : PySem.W.findIn K (.ref C_Judge) "is_right_end" = some (some (.ref f_Judge_is_right_end)))
    (i_Judge_is_right_end : PySem.W.isFn K (.ref f_Judge_is_right_end) = true)
    (l_Judge_is_right_end : K.lookup f_Judge_is_right_end = some ⟨oc_Judge_is_right_end, od_Judge_is_right_end, .func (PySem.W.fnOf "is_right_end" "Judge.is_right_end" (defArgs sJEnd) (defBody sJEnd) (defScope sJEnd) .none kV_Judge_is_right_end dc_Judge_is_right_end pm_Judge_is_right_end an_Judge_is_right_end cd_Judge_is_right_end ct_Judge_is_right_end), sl_Judge_is_right_end⟩)
    (c_Judge_is_right_end : PySem.W.codeIn K cd_Judge_is_right_end "Judge.is_right_end" = true)
    (k_Judge_is_right_end : PySem.W.keepIn K (.ref f_Judge_is_right_end) = true)
    (a_C_JudgeOnce : PySem.W.nsIn K mainGlobals "JudgeOnce" = some (some (.ref C_JudgeOnce)))
    (pg_C_JudgeOnce : PySem.W.plainGet K C_JudgeOnce Str.empty = true)
    (hd_C_JudgeOnce : PySem.W.hasDictIn K C_JudgeOnce = true)
    (po_C_JudgeOnce : PySem.W.plainOver K C_JudgeOnce = true)
    (sa_C_JudgeOnce : PySem.W.findIn K (.ref C_JudgeOnce) "__setattr__" = some (some (.builtin "object.__setattr__")))
    (mk_C_JudgeOnce : PySem.W.makesIn K C_JudgeOnce = true)
    (kc_C_JudgeOnce : PySem.W.keepIn K (.ref C_JudgeOnce) = true)
    (n_C_JudgeOnce_present : PySem.W.findIn K (.ref C_JudgeOnce) "present" = some none)
    (n_C_JudgeOnce_posts : PySem.W.findIn K (.ref C_JudgeOnce) "posts" = some none)
    (n_C_JudgeOnce_newest : PySem.W.findIn K (.ref C_JudgeOnce) "newest" = some none)
    (a_JudgeOnce_is_in_turn : PySem.W.findIn K (.ref C_JudgeOnce) "is_in_turn" = some (some (.ref f_JudgeOnce_is_in_turn)))
    (i_JudgeOnce_is_in_turn : PySem.W.isFn K (.ref f_JudgeOnce_is_in_turn) = true)
    (l_JudgeOnce_is_in_turn : K.lookup f_JudgeOnce_is_in_turn = some ⟨oc_JudgeOnce_is_in_turn, od_JudgeOnce_is_in_turn, .func (PySem.W.fnOf "is_in_turn" "JudgeOnce.is_in_turn" (defArgs sOTurn) (defBody sOTurn) (defScope sOTurn) .none kV_JudgeOnce_is_in_turn dc_JudgeOnce_is_in_turn pm_JudgeOnce_is_in_turn an_JudgeOnce_is_in_turn cd_JudgeOnce_is_in_turn ct_JudgeOnce_is_in_turn), sl_JudgeOnce_is_in_turn⟩)
    (c_JudgeOnce_is_in_turn : PySem.W.codeIn K cd_JudgeOnce_is_in_turn "JudgeOnce.is_in_turn" = true)
    (k_JudgeOnce_is_in_turn : PySem.W.keepIn K (.ref f_JudgeOnce_is_in_turn) = true)
    (a_JudgeOnce_init : PySem.W.findIn K (.ref C_JudgeOnce) "__init__" = some (some (.ref f_Judge_init)))
    (a_JudgeOnce_come : PySem.W.findIn K (.ref C_JudgeOnce) "come" = some (some (.ref f_Judge_come)))
    (a_JudgeOnce_go : PySem.W.findIn K (.ref C_JudgeOnce) "go" = some (some (.ref f_Judge_go)))
    (a_JudgeOnce_due_of : PySem.W.findIn K (.ref C_JudgeOnce) "due_of" = some (some (.ref f_Judge_due_of)))
    (a_JudgeOnce_send : PySem.W.findIn K (.ref C_JudgeOnce) "send" = some (some (.ref f_Judge_send)))
    (a_JudgeOnce_is_for : PySem.W.findIn K (.ref C_JudgeOnce) "is_for" = some (some (.ref f_Judge_is_for)))
    (a_JudgeOnce_hear : PySem.W.findIn K (.ref C_JudgeOnce) "hear" = some (some (.ref f_Judge_hear)))
    (a_JudgeOnce_lose : PySem.W.findIn K (.ref C_JudgeOnce) "lose" = some (some (.ref f_Judge_lose)))
    (a_JudgeOnce_is_right_end : PySem.W.findIn K (.ref C_JudgeOnce) "is_right_end" = some (some (.ref f_Judge_is_right_end)))
    (a_C_JudgeTurn : PySem.W.nsIn K mainGlobals "JudgeTurn" = some (some (.ref C_JudgeTurn)))
    (pg_C_JudgeTurn : PySem.W.plainGet K C_JudgeTurn Str.empty = true)
    (hd_C_JudgeTurn : PySem.W.hasDictIn K C_JudgeTurn = true)
    (po_C_JudgeTurn : PySem.W.plainOver K C_JudgeTurn = true)
    (sa_C_JudgeTurn : PySem.W.findIn K (.ref C_JudgeTurn) "__setattr__" = some (some (.builtin "object.__setattr__")))
    (mk_C_JudgeTurn : PySem.W.makesIn K C_JudgeTurn = true)
    (kc_C_JudgeTurn : PySem.W.keepIn K (.ref C_JudgeTurn) = true)
    (n_C_JudgeTurn_present : PySem.W.findIn K (.ref C_JudgeTurn) "present" = some none)
    (n_C_JudgeTurn_posts : PySem.W.findIn K (.ref C_JudgeTurn) "posts" = some none)
    (n_C_JudgeTurn_newest : PySem.W.findIn K (.ref C_JudgeTurn) "newest" = some none)
    (n_C_JudgeTurn_heights : PySem.W.findIn K (.ref C_JudgeTurn) "heights" = some none)
    (a_JudgeTurn_init : PySem.W.findIn K (.ref C_JudgeTurn) "__init__" = some (some (.ref f_JudgeTurn_init)))
    (i_JudgeTurn_init : PySem.W.isFn K (.ref f_JudgeTurn_init) = true)
    (l_JudgeTurn_init : K.lookup f_JudgeTurn_init = some ⟨oc_JudgeTurn_init, od_JudgeTurn_init, .func (PySem.W.fnOf "__init__" "JudgeTurn.__init__" (defArgs sTInit) (defBody sTInit) (defScope sTInit) .none kV_JudgeTurn_init dc_JudgeTurn_init pm_JudgeTurn_init an_JudgeTurn_init cd_JudgeTurn_init ct_JudgeTurn_init), sl_JudgeTurn_init⟩)
    (c_JudgeTurn_init : PySem.W.codeIn K cd_JudgeTurn_init "JudgeTurn.__init__" = true)
    (k_JudgeTurn_init : PySem.W.keepIn K (.ref f_JudgeTurn_init) = true)
    (a_JudgeTurn_is_in_turn : PySem.W.findIn K (.ref C_JudgeTurn) "is_in_turn" = some (some (.ref f_JudgeTurn_is_in_turn)))
    (i_JudgeTurn_is_in_turn : PySem.W.isFn K (.ref f_JudgeTurn_is_in_turn) = true)
    (l_JudgeTurn_is_in_turn : K.lookup f_JudgeTurn_is_in_turn = some ⟨oc_JudgeTurn_is_in_turn, od_JudgeTurn_is_in_turn, .func (PySem.W.fnOf "is_in_turn" "JudgeTurn.is_in_turn" (defArgs sTTurn) (defBody sTTurn) (defScope sTTurn) .none kV_JudgeTurn_is_in_turn dc_JudgeTurn_is_in_turn pm_JudgeTurn_is_in_turn an_JudgeTurn_is_in_turn cd_JudgeTurn_is_in_turn ct_JudgeTurn_is_in_turn), sl_JudgeTurn_is_in_turn⟩)
    (c_JudgeTurn_is_in_turn : PySem.W.codeIn K cd_JudgeTurn_is_in_turn "JudgeTurn.is_in_turn" = true)
    (k_JudgeTurn_is_in_turn : PySem.W.keepIn K (.ref f_JudgeTurn_is_in_turn) = true)
    (a_JudgeTurn_come : PySem.W.findIn K (.ref C_JudgeTurn) "come" = some (some (.ref f_Judge_come)))
    (a_JudgeTurn_go : PySem.W.findIn K (.ref C_JudgeTurn) "go" = some (some (.ref f_Judge_go)))
    (a_JudgeTurn_due_of : PySem.W.findIn K (.ref C_JudgeTurn) "due_of" = some (some (.ref f_Judge_due_of)))
    (a_JudgeTurn_send : PySem.W.findIn K (.ref C_JudgeTurn) "send" = some (some (.ref f_Judge_send)))
    (a_JudgeTurn_is_for : PySem.W.findIn K (.ref C_JudgeTurn) "is_for" = some (some (.ref f_Judge_is_for)))
    (a_JudgeTurn_hear : PySem.W.findIn K (.ref C_JudgeTurn) "hear" = some (some (.ref f_Judge_hear)))
    (a_JudgeTurn_lose : PySem.W.findIn K (.ref C_JudgeTurn) "lose" = some (some (.ref f_Judge_lose)))
    (a_JudgeTurn_is_right_end : PySem.W.findIn K (.ref C_JudgeTurn) "is_right_end" = some (some (.ref f_Judge_is_right_end)))
    (a_is_whole : PySem.W.nsIn K mainGlobals "is_whole" = some (some (.ref f_is_whole)))
    (l_is_whole : K.lookup f_is_whole = some ⟨oc_is_whole, od_is_whole, .func (PySem.W.fnOf "is_whole" "is_whole" (defArgs sWholeQ) (defBody sWholeQ) (defScope sWholeQ) .none kV_is_whole dc_is_whole pm_is_whole an_is_whole cd_is_whole ct_is_whole), sl_is_whole⟩)
    (c_is_whole : PySem.W.codeIn K cd_is_whole "is_whole" = true)
    (k_is_whole : PySem.W.keepIn K (.ref f_is_whole) = true)
    (a_is_count : PySem.W.nsIn K mainGlobals "is_count" = some (some (.ref f_is_count)))
    (l_is_count : K.lookup f_is_count = some ⟨oc_is_count, od_is_count, .func (PySem.W.fnOf "is_count" "is_count" (defArgs sCount) (defBody sCount) (defScope sCount) .none kV_is_count dc_is_count pm_is_count an_is_count cd_is_count ct_is_count), sl_is_count⟩)
    (c_is_count : PySem.W.codeIn K cd_is_count "is_count" = true)
    (k_is_count : PySem.W.keepIn K (.ref f_is_count) = true)
    (a_is_sort : PySem.W.nsIn K mainGlobals "is_sort" = some (some (.ref f_is_sort)))
    (l_is_sort : K.lookup f_is_sort = some ⟨oc_is_sort, od_is_sort, .func (PySem.W.fnOf "is_sort" "is_sort" (defArgs sSort) (defBody sSort) (defScope sSort) .none kV_is_sort dc_is_sort pm_is_sort an_is_sort cd_is_sort ct_is_sort), sl_is_sort⟩)
    (c_is_sort : PySem.W.codeIn K cd_is_sort "is_sort" = true)
    (k_is_sort : PySem.W.keepIn K (.ref f_is_sort) = true)
    (a_is_aim : PySem.W.nsIn K mainGlobals "is_aim" = some (some (.ref f_is_aim)))
    (l_is_aim : K.lookup f_is_aim = some ⟨oc_is_aim, od_is_aim, .func (PySem.W.fnOf "is_aim" "is_aim" (defArgs sAim) (defBody sAim) (defScope sAim) .none kV_is_aim dc_is_aim pm_is_aim an_is_aim cd_is_aim ct_is_aim), sl_is_aim⟩)
    (c_is_aim : PySem.W.codeIn K cd_is_aim "is_aim" = true)
    (k_is_aim : PySem.W.keepIn K (.ref f_is_aim) = true)
    (a_is_words : PySem.W.nsIn K mainGlobals "is_words" = some (some (.ref f_is_words)))
    (l_is_words : K.lookup f_is_words = some ⟨oc_is_words, od_is_words, .func (PySem.W.fnOf "is_words" "is_words" (defArgs sWords) (defBody sWords) (defScope sWords) .none kV_is_words dc_is_words pm_is_words an_is_words cd_is_words ct_is_words), sl_is_words⟩)
    (c_is_words : PySem.W.codeIn K cd_is_words "is_words" = true)
    (k_is_words : PySem.W.keepIn K (.ref f_is_words) = true)
    (a_is_form : PySem.W.nsIn K mainGlobals "is_form" = some (some (.ref f_is_form)))
    (l_is_form : K.lookup f_is_form = some ⟨oc_is_form, od_is_form, .func (PySem.W.fnOf "is_form" "is_form" (defArgs sForm) (defBody sForm) (defScope sForm) .none kV_is_form dc_is_form pm_is_form an_is_form cd_is_form ct_is_form), sl_is_form⟩)
    (c_is_form : PySem.W.codeIn K cd_is_form "is_form" = true)
    (k_is_form : PySem.W.keepIn K (.ref f_is_form) = true)
    (a_take_come : PySem.W.nsIn K mainGlobals "take_come" = some (some (.ref f_take_come)))
    (l_take_come : K.lookup f_take_come = some ⟨oc_take_come, od_take_come, .func (PySem.W.fnOf "take_come" "take_come" (defArgs sTkCome) (defBody sTkCome) (defScope sTkCome) .none kV_take_come dc_take_come pm_take_come an_take_come cd_take_come ct_take_come), sl_take_come⟩)
    (c_take_come : PySem.W.codeIn K cd_take_come "take_come" = true)
    (k_take_come : PySem.W.keepIn K (.ref f_take_come) = true)
    (a_take_go : PySem.W.nsIn K mainGlobals "take_go" = some (some (.ref f_take_go)))
    (l_take_go : K.lookup f_take_go = some ⟨oc_take_go, od_take_go, .func (PySem.W.fnOf "take_go" "take_go" (defArgs sTkGo) (defBody sTkGo) (defScope sTkGo) .none kV_take_go dc_take_go pm_take_go an_take_go cd_take_go ct_take_go), sl_take_go⟩)
    (c_take_go : PySem.W.codeIn K cd_take_go "take_go" = true)
    (k_take_go : PySem.W.keepIn K (.ref f_take_go) = true)
    (a_take_send : PySem.W.nsIn K mainGlobals "take_send" = some (some (.ref f_take_send)))
    (l_take_send : K.lookup f_take_send = some ⟨oc_take_send, od_take_send, .func (PySem.W.fnOf "take_send" "take_send" (defArgs sTkSend) (defBody sTkSend) (defScope sTkSend) .none kV_take_send dc_take_send pm_take_send an_take_send cd_take_send ct_take_send), sl_take_send⟩)
    (c_take_send : PySem.W.codeIn K cd_take_send "take_send" = true)
    (k_take_send : PySem.W.keepIn K (.ref f_take_send) = true)
    (a_take_hear : PySem.W.nsIn K mainGlobals "take_hear" = some (some (.ref f_take_hear)))
    (l_take_hear : K.lookup f_take_hear = some ⟨oc_take_hear, od_take_hear, .func (PySem.W.fnOf "take_hear" "take_hear" (defArgs sTkHear) (defBody sTkHear) (defScope sTkHear) .none kV_take_hear dc_take_hear pm_take_hear an_take_hear cd_take_hear ct_take_hear), sl_take_hear⟩)
    (c_take_hear : PySem.W.codeIn K cd_take_hear "take_hear" = true)
    (k_take_hear : PySem.W.keepIn K (.ref f_take_hear) = true)
    (a_take_lose : PySem.W.nsIn K mainGlobals "take_lose" = some (some (.ref f_take_lose)))
    (l_take_lose : K.lookup f_take_lose = some ⟨oc_take_lose, od_take_lose, .func (PySem.W.fnOf "take_lose" "take_lose" (defArgs sTkLose) (defBody sTkLose) (defScope sTkLose) .none kV_take_lose dc_take_lose pm_take_lose an_take_lose cd_take_lose ct_take_lose), sl_take_lose⟩)
    (c_take_lose : PySem.W.codeIn K cd_take_lose "take_lose" = true)
    (k_take_lose : PySem.W.keepIn K (.ref f_take_lose) = true)
    (a_judge_of : PySem.W.nsIn K mainGlobals "judge_of" = some (some (.ref f_judge_of)))
    (l_judge_of : K.lookup f_judge_of = some ⟨oc_judge_of, od_judge_of, .func (PySem.W.fnOf "judge_of" "judge_of" (defArgs sJOf) (defBody sJOf) (defScope sJOf) .none kV_judge_of dc_judge_of pm_judge_of an_judge_of cd_judge_of ct_judge_of), sl_judge_of⟩)
    (c_judge_of : PySem.W.codeIn K cd_judge_of "judge_of" = true)
    (k_judge_of : PySem.W.keepIn K (.ref f_judge_of) = true)
    (a_is_pair : PySem.W.nsIn K mainGlobals "is_pair" = some (some (.ref f_is_pair)))
    (l_is_pair : K.lookup f_is_pair = some ⟨oc_is_pair, od_is_pair, .func (PySem.W.fnOf "is_pair" "is_pair" (defArgs sPair) (defBody sPair) (defScope sPair) .none kV_is_pair dc_is_pair pm_is_pair an_is_pair cd_is_pair ct_is_pair), sl_is_pair⟩)
    (c_is_pair : PySem.W.codeIn K cd_is_pair "is_pair" = true)
    (k_is_pair : PySem.W.keepIn K (.ref f_is_pair) = true)
    (a_is_rising : PySem.W.nsIn K mainGlobals "is_rising" = some (some (.ref f_is_rising)))
    (l_is_rising : K.lookup f_is_rising = some ⟨oc_is_rising, od_is_rising, .func (PySem.W.fnOf "is_rising" "is_rising" (defArgs sRising) (defBody sRising) (defScope sRising) .none kV_is_rising dc_is_rising pm_is_rising an_is_rising cd_is_rising ct_is_rising), sl_is_rising⟩)
    (c_is_rising : PySem.W.codeIn K cd_is_rising "is_rising" = true)
    (k_is_rising : PySem.W.keepIn K (.ref f_is_rising) = true)
    (a_first_wrong : PySem.W.nsIn K mainGlobals "first_wrong" = some (some (.ref f_first_wrong)))
    (l_first_wrong : K.lookup f_first_wrong = some ⟨oc_first_wrong, od_first_wrong, .func (PySem.W.fnOf "first_wrong" "first_wrong" (defArgs sFirst) (defBody sFirst) (defScope sFirst) .none kV_first_wrong dc_first_wrong pm_first_wrong an_first_wrong cd_first_wrong ct_first_wrong), sl_first_wrong⟩)
    (c_first_wrong : PySem.W.codeIn K cd_first_wrong "first_wrong" = true)
    (k_first_wrong : PySem.W.keepIn K (.ref f_first_wrong) = true)
    (a_law_mixed : PySem.W.nsIn K mainGlobals "_law_mixed" = some (some (.ref f_law_mixed)))
    (l_law_mixed : K.lookup f_law_mixed = some ⟨oc_law_mixed, od_law_mixed, .func (PySem.W.fnOf "_law_mixed" "_law_mixed" (defArgs sMixed4) (defBody sMixed4) (defScope sMixed4) .none kV_law_mixed dc_law_mixed pm_law_mixed an_law_mixed cd_law_mixed ct_law_mixed), sl_law_mixed⟩)
    (c_law_mixed : PySem.W.codeIn K cd_law_mixed "_law_mixed" = true)
    (k_law_mixed : PySem.W.keepIn K (.ref f_law_mixed) = true)
    (a_law_deck : PySem.W.nsIn K mainGlobals "_law_deck" = some (some (.ref f_law_deck)))
    (l_law_deck : K.lookup f_law_deck = some ⟨oc_law_deck, od_law_deck, .func (PySem.W.fnOf "_law_deck" "_law_deck" (defArgs sDeck4) (defBody sDeck4) (defScope sDeck4) .none kV_law_deck dc_law_deck pm_law_deck an_law_deck cd_law_deck ct_law_deck), sl_law_deck⟩)
    (c_law_deck : PySem.W.codeIn K cd_law_deck "_law_deck" = true)
    (k_law_deck : PySem.W.keepIn K (.ref f_law_deck) = true)
    (a_law_next : PySem.W.nsIn K mainGlobals "_law_next" = some (some (.ref f_law_next)))
    (l_law_next : K.lookup f_law_next = some ⟨oc_law_next, od_law_next, .func (PySem.W.fnOf "_law_next" "_law_next" (defArgs sNext4) (defBody sNext4) (defScope sNext4) .none kV_law_next dc_law_next pm_law_next an_law_next cd_law_next ct_law_next), sl_law_next⟩)
    (c_law_next : PySem.W.codeIn K cd_law_next "_law_next" = true)
    (k_law_next : PySem.W.keepIn K (.ref f_law_next) = true)
    (a_law_one : PySem.W.nsIn K mainGlobals "_law_one" = some (some (.ref f_law_one)))
    (l_law_one : K.lookup f_law_one = some ⟨oc_law_one, od_law_one, .func (PySem.W.fnOf "_law_one" "_law_one" (defArgs sOne4) (defBody sOne4) (defScope sOne4) .none kV_law_one dc_law_one pm_law_one an_law_one cd_law_one ct_law_one), sl_law_one⟩)
    (c_law_one : PySem.W.codeIn K cd_law_one "_law_one" = true)
    (k_law_one : PySem.W.keepIn K (.ref f_law_one) = true)
    (a_law_sent_right : PySem.W.nsIn K mainGlobals "_law_sent_right" = some (some (.ref f_law_sent_right)))
    (l_law_sent_right : K.lookup f_law_sent_right = some ⟨oc_law_sent_right, od_law_sent_right, .func (PySem.W.fnOf "_law_sent_right" "_law_sent_right" (defArgs sSentR) (defBody sSentR) (defScope sSentR) .none kV_law_sent_right dc_law_sent_right pm_law_sent_right an_law_sent_right cd_law_sent_right ct_law_sent_right), sl_law_sent_right⟩)
    (c_law_sent_right : PySem.W.codeIn K cd_law_sent_right "_law_sent_right" = true)
    (k_law_sent_right : PySem.W.keepIn K (.ref f_law_sent_right) = true)
    (a_law_heard_right : PySem.W.nsIn K mainGlobals "_law_heard_right" = some (some (.ref f_law_heard_right)))
    (l_law_heard_right : K.lookup f_law_heard_right = some ⟨oc_law_heard_right, od_law_heard_right, .func (PySem.W.fnOf "_law_heard_right" "_law_heard_right" (defArgs sHeardR) (defBody sHeardR) (defScope sHeardR) .none kV_law_heard_right dc_law_heard_right pm_law_heard_right an_law_heard_right cd_law_heard_right ct_law_heard_right), sl_law_heard_right⟩)
    (c_law_heard_right : PySem.W.codeIn K cd_law_heard_right "_law_heard_right" = true)
    (k_law_heard_right : PySem.W.keepIn K (.ref f_law_heard_right) = true)
    (a_law_row_right : PySem.W.nsIn K mainGlobals "_law_row_right" = some (some (.ref f_law_row_right)))
    (l_law_row_right : K.lookup f_law_row_right = some ⟨oc_law_row_right, od_law_row_right, .func (PySem.W.fnOf "_law_row_right" "_law_row_right" (defArgs sRowR) (defBody sRowR) (defScope sRowR) .none kV_law_row_right dc_law_row_right pm_law_row_right an_law_row_right cd_law_row_right ct_law_row_right), sl_law_row_right⟩)
    (c_law_row_right : PySem.W.codeIn K cd_law_row_right "_law_row_right" = true)
    (k_law_row_right : PySem.W.keepIn K (.ref f_law_row_right) = true)
    (a_law_end_right : PySem.W.nsIn K mainGlobals "_law_end_right" = some (some (.ref f_law_end_right)))
    (l_law_end_right : K.lookup f_law_end_right = some ⟨oc_law_end_right, od_law_end_right, .func (PySem.W.fnOf "_law_end_right" "_law_end_right" (defArgs sEndR) (defBody sEndR) (defScope sEndR) .none kV_law_end_right dc_law_end_right pm_law_end_right an_law_end_right cd_law_end_right ct_law_end_right), sl_law_end_right⟩)
    (c_law_end_right : PySem.W.codeIn K cd_law_end_right "_law_end_right" = true)
    (k_law_end_right : PySem.W.keepIn K (.ref f_law_end_right) = true)
    (a_law_next_row : PySem.W.nsIn K mainGlobals "_law_next_row" = some (some (.ref f_law_next_row)))
    (l_law_next_row : K.lookup f_law_next_row = some ⟨oc_law_next_row, od_law_next_row, .func (PySem.W.fnOf "_law_next_row" "_law_next_row" (defArgs sNextR) (defBody sNextR) (defScope sNextR) .none kV_law_next_row dc_law_next_row pm_law_next_row an_law_next_row cd_law_next_row ct_law_next_row), sl_law_next_row⟩)
    (c_law_next_row : PySem.W.codeIn K cd_law_next_row "_law_next_row" = true)
    (k_law_next_row : PySem.W.keepIn K (.ref f_law_next_row) = true)
    (a_law_paper : PySem.W.nsIn K mainGlobals "_law_paper" = some (some (.ref f_law_paper)))
    (l_law_paper : K.lookup f_law_paper = some ⟨oc_law_paper, od_law_paper, .func (PySem.W.fnOf "_law_paper" "_law_paper" (defArgs sPaper) (defBody sPaper) (defScope sPaper) .none kV_law_paper dc_law_paper pm_law_paper an_law_paper cd_law_paper ct_law_paper), sl_law_paper⟩)
    (c_law_paper : PySem.W.codeIn K cd_law_paper "_law_paper" = true)
    (k_law_paper : PySem.W.keepIn K (.ref f_law_paper) = true)
    (a_is_plain : PySem.W.nsIn K mainGlobals "is_plain" = some (some (.ref f_is_plain)))
    (l_is_plain : K.lookup f_is_plain = some ⟨oc_is_plain, od_is_plain, .func (PySem.W.fnOf "is_plain" "is_plain" (defArgs sPlain) (defBody sPlain) (defScope sPlain) .none kV_is_plain dc_is_plain pm_is_plain an_is_plain cd_is_plain ct_is_plain), sl_is_plain⟩)
    (c_is_plain : PySem.W.codeIn K cd_is_plain "is_plain" = true)
    (k_is_plain : PySem.W.keepIn K (.ref f_is_plain) = true)
    (a_law_odd : PySem.W.nsIn K mainGlobals "_law_odd" = some (some (.ref f_law_odd)))
    (l_law_odd : K.lookup f_law_odd = some ⟨oc_law_odd, od_law_odd, .func (PySem.W.fnOf "_law_odd" "_law_odd" (defArgs sOddL) (defBody sOddL) (defScope sOddL) .none kV_law_odd dc_law_odd pm_law_odd an_law_odd cd_law_odd ct_law_odd), sl_law_odd⟩)
    (c_law_odd : PySem.W.codeIn K cd_law_odd "_law_odd" = true)
    (k_law_odd : PySem.W.keepIn K (.ref f_law_odd) = true)
    (a_law_spoilt : PySem.W.nsIn K mainGlobals "_law_spoilt" = some (some (.ref f_law_spoilt)))
    (l_law_spoilt : K.lookup f_law_spoilt = some ⟨oc_law_spoilt, od_law_spoilt, .func (PySem.W.fnOf "_law_spoilt" "_law_spoilt" (defArgs sSpoilt) (defBody sSpoilt) (defScope sSpoilt) .none kV_law_spoilt dc_law_spoilt pm_law_spoilt an_law_spoilt cd_law_spoilt ct_law_spoilt), sl_law_spoilt⟩)
    (c_law_spoilt : PySem.W.codeIn K cd_law_spoilt "_law_spoilt" = true)
    (k_law_spoilt : PySem.W.keepIn K (.ref f_law_spoilt) = true)
    (a_law_number : PySem.W.nsIn K mainGlobals "_law_number" = some (some (.ref f_law_number)))
    (l_law_number : K.lookup f_law_number = some ⟨oc_law_number, od_law_number, .func (PySem.W.fnOf "_law_number" "_law_number" (defArgs sNumL) (defBody sNumL) (defScope sNumL) .none kV_law_number dc_law_number pm_law_number an_law_number cd_law_number ct_law_number), sl_law_number⟩)
    (c_law_number : PySem.W.codeIn K cd_law_number "_law_number" = true)
    (k_law_number : PySem.W.keepIn K (.ref f_law_number) = true)
    (a_law_form : PySem.W.nsIn K mainGlobals "_law_form" = some (some (.ref f_law_form)))
    (l_law_form : K.lookup f_law_form = some ⟨oc_law_form, od_law_form, .func (PySem.W.fnOf "_law_form" "_law_form" (defArgs sFormL) (defBody sFormL) (defScope sFormL) .none kV_law_form dc_law_form pm_law_form an_law_form cd_law_form ct_law_form), sl_law_form⟩)
    (c_law_form : PySem.W.codeIn K cd_law_form "_law_form" = true)
    (k_law_form : PySem.W.keepIn K (.ref f_law_form) = true)
    (a_law_open : PySem.W.nsIn K mainGlobals "_law_open" = some (some (.ref f_law_open)))
    (l_law_open : K.lookup f_law_open = some ⟨oc_law_open, od_law_open, .func (PySem.W.fnOf "_law_open" "_law_open" (defArgs sOpenL) (defBody sOpenL) (defScope sOpenL) .none kV_law_open dc_law_open pm_law_open an_law_open cd_law_open ct_law_open), sl_law_open⟩)
    (c_law_open : PySem.W.codeIn K cd_law_open "_law_open" = true)
    (k_law_open : PySem.W.keepIn K (.ref f_law_open) = true)
    (a_law_first : PySem.W.nsIn K mainGlobals "_law_first" = some (some (.ref f_law_first)))
    (l_law_first : K.lookup f_law_first = some ⟨oc_law_first, od_law_first, .func (PySem.W.fnOf "_law_first" "_law_first" (defArgs sFirstL) (defBody sFirstL) (defScope sFirstL) .none kV_law_first dc_law_first pm_law_first an_law_first cd_law_first ct_law_first), sl_law_first⟩)
    (c_law_first : PySem.W.codeIn K cd_law_first "_law_first" = true)
    (k_law_first : PySem.W.keepIn K (.ref f_law_first) = true)
    (a_law_told_right : PySem.W.nsIn K mainGlobals "_law_told_right" = some (some (.ref f_law_told_right)))
    (l_law_told_right : K.lookup f_law_told_right = some ⟨oc_law_told_right, od_law_told_right, .func (PySem.W.fnOf "_law_told_right" "_law_told_right" (defArgs sTold) (defBody sTold) (defScope sTold) .none kV_law_told_right dc_law_told_right pm_law_told_right an_law_told_right cd_law_told_right ct_law_told_right), sl_law_told_right⟩)
    (c_law_told_right : PySem.W.codeIn K cd_law_told_right "_law_told_right" = true)
    (k_law_told_right : PySem.W.keepIn K (.ref f_law_told_right) = true)
    (a_law : PySem.W.nsIn K mainGlobals "law" = some (some (.ref f_law)))
    (l_law : K.lookup f_law = some ⟨oc_law, od_law, .func (PySem.W.fnOf "law" "law" (defArgs sLaw) (defBody sLaw) (defScope sLaw) .none kV_law dc_law pm_law an_law cd_law ct_law), sl_law⟩)
    (c_law : PySem.W.codeIn K cd_law "law" = true)
    (k_law : PySem.W.keepIn K (.ref f_law) = true)
    (z_len : PySem.W.nsIn K mainGlobals "len" = some none)
    (z_range : PySem.W.nsIn K mainGlobals "range" = some none)
    (z_isinstance : PySem.W.nsIn K mainGlobals "isinstance" = some none)
    (z_tuple : PySem.W.nsIn K mainGlobals "tuple" = some none)
    (z_bool : PySem.W.nsIn K mainGlobals "bool" = some none)
    (z_str : PySem.W.nsIn K mainGlobals "str" = some none)
    (z_int : PySem.W.nsIn K mainGlobals "int" = some none)
    (z_all : PySem.W.nsIn K mainGlobals "all" = some none)
    (z_sorted : PySem.W.nsIn K mainGlobals "sorted" = some none)
    (z_list : PySem.W.nsIn K mainGlobals "list" = some none)
    (z_zip : PySem.W.nsIn K mainGlobals "zip" = some none)
    (z_enumerate : PySem.W.nsIn K mainGlobals "enumerate" = some none)
    (z_abs : PySem.W.nsIn K mainGlobals "abs" = some none)
    (z_max : PySem.W.nsIn K mainGlobals "max" = some none)
    (z_repr : PySem.W.nsIn K mainGlobals "repr" = some none)
    (a_FORMS : PySem.W.nsIn K mainGlobals "FORMS" = some (some (.ref A_FORMS)))
    (lk_FORMS : K.lookup A_FORMS = some ⟨.type "dict", none, .dict #[⟨hF_come, .str "come" tF_come, .ref T_come⟩, ⟨hF_go, .str "go" tF_go, .ref T_go⟩, ⟨hF_send, .str "send" tF_send, .ref T_send⟩, ⟨hF_hear, .str "hear" tF_hear, .ref T_hear⟩, ⟨hF_lose, .str "lose" tF_lose, .ref T_lose⟩] n_FORMS, #[]⟩)
    (lo_FORMS : (A_FORMS == sysModules) = false)
    (eF_come : hF_come = PyData.keyHash w.params "come")
    (eF_go : hF_go = PyData.keyHash w.params "go")
    (eF_send : hF_send = PyData.keyHash w.params "send")
    (eF_hear : hF_hear = PyData.keyHash w.params "hear")
    (eF_lose : hF_lose = PyData.keyHash w.params "lose")
    (lk_T_come : K.lookup T_come = some ⟨.type "tuple", dT_come, .seq #[.ref f_is_count, .ref f_is_sort] nT_come, sT_come⟩)
    (lk_T_go : K.lookup T_go = some ⟨.type "tuple", dT_go, .seq #[.ref f_is_count] nT_go, sT_go⟩)
    (lk_T_send : K.lookup T_send = some ⟨.type "tuple", dT_send, .seq #[.ref f_is_count, .ref f_is_count, .ref f_is_aim, .ref f_is_words] nT_send, sT_send⟩)
    (lk_T_hear : K.lookup T_hear = some ⟨.type "tuple", dT_hear, .seq #[.ref f_is_count, .ref f_is_count, .ref f_is_count, .ref f_is_words] nT_hear, sT_hear⟩)
    (lk_T_lose : K.lookup T_lose = some ⟨.type "tuple", dT_lose, .seq #[.ref f_is_count, .ref f_is_count] nT_lose, sT_lose⟩)
    (a_TAKES : PySem.W.nsIn K mainGlobals "TAKES" = some (some (.ref A_TAKES)))
    (lk_TAKES : K.lookup A_TAKES = some ⟨.type "dict", none, .dict #[⟨hT_come, .str "come" tT_come, .ref f_take_come⟩, ⟨hT_go, .str "go" tT_go, .ref f_take_go⟩, ⟨hT_send, .str "send" tT_send, .ref f_take_send⟩, ⟨hT_hear, .str "hear" tT_hear, .ref f_take_hear⟩, ⟨hT_lose, .str "lose" tT_lose, .ref f_take_lose⟩] n_TAKES, #[]⟩)
    (lo_TAKES : (A_TAKES == sysModules) = false)
    (eT_come : hT_come = PyData.keyHash w.params "come")
    (eT_go : hT_go = PyData.keyHash w.params "go")
    (eT_send : hT_send = PyData.keyHash w.params "send")
    (eT_hear : hT_hear = PyData.keyHash w.params "hear")
    (eT_lose : hT_lose = PyData.keyHash w.params "lose")
    (sp_J : PySem.W.specialIn K (.ref C_Judge) "__getattribute__" = some (some (.builtin "type.__getattribute__")))
    (rd_J : PySem.W.readsIn K C_Judge (.type "type") = true)
    (v_J : PySem.W.findCls K (.ref C_Judge) (.type "type") "__init__" = some (.val (.ref f_Judge_init))) :
    ∃ fd : FuncData, (∀ (s : Shared) (v : Value), BindsTo s fd ⟨[v], []⟩ [("_law_script", v)]) ∧ ∀ base : Heap, K.In base → base.Ns mainGlobals mg → LawOk l.prog w K mg base fa fd ["_law_script"] (spLaw K) := by
  have e := hfa.symm.trans (PySem.W.mg_of X G a_law)
  cases e
  have m_HAND := PySem.W.mg_of X G a_HAND
  have m_NEVER := PySem.W.mg_of X G a_NEVER
  have m_SORTS := PySem.W.mg_of X G a_SORTS
  have m_C_Post := PySem.W.mg_of X G a_C_Post
  have cl_C_Post : Cls K C_Post := ⟨pg_C_Post, hd_C_Post, po_C_Post, sa_C_Post⟩
  have F_Post_init := fun_mk (st := sPInit) l_Post_init c_Post_init k_Post_init
  have b_Post_init := F_Post_init.binds (ps := ["self", "aim", "words", "due"]) fun _ _ _ _ _ _ us hl => match us, hl with | [_, _, _, _], _ => rfl
  have M_Post_init : Meth K C_Post "__init__" f_Post_init := ⟨a_Post_init, i_Post_init, k_Post_init⟩
  have F_Post_is_done := fun_mk (st := sPDone) l_Post_is_done c_Post_is_done k_Post_is_done
  have b_Post_is_done := F_Post_is_done.binds (ps := ["self"]) fun _ _ _ _ _ _ us hl => match us, hl with | [_], _ => rfl
  have M_Post_is_done : Meth K C_Post "is_done" f_Post_is_done := ⟨a_Post_is_done, i_Post_is_done, k_Post_is_done⟩
  have m_C_Judge := PySem.W.mg_of X G a_C_Judge
  have cl_C_Judge : Cls K C_Judge := ⟨pg_C_Judge, hd_C_Judge, po_C_Judge, sa_C_Judge⟩
  have F_Judge_init := fun_mk (st := sJInit) l_Judge_init c_Judge_init k_Judge_init
  have b_Judge_init := F_Judge_init.binds (ps := ["self"]) fun _ _ _ _ _ _ us hl => match us, hl with | [_], _ => rfl
  have M_Judge_init : Meth K C_Judge "__init__" f_Judge_init := ⟨a_Judge_init, i_Judge_init, k_Judge_init⟩
  have F_Judge_is_in_turn := fun_mk (st := sJTurn) l_Judge_is_in_turn c_Judge_is_in_turn k_Judge_is_in_turn
  have b_Judge_is_in_turn := F_Judge_is_in_turn.binds (ps := ["self", "post", "hand", "letter"]) fun _ _ _ _ _ _ us hl => match us, hl with | [_, _, _, _], _ => rfl
  have M_Judge_is_in_turn : Meth K C_Judge "is_in_turn" f_Judge_is_in_turn := ⟨a_Judge_is_in_turn, i_Judge_is_in_turn, k_Judge_is_in_turn⟩
  have F_Judge_come := fun_mk (st := sJCome) l_Judge_come c_Judge_come k_Judge_come
  have b_Judge_come := F_Judge_come.binds (ps := ["self", "hand", "sort"]) fun _ _ _ _ _ _ us hl => match us, hl with | [_, _, _], _ => rfl
  have M_Judge_come : Meth K C_Judge "come" f_Judge_come := ⟨a_Judge_come, i_Judge_come, k_Judge_come⟩
  have F_Judge_go := fun_mk (st := sJGo) l_Judge_go c_Judge_go k_Judge_go
  have b_Judge_go := F_Judge_go.binds (ps := ["self", "hand"]) fun _ _ _ _ _ _ us hl => match us, hl with | [_, _], _ => rfl
  have M_Judge_go : Meth K C_Judge "go" f_Judge_go := ⟨a_Judge_go, i_Judge_go, k_Judge_go⟩
  have F_Judge_due_of := fun_mk (st := sJDue) l_Judge_due_of c_Judge_due_of k_Judge_due_of
  have b_Judge_due_of := F_Judge_due_of.binds (ps := ["self", "sender", "hearer"]) fun _ _ _ _ _ _ us hl => match us, hl with | [_, _, _], _ => rfl
  have M_Judge_due_of : Meth K C_Judge "due_of" f_Judge_due_of := ⟨a_Judge_due_of, i_Judge_due_of, k_Judge_due_of⟩
  have F_Judge_send := fun_mk (st := sJSend) l_Judge_send c_Judge_send k_Judge_send
  have b_Judge_send := F_Judge_send.binds (ps := ["self", "sender", "number", "hearer", "words"]) fun _ _ _ _ _ _ us hl => match us, hl with | [_, _, _, _, _], _ => rfl
  have M_Judge_send : Meth K C_Judge "send" f_Judge_send := ⟨a_Judge_send, i_Judge_send, k_Judge_send⟩
  have F_Judge_is_for := fun_mk (st := sJFor) l_Judge_is_for c_Judge_is_for k_Judge_is_for
  have b_Judge_is_for := F_Judge_is_for.binds (ps := ["self", "post", "hand", "sender"]) fun _ _ _ _ _ _ us hl => match us, hl with | [_, _, _, _], _ => rfl
  have M_Judge_is_for : Meth K C_Judge "is_for" f_Judge_is_for := ⟨a_Judge_is_for, i_Judge_is_for, k_Judge_is_for⟩
  have F_Judge_hear := fun_mk (st := sJHear) l_Judge_hear c_Judge_hear k_Judge_hear
  have b_Judge_hear := F_Judge_hear.binds (ps := ["self", "hand", "sender", "number", "words"]) fun _ _ _ _ _ _ us hl => match us, hl with | [_, _, _, _, _], _ => rfl
  have M_Judge_hear : Meth K C_Judge "hear" f_Judge_hear := ⟨a_Judge_hear, i_Judge_hear, k_Judge_hear⟩
  have F_Judge_lose := fun_mk (st := sJLose) l_Judge_lose c_Judge_lose k_Judge_lose
  have b_Judge_lose := F_Judge_lose.binds (ps := ["self", "sender", "number"]) fun _ _ _ _ _ _ us hl => match us, hl with | [_, _, _], _ => rfl
  have M_Judge_lose : Meth K C_Judge "lose" f_Judge_lose := ⟨a_Judge_lose, i_Judge_lose, k_Judge_lose⟩
  have F_Judge_is_right_end := fun_mk (st := sJEnd) l_Judge_is_right_end c_Judge_is_right_end k_Judge_is_right_end
  have b_Judge_is_right_end := F_Judge_is_right_end.binds (ps := ["self", "waiting"]) fun _ _ _ _ _ _ us hl => match us, hl with | [_, _], _ => rfl
  have M_Judge_is_right_end : Meth K C_Judge "is_right_end" f_Judge_is_right_end := ⟨a_Judge_is_right_end, i_Judge_is_right_end, k_Judge_is_right_end⟩
  have m_C_JudgeOnce := PySem.W.mg_of X G a_C_JudgeOnce
  have cl_C_JudgeOnce : Cls K C_JudgeOnce := ⟨pg_C_JudgeOnce, hd_C_JudgeOnce, po_C_JudgeOnce, sa_C_JudgeOnce⟩
  have F_JudgeOnce_is_in_turn := fun_mk (st := sOTurn) l_JudgeOnce_is_in_turn c_JudgeOnce_is_in_turn k_JudgeOnce_is_in_turn
  have b_JudgeOnce_is_in_turn := F_JudgeOnce_is_in_turn.binds (ps := ["self", "post", "hand", "letter"]) fun _ _ _ _ _ _ us hl => match us, hl with | [_, _, _, _], _ => rfl
  have M_JudgeOnce_is_in_turn : Meth K C_JudgeOnce "is_in_turn" f_JudgeOnce_is_in_turn := ⟨a_JudgeOnce_is_in_turn, i_JudgeOnce_is_in_turn, k_JudgeOnce_is_in_turn⟩
  have M_JudgeOnce_init : Meth K C_JudgeOnce "__init__" f_Judge_init := ⟨a_JudgeOnce_init, i_Judge_init, k_Judge_init⟩
  have M_JudgeOnce_come : Meth K C_JudgeOnce "come" f_Judge_come := ⟨a_JudgeOnce_come, i_Judge_come, k_Judge_come⟩
  have M_JudgeOnce_go : Meth K C_JudgeOnce "go" f_Judge_go := ⟨a_JudgeOnce_go, i_Judge_go, k_Judge_go⟩
  have M_JudgeOnce_due_of : Meth K C_JudgeOnce "due_of" f_Judge_due_of := ⟨a_JudgeOnce_due_of, i_Judge_due_of, k_Judge_due_of⟩
  have M_JudgeOnce_send : Meth K C_JudgeOnce "send" f_Judge_send := ⟨a_JudgeOnce_send, i_Judge_send, k_Judge_send⟩
  have M_JudgeOnce_is_for : Meth K C_JudgeOnce "is_for" f_Judge_is_for := ⟨a_JudgeOnce_is_for, i_Judge_is_for, k_Judge_is_for⟩
  have M_JudgeOnce_hear : Meth K C_JudgeOnce "hear" f_Judge_hear := ⟨a_JudgeOnce_hear, i_Judge_hear, k_Judge_hear⟩
  have M_JudgeOnce_lose : Meth K C_JudgeOnce "lose" f_Judge_lose := ⟨a_JudgeOnce_lose, i_Judge_lose, k_Judge_lose⟩
  have M_JudgeOnce_is_right_end : Meth K C_JudgeOnce "is_right_end" f_Judge_is_right_end := ⟨a_JudgeOnce_is_right_end, i_Judge_is_right_end, k_Judge_is_right_end⟩
  have m_C_JudgeTurn := PySem.W.mg_of X G a_C_JudgeTurn
  have cl_C_JudgeTurn : Cls K C_JudgeTurn := ⟨pg_C_JudgeTurn, hd_C_JudgeTurn, po_C_JudgeTurn, sa_C_JudgeTurn⟩
  have F_JudgeTurn_init := fun_mk (st := sTInit) l_JudgeTurn_init c_JudgeTurn_init k_JudgeTurn_init
  have b_JudgeTurn_init := F_JudgeTurn_init.binds (ps := ["self"]) fun _ _ _ _ _ _ us hl => match us, hl with | [_], _ => rfl
  have M_JudgeTurn_init : Meth K C_JudgeTurn "__init__" f_JudgeTurn_init := ⟨a_JudgeTurn_init, i_JudgeTurn_init, k_JudgeTurn_init⟩
  have F_JudgeTurn_is_in_turn := fun_mk (st := sTTurn) l_JudgeTurn_is_in_turn c_JudgeTurn_is_in_turn k_JudgeTurn_is_in_turn
  have b_JudgeTurn_is_in_turn := F_JudgeTurn_is_in_turn.binds (ps := ["self", "post", "hand", "letter"]) fun _ _ _ _ _ _ us hl => match us, hl with | [_, _, _, _], _ => rfl
  have M_JudgeTurn_is_in_turn : Meth K C_JudgeTurn "is_in_turn" f_JudgeTurn_is_in_turn := ⟨a_JudgeTurn_is_in_turn, i_JudgeTurn_is_in_turn, k_JudgeTurn_is_in_turn⟩
  have M_JudgeTurn_come : Meth K C_JudgeTurn "come" f_Judge_come := ⟨a_JudgeTurn_come, i_Judge_come, k_Judge_come⟩
  have M_JudgeTurn_go : Meth K C_JudgeTurn "go" f_Judge_go := ⟨a_JudgeTurn_go, i_Judge_go, k_Judge_go⟩
  have M_JudgeTurn_due_of : Meth K C_JudgeTurn "due_of" f_Judge_due_of := ⟨a_JudgeTurn_due_of, i_Judge_due_of, k_Judge_due_of⟩
  have M_JudgeTurn_send : Meth K C_JudgeTurn "send" f_Judge_send := ⟨a_JudgeTurn_send, i_Judge_send, k_Judge_send⟩
  have M_JudgeTurn_is_for : Meth K C_JudgeTurn "is_for" f_Judge_is_for := ⟨a_JudgeTurn_is_for, i_Judge_is_for, k_Judge_is_for⟩
  have M_JudgeTurn_hear : Meth K C_JudgeTurn "hear" f_Judge_hear := ⟨a_JudgeTurn_hear, i_Judge_hear, k_Judge_hear⟩
  have M_JudgeTurn_lose : Meth K C_JudgeTurn "lose" f_Judge_lose := ⟨a_JudgeTurn_lose, i_Judge_lose, k_Judge_lose⟩
  have M_JudgeTurn_is_right_end : Meth K C_JudgeTurn "is_right_end" f_Judge_is_right_end := ⟨a_JudgeTurn_is_right_end, i_Judge_is_right_end, k_Judge_is_right_end⟩
  have F_is_whole := fun_mk (st := sWholeQ) l_is_whole c_is_whole k_is_whole
  have b_is_whole := F_is_whole.binds (ps := ["thing"]) fun _ _ _ _ _ _ us hl => match us, hl with | [_], _ => rfl
  have m_is_whole := PySem.W.mg_of X G a_is_whole
  have F_is_count := fun_mk (st := sCount) l_is_count c_is_count k_is_count
  have b_is_count := F_is_count.binds (ps := ["thing"]) fun _ _ _ _ _ _ us hl => match us, hl with | [_], _ => rfl
  have m_is_count := PySem.W.mg_of X G a_is_count
  have F_is_sort := fun_mk (st := sSort) l_is_sort c_is_sort k_is_sort
  have b_is_sort := F_is_sort.binds (ps := ["thing"]) fun _ _ _ _ _ _ us hl => match us, hl with | [_], _ => rfl
  have m_is_sort := PySem.W.mg_of X G a_is_sort
  have F_is_aim := fun_mk (st := sAim) l_is_aim c_is_aim k_is_aim
  have b_is_aim := F_is_aim.binds (ps := ["thing"]) fun _ _ _ _ _ _ us hl => match us, hl with | [_], _ => rfl
  have m_is_aim := PySem.W.mg_of X G a_is_aim
  have F_is_words := fun_mk (st := sWords) l_is_words c_is_words k_is_words
  have b_is_words := F_is_words.binds (ps := ["thing"]) fun _ _ _ _ _ _ us hl => match us, hl with | [_], _ => rfl
  have m_is_words := PySem.W.mg_of X G a_is_words
  have F_is_form := fun_mk (st := sForm) l_is_form c_is_form k_is_form
  have b_is_form := F_is_form.binds (ps := ["row"]) fun _ _ _ _ _ _ us hl => match us, hl with | [_], _ => rfl
  have m_is_form := PySem.W.mg_of X G a_is_form
  have F_take_come := fun_mk (st := sTkCome) l_take_come c_take_come k_take_come
  have b_take_come := F_take_come.binds (ps := ["judge", "parts"]) fun _ _ _ _ _ _ us hl => match us, hl with | [_, _], _ => rfl
  have m_take_come := PySem.W.mg_of X G a_take_come
  have F_take_go := fun_mk (st := sTkGo) l_take_go c_take_go k_take_go
  have b_take_go := F_take_go.binds (ps := ["judge", "parts"]) fun _ _ _ _ _ _ us hl => match us, hl with | [_, _], _ => rfl
  have m_take_go := PySem.W.mg_of X G a_take_go
  have F_take_send := fun_mk (st := sTkSend) l_take_send c_take_send k_take_send
  have b_take_send := F_take_send.binds (ps := ["judge", "parts"]) fun _ _ _ _ _ _ us hl => match us, hl with | [_, _], _ => rfl
  have m_take_send := PySem.W.mg_of X G a_take_send
  have F_take_hear := fun_mk (st := sTkHear) l_take_hear c_take_hear k_take_hear
  have b_take_hear := F_take_hear.binds (ps := ["judge", "parts"]) fun _ _ _ _ _ _ us hl => match us, hl with | [_, _], _ => rfl
  have m_take_hear := PySem.W.mg_of X G a_take_hear
  have F_take_lose := fun_mk (st := sTkLose) l_take_lose c_take_lose k_take_lose
  have b_take_lose := F_take_lose.binds (ps := ["judge", "parts"]) fun _ _ _ _ _ _ us hl => match us, hl with | [_, _], _ => rfl
  have m_take_lose := PySem.W.mg_of X G a_take_lose
  have F_judge_of := fun_mk (st := sJOf) l_judge_of c_judge_of k_judge_of
  have b_judge_of := F_judge_of.binds (ps := ["kind"]) fun _ _ _ _ _ _ us hl => match us, hl with | [_], _ => rfl
  have m_judge_of := PySem.W.mg_of X G a_judge_of
  have F_is_pair := fun_mk (st := sPair) l_is_pair c_is_pair k_is_pair
  have b_is_pair := F_is_pair.binds (ps := ["thing"]) fun _ _ _ _ _ _ us hl => match us, hl with | [_], _ => rfl
  have m_is_pair := PySem.W.mg_of X G a_is_pair
  have F_is_rising := fun_mk (st := sRising) l_is_rising c_is_rising k_is_rising
  have b_is_rising := F_is_rising.binds (ps := ["thing"]) fun _ _ _ _ _ _ us hl => match us, hl with | [_], _ => rfl
  have m_is_rising := PySem.W.mg_of X G a_is_rising
  have F_first_wrong := fun_mk (st := sFirst) l_first_wrong c_first_wrong k_first_wrong
  have b_first_wrong := F_first_wrong.binds (ps := ["kind", "paper"]) fun _ _ _ _ _ _ us hl => match us, hl with | [_, _], _ => rfl
  have m_first_wrong := PySem.W.mg_of X G a_first_wrong
  have F_law_mixed := fun_mk (st := sMixed4) l_law_mixed c_law_mixed k_law_mixed
  have b_law_mixed := F_law_mixed.binds (ps := ["_law_cell", "_law_turn"]) fun _ _ _ _ _ _ us hl => match us, hl with | [_, _], _ => rfl
  have m_law_mixed := PySem.W.mg_of X G a_law_mixed
  have F_law_deck := fun_mk (st := sDeck4) l_law_deck c_law_deck k_law_deck
  have b_law_deck := F_law_deck.binds (ps := ["_law_script"]) fun _ _ _ _ _ _ us hl => match us, hl with | [_], _ => rfl
  have m_law_deck := PySem.W.mg_of X G a_law_deck
  have F_law_next := fun_mk (st := sNext4) l_law_next c_law_next k_law_next
  have b_law_next := F_law_next.binds (ps := ["_law_deck_here", "_law_many"]) fun _ _ _ _ _ _ us hl => match us, hl with | [_, _], _ => rfl
  have m_law_next := PySem.W.mg_of X G a_law_next
  have F_law_one := fun_mk (st := sOne4) l_law_one c_law_one k_law_one
  have b_law_one := F_law_one.binds (ps := ["_law_deck_here", "_law_things"]) fun _ _ _ _ _ _ us hl => match us, hl with | [_, _], _ => rfl
  have m_law_one := PySem.W.mg_of X G a_law_one
  have F_law_sent_right := fun_mk (st := sSentR) l_law_sent_right c_law_sent_right k_law_sent_right
  have b_law_sent_right := F_law_sent_right.binds (ps := ["_law_row", "_law_stands"]) fun _ _ _ _ _ _ us hl => match us, hl with | [_, _], _ => rfl
  have m_law_sent_right := PySem.W.mg_of X G a_law_sent_right
  have F_law_heard_right := fun_mk (st := sHeardR) l_law_heard_right c_law_heard_right k_law_heard_right
  have b_law_heard_right := F_law_heard_right.binds (ps := ["_law_kind", "_law_row", "_law_stands"]) fun _ _ _ _ _ _ us hl => match us, hl with | [_, _, _], _ => rfl
  have m_law_heard_right := PySem.W.mg_of X G a_law_heard_right
  have F_law_row_right := fun_mk (st := sRowR) l_law_row_right c_law_row_right k_law_row_right
  have b_law_row_right := F_law_row_right.binds (ps := ["_law_kind", "_law_row", "_law_stands"]) fun _ _ _ _ _ _ us hl => match us, hl with | [_, _, _], _ => rfl
  have m_law_row_right := PySem.W.mg_of X G a_law_row_right
  have F_law_end_right := fun_mk (st := sEndR) l_law_end_right c_law_end_right k_law_end_right
  have b_law_end_right := F_law_end_right.binds (ps := ["_law_stands", "_law_waiting"]) fun _ _ _ _ _ _ us hl => match us, hl with | [_, _], _ => rfl
  have m_law_end_right := PySem.W.mg_of X G a_law_end_right
  have F_law_next_row := fun_mk (st := sNextR) l_law_next_row c_law_next_row k_law_next_row
  have b_law_next_row := F_law_next_row.binds (ps := ["_law_deck_here", "_law_stands", "_law_spoil"]) fun _ _ _ _ _ _ us hl => match us, hl with | [_, _, _], _ => rfl
  have m_law_next_row := PySem.W.mg_of X G a_law_next_row
  have F_law_paper := fun_mk (st := sPaper) l_law_paper c_law_paper k_law_paper
  have b_law_paper := F_law_paper.binds (ps := ["_law_deck_here", "_law_kind", "_law_spoil"]) fun _ _ _ _ _ _ us hl => match us, hl with | [_, _, _], _ => rfl
  have m_law_paper := PySem.W.mg_of X G a_law_paper
  have F_is_plain := fun_mk (st := sPlain) l_is_plain c_is_plain k_is_plain
  have b_is_plain := F_is_plain.binds (ps := ["kind", "thing"]) fun _ _ _ _ _ _ us hl => match us, hl with | [_, _], _ => rfl
  have m_is_plain := PySem.W.mg_of X G a_is_plain
  have F_law_odd := fun_mk (st := sOddL) l_law_odd c_law_odd k_law_odd
  have b_law_odd := F_law_odd.binds (ps := ["_law_deck_here"]) fun _ _ _ _ _ _ us hl => match us, hl with | [_], _ => rfl
  have m_law_odd := PySem.W.mg_of X G a_law_odd
  have F_law_spoilt := fun_mk (st := sSpoilt) l_law_spoilt c_law_spoilt k_law_spoilt
  have b_law_spoilt := F_law_spoilt.binds (ps := ["_law_deck_here", "_law_thing", "_law_deep"]) fun _ _ _ _ _ _ us hl => match us, hl with | [_, _, _], _ => rfl
  have m_law_spoilt := PySem.W.mg_of X G a_law_spoilt
  have F_law_number := fun_mk (st := sNumL) l_law_number c_law_number k_law_number
  have b_law_number := F_law_number.binds (ps := ["_law_thing"]) fun _ _ _ _ _ _ us hl => match us, hl with | [_], _ => rfl
  have m_law_number := PySem.W.mg_of X G a_law_number
  have F_law_form := fun_mk (st := sFormL) l_law_form c_law_form k_law_form
  have b_law_form := F_law_form.binds (ps := ["_law_row"]) fun _ _ _ _ _ _ us hl => match us, hl with | [_], _ => rfl
  have m_law_form := PySem.W.mg_of X G a_law_form
  have F_law_open := fun_mk (st := sOpenL) l_law_open c_law_open k_law_open
  have b_law_open := F_law_open.binds (ps := ["_law_waiting"]) fun _ _ _ _ _ _ us hl => match us, hl with | [_], _ => rfl
  have m_law_open := PySem.W.mg_of X G a_law_open
  have F_law_first := fun_mk (st := sFirstL) l_law_first c_law_first k_law_first
  have b_law_first := F_law_first.binds (ps := ["_law_kind", "_law_rows", "_law_waiting"]) fun _ _ _ _ _ _ us hl => match us, hl with | [_, _, _], _ => rfl
  have m_law_first := PySem.W.mg_of X G a_law_first
  have F_law_told_right := fun_mk (st := sTold) l_law_told_right c_law_told_right k_law_told_right
  have b_law_told_right := F_law_told_right.binds (ps := ["_law_kind", "_law_thing"]) fun _ _ _ _ _ _ us hl => match us, hl with | [_, _], _ => rfl
  have m_law_told_right := PySem.W.mg_of X G a_law_told_right
  have F_law := fun_mk (st := sLaw) l_law c_law k_law
  have b_law := F_law.binds (ps := ["_law_script"]) fun _ _ _ _ _ _ us hl => match us, hl with | [_], _ => rfl
  have n_len := PySem.W.mg_none_of X G z_len
  have n_range := PySem.W.mg_none_of X G z_range
  have n_isinstance := PySem.W.mg_none_of X G z_isinstance
  have n_tuple := PySem.W.mg_none_of X G z_tuple
  have n_bool := PySem.W.mg_none_of X G z_bool
  have n_str := PySem.W.mg_none_of X G z_str
  have n_int := PySem.W.mg_none_of X G z_int
  have n_all := PySem.W.mg_none_of X G z_all
  have n_sorted := PySem.W.mg_none_of X G z_sorted
  have n_list := PySem.W.mg_none_of X G z_list
  have n_zip := PySem.W.mg_none_of X G z_zip
  have n_enumerate := PySem.W.mg_none_of X G z_enumerate
  have n_abs := PySem.W.mg_none_of X G z_abs
  have n_max := PySem.W.mg_none_of X G z_max
  have n_repr := PySem.W.mg_none_of X G z_repr
  refine ⟨PySem.W.fnOf "law" "law" (defArgs sLaw) (defBody sLaw) (defScope sLaw) .none kV_law dc_law pm_law an_law cd_law ct_law, fun s v => .of_eq rfl, fun base _ _ => ?_⟩
  let c : Pc := ⟨C_Post, fun κ => match κ with | .lo => C_Judge | .on => C_JudgeOnce | .tu => C_JudgeTurn⟩
  have TJ : TJd K c := ⟨fun κ => match κ with | .lo => cl_C_Judge | .on => cl_C_JudgeOnce | .tu => cl_C_JudgeTurn, fun κ => match κ with | .lo => n_C_Judge_present | .on => n_C_JudgeOnce_present | .tu => n_C_JudgeTurn_present, fun κ => match κ with | .lo => n_C_Judge_posts | .on => n_C_JudgeOnce_posts | .tu => n_C_JudgeTurn_posts, fun κ => match κ with | .lo => n_C_Judge_newest | .on => n_C_JudgeOnce_newest | .tu => n_C_JudgeTurn_newest, n_C_JudgeTurn_heights⟩
  have TP : TPo K c := ⟨cl_C_Post, n_C_Post_aim, n_C_Post_words, n_C_Post_due, n_C_Post_ears, n_C_Post_is_lost⟩
  have JBx : JB mg := ⟨n_all, ⟨_, m_HAND⟩, ⟨_, m_NEVER⟩⟩
  have PBx : PB mg := ⟨n_isinstance, n_int, n_bool, n_str, n_tuple, n_len, n_all, n_zip, n_enumerate⟩
  have sq2 : ∀ {p a b : Addr} {d : Option Addr} {n : Nat} {sl : Array (Option Value)}, K.lookup p = some ⟨.type "tuple", d, .seq #[.ref a, .ref b] n, sl⟩ → ∀ H, SqT K H p [.ref a, .ref b] := fun h H => .inr ⟨_, _, _, h, rfl, rfl, (by show 2 ≤ sizeLine; decide), .cons rfl (.cons rfl .nil)⟩
  have sq1 : ∀ {p a : Addr} {d : Option Addr} {n : Nat} {sl : Array (Option Value)}, K.lookup p = some ⟨.type "tuple", d, .seq #[.ref a] n, sl⟩ → ∀ H, SqT K H p [.ref a] := fun h H => .inr ⟨_, _, _, h, rfl, rfl, (by show 1 ≤ sizeLine; decide), .cons rfl .nil⟩
  have sq4 : ∀ {p a b c e : Addr} {d : Option Addr} {n : Nat} {sl : Array (Option Value)}, K.lookup p = some ⟨.type "tuple", d, .seq #[.ref a, .ref b, .ref c, .ref e] n, sl⟩ → ∀ H, SqT K H p [.ref a, .ref b, .ref c, .ref e] := fun h H => .inr ⟨_, _, _, h, rfl, rfl, (by show 4 ≤ sizeLine; decide), .cons rfl (.cons rfl (.cons rfl (.cons rfl .nil)))⟩
  have PTx : PT K w mg (lkF f_is_count f_is_sort f_is_aim f_is_words) (t5 f_take_come f_take_go f_take_send f_take_hear f_take_lose) := ⟨⟨A_SORTS, m_SORTS, fun H => .inr ⟨_, _, _, lk_SORTS, rfl, rfl, (by show 2 ≤ sizeLine; decide), .cons ⟨_, rfl⟩ (.cons ⟨_, rfl⟩ .nil)⟩⟩, ⟨A_FORMS, _, _, t5 T_come T_go T_send T_hear T_lose, PySem.W.mg_of X G a_FORMS, kd5 lk_FORMS lo_FORMS eF_come eF_go eF_send eF_hear eF_lose, look5 lk_FORMS, forms5 (sq2 lk_T_come) (sq1 lk_T_go) (sq4 lk_T_send) (sq4 lk_T_hear) (sq2 lk_T_lose)⟩, ⟨A_TAKES, _, _, PySem.W.mg_of X G a_TAKES, kd5 lk_TAKES lo_TAKES eT_come eT_go eT_send eT_hear eT_lose, takes5 lk_TAKES⟩⟩
  have cW : Cd l.prog w K mg base 1 "is_whole" ["thing"] spWholeQ := ⟨_, _, ok_wholeq F_is_whole PBx, m_is_whole, k_is_whole, b_is_whole⟩
  have cC : Cd l.prog w K mg base 2 "is_count" ["thing"] (spLook .cnt) := ⟨_, _, ok_count F_is_count cW, m_is_count, k_is_count, b_is_count⟩
  have HL : ∀ f sp, SLk (lkF f_is_count f_is_sort f_is_aim f_is_words) f sp → Held l.prog w K mg base 3 f sp := by
    rintro f sp ⟨lo, rfl, rfl⟩
    cases lo with
    | cnt => exact ⟨⟨_, _, (ok_count F_is_count cW).mono (by decide), k_is_count, b_is_count⟩⟩
    | srt => exact ⟨⟨_, _, (ok_sort F_is_sort PBx PTx).mono (by decide), k_is_sort, b_is_sort⟩⟩
    | aim => exact ⟨⟨_, _, ok_aim F_is_aim cC, k_is_aim, b_is_aim⟩⟩
    | wrd => exact ⟨⟨_, _, (ok_words F_is_words PBx).mono (by decide), k_is_words, b_is_words⟩⟩
  have cFm : Cd l.prog w K mg base 4 "is_form" ["row"] spForm := ⟨_, _, ok_form F_is_form PBx PTx HL, m_is_form, k_is_form, b_is_form⟩
  have cPr : Cd l.prog w K mg base 3 "is_pair" ["thing"] spPair := ⟨_, _, ok_pair F_is_pair PBx cC, m_is_pair, k_is_pair, b_is_pair⟩
  have cRi : Cd l.prog w K mg base 4 "is_rising" ["thing"] spRising := ⟨_, _, ok_rising F_is_rising PBx cPr, m_is_rising, k_is_rising, b_is_rising⟩
  have nP : Nw0 l.prog w K mg base 1 c.P "Post" ["self", "aim", "words", "due"] (spPInit c) := ⟨_, _, ok_pinit F_Post_init TP, ⟨mk_C_Post, a_Post_init, i_Post_init, kc_C_Post⟩, m_C_Post, b_Post_init⟩
  have dn : Md l.prog w K mg base 1 c.P "is_done" ["self"] (spPDone c) := ⟨_, _, ok_pdone F_Post_is_done TP JBx, M_Post_is_done, b_Post_is_done⟩
  have m_come : ∀ κ, Meth K (c.J κ) "come" f_Judge_come := fun κ => match κ with | .lo => M_Judge_come | .on => M_JudgeOnce_come | .tu => M_JudgeTurn_come
  have m_go : ∀ κ, Meth K (c.J κ) "go" f_Judge_go := fun κ => match κ with | .lo => M_Judge_go | .on => M_JudgeOnce_go | .tu => M_JudgeTurn_go
  have m_send : ∀ κ, Meth K (c.J κ) "send" f_Judge_send := fun κ => match κ with | .lo => M_Judge_send | .on => M_JudgeOnce_send | .tu => M_JudgeTurn_send
  have m_hear : ∀ κ, Meth K (c.J κ) "hear" f_Judge_hear := fun κ => match κ with | .lo => M_Judge_hear | .on => M_JudgeOnce_hear | .tu => M_JudgeTurn_hear
  have m_lose : ∀ κ, Meth K (c.J κ) "lose" f_Judge_lose := fun κ => match κ with | .lo => M_Judge_lose | .on => M_JudgeOnce_lose | .tu => M_JudgeTurn_lose
  have m_is_right_end : ∀ κ, Meth K (c.J κ) "is_right_end" f_Judge_is_right_end := fun κ => match κ with | .lo => M_Judge_is_right_end | .on => M_JudgeOnce_is_right_end | .tu => M_JudgeTurn_is_right_end
  have m_due_of : ∀ κ, Meth K (c.J κ) "due_of" f_Judge_due_of := fun κ => match κ with | .lo => M_Judge_due_of | .on => M_JudgeOnce_due_of | .tu => M_JudgeTurn_due_of
  have m_is_for : ∀ κ, Meth K (c.J κ) "is_for" f_Judge_is_for := fun κ => match κ with | .lo => M_Judge_is_for | .on => M_JudgeOnce_is_for | .tu => M_JudgeTurn_is_for
  have mTurn : ∀ κ, Md l.prog w K mg base 1 (c.J κ) "is_in_turn" ["self", "post", "hand", "letter"] (spTurn c κ) := fun κ => match κ with | .lo => ⟨_, _, ok_jturn F_Judge_is_in_turn, M_Judge_is_in_turn, b_Judge_is_in_turn⟩ | .on => ⟨_, _, ok_oturn F_JudgeOnce_is_in_turn TP, M_JudgeOnce_is_in_turn, b_JudgeOnce_is_in_turn⟩ | .tu => ⟨_, _, ok_tturn F_JudgeTurn_is_in_turn TJ JBx, M_JudgeTurn_is_in_turn, b_JudgeTurn_is_in_turn⟩
  have mDue : ∀ κ, Md l.prog w K mg base 1 (c.J κ) "due_of" ["self", "sender", "hearer"] (spDue c κ) := fun κ => ⟨_, _, ok_jdue F_Judge_due_of TJ JBx, m_due_of κ, b_Judge_due_of⟩
  have mFor : ∀ κ, Md l.prog w K mg base 1 (c.J κ) "is_for" ["self", "post", "hand", "sender"] (spFor c κ) := fun κ => ⟨_, _, ok_jfor F_Judge_is_for TJ TP JBx, m_is_for κ, b_Judge_is_for⟩
  have HT : ∀ f sp, STk K c (t5 f_take_come f_take_go f_take_send f_take_hear f_take_lose) f sp → Held l.prog w K mg base 4 f sp := by
    rintro f sp ⟨r, rfl, rfl⟩
    cases r with
    | come => exact ⟨⟨_, _, ok_tkcome F_take_come TJ (fM := fun _ => f_Judge_come) m_come (fun κ => (ok_jcome F_Judge_come TJ).mono (by decide)) (fun _ => b_Judge_come), k_take_come, b_take_come⟩⟩
    | go => exact ⟨⟨_, _, ok_tkgo F_take_go TJ (fM := fun _ => f_Judge_go) m_go (fun κ => (ok_jgo F_Judge_go TJ).mono (by decide)) (fun _ => b_Judge_go), k_take_go, b_take_go⟩⟩
    | send => exact ⟨⟨_, _, ok_tksend F_take_send TJ (fM := fun _ => f_Judge_send) m_send (fun κ => ok_jsend F_Judge_send TJ TP JBx nP (mDue κ)) (fun _ => b_Judge_send), k_take_send, b_take_send⟩⟩
    | hear => exact ⟨⟨_, _, ok_tkhear F_take_hear TJ (fM := fun _ => f_Judge_hear) m_hear (fun κ => ok_jhear F_Judge_hear TJ TP (mFor κ) (mTurn κ)) (fun _ => b_Judge_hear), k_take_hear, b_take_hear⟩⟩
    | lose => exact ⟨⟨_, _, ok_tklose F_take_lose TJ (fM := fun _ => f_Judge_lose) m_lose (fun κ => (ok_jlose F_Judge_lose TJ TP).mono (by decide)) (fun _ => b_Judge_lose), k_take_lose, b_take_lose⟩⟩
  have nL : Nw0 l.prog w K mg base 1 (c.J .lo) "Judge" ["self"] (spJInit c .lo) := ⟨_, _, ok_jinit F_Judge_init TJ, ⟨mk_C_Judge, a_Judge_init, i_Judge_init, kc_C_Judge⟩, m_C_Judge, b_Judge_init⟩
  have nO : Nw0 l.prog w K mg base 1 (c.J .on) "JudgeOnce" ["self"] (spJInit c .on) := ⟨_, _, ok_jinit F_Judge_init TJ, ⟨mk_C_JudgeOnce, a_JudgeOnce_init, i_Judge_init, kc_C_JudgeOnce⟩, m_C_JudgeOnce, b_Judge_init⟩
  have nT : Nw0 l.prog w K mg base 2 (c.J .tu) "JudgeTurn" ["self"] (spTInit c) := ⟨_, _, ok_tinit F_JudgeTurn_init TJ m_C_Judge sp_J rd_J v_J k_Judge_init (ok_jinit F_Judge_init TJ) b_Judge_init, ⟨mk_C_JudgeTurn, a_JudgeTurn_init, i_JudgeTurn_init, kc_C_JudgeTurn⟩, m_C_JudgeTurn, b_JudgeTurn_init⟩
  have cJ : Cd l.prog w K mg base 4 "judge_of" ["kind"] (spJOf c) := ⟨_, _, ok_jof F_judge_of nL nO nT, m_judge_of, k_judge_of, b_judge_of⟩
  have cFw : Cd l.prog w K mg base 5 "first_wrong" ["kind", "paper"] spFirst := ⟨_, _, ok_first F_first_wrong PBx PTx TJ HT cJ cFm cRi (fE := fun _ => f_Judge_is_right_end) m_is_right_end (fun κ => (ok_jend F_Judge_is_right_end TJ TP JBx dn).mono (by decide)) (fun _ => b_Judge_is_right_end), m_first_wrong, k_first_wrong, b_first_wrong⟩
  have K6 : KB6 mg := ⟨n_sorted, n_list, n_int, n_range, n_len, n_tuple, n_max⟩
  have K9 : KB9 mg := ⟨n_isinstance, n_str, n_int, n_bool, n_tuple, n_list, n_range, n_len⟩
  have K8 : KB8 mg := ⟨n_repr, n_range, n_isinstance, n_len, n_tuple⟩
  have cM : Cd l.prog w K mg base 1 "_law_mixed" ["_law_cell", "_law_turn"] spMixed4 := ⟨_, _, ok_mixed4 F_law_mixed, m_law_mixed, k_law_mixed, b_law_mixed⟩
  have cN : Cd l.prog w K mg base 2 "_law_next" ["_law_deck_here", "_law_many"] spNext4 := ⟨_, _, ok_next4 F_law_next n_len cM, m_law_next, k_law_next, b_law_next⟩
  have cO : Cd l.prog w K mg base 3 "_law_one" ["_law_deck_here", "_law_things"] (spOne4 K) := ⟨_, _, ok_one4 F_law_one n_len cN, m_law_one, k_law_one, b_law_one⟩
  have cD : Cd l.prog w K mg base 1 "_law_deck" ["_law_script"] (spDeck4 K) := ⟨_, _, ok_deck4 F_law_deck n_abs, m_law_deck, k_law_deck, b_law_deck⟩
  have cSR : Cd l.prog w K mg base 1 "_law_sent_right" ["_law_row", "_law_stands"] spSentR := ⟨_, _, ok_sentR F_law_sent_right, m_law_sent_right, k_law_sent_right, b_law_sent_right⟩
  have cHR : Cd l.prog w K mg base 1 "_law_heard_right" ["_law_kind", "_law_row", "_law_stands"] spHeardR := ⟨_, _, ok_heardR F_law_heard_right, m_law_heard_right, k_law_heard_right, b_law_heard_right⟩
  have cRR : Cd l.prog w K mg base 2 "_law_row_right" ["_law_kind", "_law_row", "_law_stands"] spRowR := ⟨_, _, ok_rowR F_law_row_right cSR cHR, m_law_row_right, k_law_row_right, b_law_row_right⟩
  have cER : Cd l.prog w K mg base 1 "_law_end_right" ["_law_stands", "_law_waiting"] (spEndR K) := ⟨_, _, ok_endR F_law_end_right, m_law_end_right, k_law_end_right, b_law_end_right⟩
  have cNR : Cd l.prog w K mg base 4 "_law_next_row" ["_law_deck_here", "_law_stands", "_law_spoil"] spNextR := ⟨_, _, ok_nextR F_law_next_row K6 cN cO, m_law_next_row, k_law_next_row, b_law_next_row⟩
  have cPa : Cd l.prog w K mg base 5 "_law_paper" ["_law_deck_here", "_law_kind", "_law_spoil"] spPaper := ⟨_, _, ok_paper F_law_paper K6 cN cNR cRR, m_law_paper, k_law_paper, b_law_paper⟩
  have cPl : Cd l.prog w K mg base 6 "is_plain" ["kind", "thing"] spPlain := ⟨_, _, ok_plain F_is_plain PBx cFw, m_is_plain, k_is_plain, b_is_plain⟩
  have cOd : Cd l.prog w K mg base 3 "_law_odd" ["_law_deck_here"] spOddL := ⟨_, _, ok_oddL F_law_odd K9 cN, m_law_odd, k_law_odd, b_law_odd⟩
  have cSp : Cd l.prog w K mg base 8 "_law_spoilt" ["_law_deck_here", "_law_thing", "_law_deep"] (spSpoilt 4) := ⟨_, _, ok_spoilt F_law_spoilt K9 cN cOd m_law_spoilt k_law_spoilt b_law_spoilt 4, m_law_spoilt, k_law_spoilt, b_law_spoilt⟩
  have cNu : Cd l.prog w K mg base 1 "_law_number" ["_law_thing"] spNumL := ⟨_, _, ok_numL F_law_number K9, m_law_number, k_law_number, b_law_number⟩
  have cFo : Cd l.prog w K mg base 2 "_law_form" ["_law_row"] spForm := ⟨_, _, ok_formL F_law_form K9 cNu, m_law_form, k_law_form, b_law_form⟩
  have cOp : Cd l.prog w K mg base 2 "_law_open" ["_law_waiting"] spRising := ⟨_, _, ok_openL F_law_open K9 cNu, m_law_open, k_law_open, b_law_open⟩
  have cFi : Cd l.prog w K mg base 3 "_law_first" ["_law_kind", "_law_rows", "_law_waiting"] spFirstL := ⟨_, _, ok_firstL F_law_first K9 cFo cOp cRR cER, m_law_first, k_law_first, b_law_first⟩
  have cTo : Cd l.prog w K mg base 7 "_law_told_right" ["_law_kind", "_law_thing"] spTold := ⟨_, _, ok_told F_law_told_right K8 cFi cFw cPl, m_law_told_right, k_law_told_right, b_law_told_right⟩
  exact ok_law F_law K8 cD cN cPa cOd cSp cTo
theorem walk {l : PySem.W.OpenLaw} {q : Program} {loose : List Str} {XP : (Str → Option Value) → Heap → Prop} {YP : World → Heap → Prop} {d : DefRec} {K : Params → PySem.W.Frag} (hn : l.most = some 63) (hdf : d.params.defaults = [])
    (hY : ∀ (w : World) (h : Heap), YP w h → (K w.params).In h)
    (F : ∀ (w : World) (mg : Str → Option Value) (fa : Addr) (h : Heap), (K w.params).In h → h.Ns mainGlobals mg → mg d.name = some (.ref fa) →
      ∃ fd : FuncData, (∀ (s : Shared) (u : Value), BindsTo s fd ⟨[u], []⟩ [("_law_script", u)]) ∧ ∀ base : Heap, (K w.params).In base → base.Ns mainGlobals mg → LawOk l.prog w (K w.params) mg base fa fd ["_law_script"] (spLaw (K w.params))) :
    PySem.W.WalkO q loose XP YP l.row.toRowW d [] (fun f vs => PySem.call f vs) :=
  walkG (n := 63) (x := "_law_script") (sp := fun w => spLaw (K w.params)) hn (by decide) hdf hY F fun _ _ a ns hl hS => ⟨a, ns, rfl, hS, hl, fun _ => rfl⟩
end Wn

open PySem PySem.W PyProof.Rows in
set_option maxRecDepth 100000 in
set_option maxHeartbeats 0 in
theorem PySem.Challenge.cw_wrapnets_k62_papers_or_not_holds : PySem.Challenge.rw_wrapnets_k62_papers_or_not.Holds := by
  w_on; o_law; k_head; (case hw => w_witness2)
  k_fill
  refine Wn.walk (l := PySem.Challenge.rw_wrapnets_k62_papers_or_not) rfl rfl (fun w h Y => PySem.W.kIn_of Y) ?F
  case F =>
    intro w mg fa h KX G hmg
    refine' Wn.all_mk KX G hmg ?a_HAND ?a_NEVER ?a_SORTS ?lk_SORTS ?a_C_Post ?pg_C_Post ?hd_C_Post ?po_C_Post ?sa_C_Post ?mk_C_Post ?kc_C_Post ?n_C_Post_aim ?n_C_Post_words ?n_C_Post_due ?n_C_Post_ears ?n_C_Post_is_lost ?a_Post_init ?i_Post_init ?l_Post_init ?c_Post_init ?k_Post_init ?a_Post_is_done ?i_Post_is_done ?l_Post_is_done ?c_Post_is_done ?k_Post_is_done ?a_C_Judge ?pg_C_Judge ?hd_C_Judge ?po_C_Judge ?sa_C_Judge ?mk_C_Judge ?kc_C_Judge ?n_C_Judge_present ?n_C_Judge_posts ?n_C_Judge_newest ?a_Judge_init ?i_Judge_init ?l_Judge_init ?c_Judge_init ?k_Judge_init ?a_Judge_is_in_turn ?i_Judge_is_in_turn ?l_Judge_is_in_turn ?c_Judge_is_in_turn ?k_Judge_is_in_turn ?a_Judge_come ?i_Judge_come ?l_Judge_come ?c_Judge_come ?k_Judge_come ?a_Judge_go ?i_Judge_go ?l_Judge_go ?c_Judge_go ?k_Judge_go ?a_Judge_due_of ?i_Judge_due_of ?l_Judge_due_of ?c_Judge_due_of ?k_Judge_due_of ?a_Judge_send ?i_Judge_send ?l_Judge_send ?c_Judge_send ?k_Judge_send ?a_Judge_is_for ?i_Judge_is_for ?l_Judge_is_for ?c_Judge_is_for ?k_Judge_is_for ?a_Judge_hear ?i_Judge_hear ?l_Judge_hear ?c_Judge_hear ?k_Judge_hear ?a_Judge_lose ?i_Judge_lose ?l_Judge_lose ?c_Judge_lose ?k_Judge_lose ?a_Judge_is_right_end ?i_Judge_is_right_end ?l_Judge_is_right_end ?c_Judge_is_right_end ?k_Judge_is_right_end ?a_C_JudgeOnce ?pg_C_JudgeOnce ?hd_C_JudgeOnce ?po_C_JudgeOnce ?sa_C_JudgeOnce ?mk_C_JudgeOnce ?kc_C_JudgeOnce ?n_C_JudgeOnce_present ?n_C_JudgeOnce_posts ?n_C_JudgeOnce_newest ?a_JudgeOnce_is_in_turn ?i_JudgeOnce_is_in_turn ?l_JudgeOnce_is_in_turn ?c_JudgeOnce_is_in_turn ?k_JudgeOnce_is_in_turn ?a_JudgeOnce_init ?a_JudgeOnce_come ?a_JudgeOnce_go ?a_JudgeOnce_due_of ?a_JudgeOnce_send ?a_JudgeOnce_is_for ?a_JudgeOnce_hear ?a_JudgeOnce_lose ?a_JudgeOnce_is_right_end ?a_C_JudgeTurn ?pg_C_JudgeTurn ?hd_C_JudgeTurn ?po_C_JudgeTurn ?sa_C_JudgeTurn ?mk_C_JudgeTurn ?kc_C_JudgeTurn ?n_C_JudgeTurn_present ?n_C_JudgeTurn_posts ?n_C_JudgeTurn_newest ?n_C_JudgeTurn_heights ?a_JudgeTurn_init ?i_JudgeTurn_init ?l_JudgeTurn_init ?c_JudgeTurn_init ?k_JudgeTurn_init ?a_JudgeTurn_is_in_turn ?i_JudgeTurn_is_in_turn ?l_JudgeTurn_is_in_turn ?c_JudgeTurn_is_in_turn ?k_JudgeTurn_is_in_turn ?a_JudgeTurn_come ?a_JudgeTurn_go ?a_JudgeTurn_due_of ?a_JudgeTurn_send ?a_JudgeTurn_is_for ?a_JudgeTurn_hear ?a_JudgeTurn_lose ?a_JudgeTurn_is_right_end ?a_is_whole ?l_is_whole ?c_is_whole ?k_is_whole ?a_is_count ?l_is_count ?c_is_count ?k_is_count ?a_is_sort ?l_is_sort ?c_is_sort ?k_is_sort ?a_is_aim ?l_is_aim ?c_is_aim ?k_is_aim ?a_is_words ?l_is_words ?c_is_words ?k_is_words ?a_is_form ?l_is_form ?c_is_form ?k_is_form ?a_take_come ?l_take_come ?c_take_come ?k_take_come ?a_take_go ?l_take_go ?c_take_go ?k_take_go ?a_take_send ?l_take_send ?c_take_send ?k_take_send ?a_take_hear ?l_take_hear ?c_take_hear ?k_take_hear ?a_take_lose ?l_take_lose ?c_take_lose ?k_take_lose ?a_judge_of ?l_judge_of ?c_judge_of ?k_judge_of ?a_is_pair ?l_is_pair ?c_is_pair ?k_is_pair ?a_is_rising ?l_is_rising ?c_is_rising ?k_is_rising ?a_first_wrong ?l_first_wrong ?c_first_wrong ?k_first_wrong ?a_law_mixed ?l_law_mixed ?c_law_mixed ?k_law_mixed ?a_law_deck ?l_law_deck ?c_law_deck ?k_law_deck ?a_law_next ?l_law_next ?c_law_next ?k_law_next ?a_law_one ?l_law_one ?c_law_one ?k_law_one ?a_law_sent_right ?l_law_sent_right ?c_law_sent_right ?k_law_sent_right ?a_law_heard_right ?l_law_heard_right ?c_law_heard_right ?k_law_heard_right ?a_law_row_right ?l_law_row_right ?c_law_row_right ?k_law_row_right ?a_law_end_right ?l_law_end_right ?c_law_end_right ?k_law_end_right ?a_law_next_row ?l_law_next_row ?c_law_next_row ?k_law_next_row ?a_law_paper ?l_law_paper ?c_law_paper ?k_law_paper ?a_is_plain ?l_is_plain ?c_is_plain ?k_is_plain ?a_law_odd ?l_law_odd ?c_law_odd ?k_law_odd ?a_law_spoilt ?l_law_spoilt ?c_law_spoilt ?k_law_spoilt ?a_law_number ?l_law_number ?c_law_number ?k_law_number ?a_law_form ?l_law_form ?c_law_form ?k_law_form ?a_law_open ?l_law_open ?c_law_open ?k_law_open ?a_law_first ?l_law_first ?c_law_first ?k_law_first ?a_law_told_right ?l_law_told_right ?c_law_told_right ?k_law_told_right ?a_law ?l_law ?c_law ?k_law ?z_len ?z_range ?z_isinstance ?z_tuple ?z_bool ?z_str ?z_int ?z_all ?z_sorted ?z_list ?z_zip ?z_enumerate ?z_abs ?z_max ?z_repr ?a_FORMS ?lk_FORMS ?lo_FORMS ?eF_come ?eF_go ?eF_send ?eF_hear ?eF_lose ?lk_T_come ?lk_T_go ?lk_T_send ?lk_T_hear ?lk_T_lose ?a_TAKES ?lk_TAKES ?lo_TAKES ?eT_come ?eT_go ?eT_send ?eT_hear ?eT_lose ?sp_J ?rd_J ?v_J
    (case a_HAND => k_is)
    (case a_NEVER => k_is)
    (case a_SORTS => k_is)
    (case lk_SORTS => k_is)
    (case a_C_Post => k_is)
    (case pg_C_Post => k_is)
    (case hd_C_Post => k_is)
    (case po_C_Post => k_is)
    (case sa_C_Post => k_is)
    (case mk_C_Post => k_is)
    (case kc_C_Post => k_is)
    (case n_C_Post_aim => k_is)
    (case n_C_Post_words => k_is)
    (case n_C_Post_due => k_is)
    (case n_C_Post_ears => k_is)
    (case n_C_Post_is_lost => k_is)
    (case a_Post_init => k_is)
    (case i_Post_init => k_is)
    (case l_Post_init => k_is)
    (case c_Post_init => k_is)
    (case k_Post_init => k_is)
    (case a_Post_is_done => k_is)
    (case i_Post_is_done => k_is)
    (case l_Post_is_done => k_is)
    (case c_Post_is_done => k_is)
    (case k_Post_is_done => k_is)
    (case a_C_Judge => k_is)
    (case pg_C_Judge => k_is)
    (case hd_C_Judge => k_is)
    (case po_C_Judge => k_is)
    (case sa_C_Judge => k_is)
    (case mk_C_Judge => k_is)
    (case kc_C_Judge => k_is)
    (case n_C_Judge_present => k_is)
    (case n_C_Judge_posts => k_is)
    (case n_C_Judge_newest => k_is)
    (case a_Judge_init => k_is)
    (case i_Judge_init => k_is)
    (case l_Judge_init => k_is)
    (case c_Judge_init => k_is)
    (case k_Judge_init => k_is)
    (case a_Judge_is_in_turn => k_is)
    (case i_Judge_is_in_turn => k_is)
    (case l_Judge_is_in_turn => k_is)
    (case c_Judge_is_in_turn => k_is)
    (case k_Judge_is_in_turn => k_is)
    (case a_Judge_come => k_is)
    (case i_Judge_come => k_is)
    (case l_Judge_come => k_is)
    (case c_Judge_come => k_is)
    (case k_Judge_come => k_is)
    (case a_Judge_go => k_is)
    (case i_Judge_go => k_is)
    (case l_Judge_go => k_is)
    (case c_Judge_go => k_is)
    (case k_Judge_go => k_is)
    (case a_Judge_due_of => k_is)
    (case i_Judge_due_of => k_is)
    (case l_Judge_due_of => k_is)
    (case c_Judge_due_of => k_is)
    (case k_Judge_due_of => k_is)
    (case a_Judge_send => k_is)
    (case i_Judge_send => k_is)
    (case l_Judge_send => k_is)
    (case c_Judge_send => k_is)
    (case k_Judge_send => k_is)
    (case a_Judge_is_for => k_is)
    (case i_Judge_is_for => k_is)
    (case l_Judge_is_for => k_is)
    (case c_Judge_is_for => k_is)
    (case k_Judge_is_for => k_is)
    (case a_Judge_hear => k_is)
    (case i_Judge_hear => k_is)
    (case l_Judge_hear => k_is)
    (case c_Judge_hear => k_is)
    (case k_Judge_hear => k_is)
    (case a_Judge_lose => k_is)
    (case i_Judge_lose => k_is)
    (case l_Judge_lose => k_is)
    (case c_Judge_lose => k_is)
    (case k_Judge_lose => k_is)
    (case a_Judge_is_right_end => k_is)
    (case i_Judge_is_right_end => k_is)
    (case l_Judge_is_right_end => k_is)
    (case c_Judge_is_right_end => k_is)
    (case k_Judge_is_right_end => k_is)
    (case a_C_JudgeOnce => k_is)
    (case pg_C_JudgeOnce => k_is)
    (case hd_C_JudgeOnce => k_is)
    (case po_C_JudgeOnce => k_is)
    (case sa_C_JudgeOnce => k_is)
    (case mk_C_JudgeOnce => k_is)
    (case kc_C_JudgeOnce => k_is)
    (case n_C_JudgeOnce_present => k_is)
    (case n_C_JudgeOnce_posts => k_is)
    (case n_C_JudgeOnce_newest => k_is)
    (case a_JudgeOnce_is_in_turn => k_is)
    (case i_JudgeOnce_is_in_turn => k_is)
    (case l_JudgeOnce_is_in_turn => k_is)
    (case c_JudgeOnce_is_in_turn => k_is)
    (case k_JudgeOnce_is_in_turn => k_is)
    (case a_JudgeOnce_init => k_is)
    (case a_JudgeOnce_come => k_is)
    (case a_JudgeOnce_go => k_is)
    (case a_JudgeOnce_due_of => k_is)
    (case a_JudgeOnce_send => k_is)
    (case a_JudgeOnce_is_for => k_is)
    (case a_JudgeOnce_hear => k_is)
    (case a_JudgeOnce_lose => k_is)
    (case a_JudgeOnce_is_right_end => k_is)
    (case a_C_JudgeTurn => k_is)
    (case pg_C_JudgeTurn => k_is)
    (case hd_C_JudgeTurn => k_is)
    (case po_C_JudgeTurn => k_is)
    (case sa_C_JudgeTurn => k_is)
    (case mk_C_JudgeTurn => k_is)
    (case kc_C_JudgeTurn => k_is)
    (case n_C_JudgeTurn_present => k_is)
    (case n_C_JudgeTurn_posts => k_is)
    (case n_C_JudgeTurn_newest => k_is)
    (case n_C_JudgeTurn_heights => k_is)
    (case a_JudgeTurn_init => k_is)
    (case i_JudgeTurn_init => k_is)
    (case l_JudgeTurn_init => k_is)
    (case c_JudgeTurn_init => k_is)
    (case k_JudgeTurn_init => k_is)
    (case a_JudgeTurn_is_in_turn => k_is)
    (case i_JudgeTurn_is_in_turn => k_is)
    (case l_JudgeTurn_is_in_turn => k_is)
    (case c_JudgeTurn_is_in_turn => k_is)
    (case k_JudgeTurn_is_in_turn => k_is)
    (case a_JudgeTurn_come => k_is)
    (case a_JudgeTurn_go => k_is)
    (case a_JudgeTurn_due_of => k_is)
    (case a_JudgeTurn_send => k_is)
    (case a_JudgeTurn_is_for => k_is)
    (case a_JudgeTurn_hear => k_is)
    (case a_JudgeTurn_lose => k_is)
    (case a_JudgeTurn_is_right_end => k_is)
    (case a_is_whole => k_is)
    (case l_is_whole => k_is)
    (case c_is_whole => k_is)
    (case k_is_whole => k_is)
    (case a_is_count => k_is)
    (case l_is_count => k_is)
    (case c_is_count => k_is)
    (case k_is_count => k_is)
    (case a_is_sort => k_is)
    (case l_is_sort => k_is)
    (case c_is_sort => k_is)
    (case k_is_sort => k_is)
    (case a_is_aim => k_is)
    (case l_is_aim => k_is)
    (case c_is_aim => k_is)
    (case k_is_aim => k_is)
    (case a_is_words => k_is)
    (case l_is_words => k_is)
    (case c_is_words => k_is)
    (case k_is_words => k_is)
    (case a_is_form => k_is)
    (case l_is_form => k_is)
    (case c_is_form => k_is)
    (case k_is_form => k_is)
    (case a_take_come => k_is)
    (case l_take_come => k_is)
    (case c_take_come => k_is)
    (case k_take_come => k_is)
    (case a_take_go => k_is)
    (case l_take_go => k_is)
    (case c_take_go => k_is)
    (case k_take_go => k_is)
    (case a_take_send => k_is)
    (case l_take_send => k_is)
    (case c_take_send => k_is)
    (case k_take_send => k_is)
    (case a_take_hear => k_is)
    (case l_take_hear => k_is)
    (case c_take_hear => k_is)
    (case k_take_hear => k_is)
    (case a_take_lose => k_is)
    (case l_take_lose => k_is)
    (case c_take_lose => k_is)
    (case k_take_lose => k_is)
    (case a_judge_of => k_is)
    (case l_judge_of => k_is)
    (case c_judge_of => k_is)
    (case k_judge_of => k_is)
    (case a_is_pair => k_is)
    (case l_is_pair => k_is)
    (case c_is_pair => k_is)
    (case k_is_pair => k_is)
    (case a_is_rising => k_is)
    (case l_is_rising => k_is)
    (case c_is_rising => k_is)
    (case k_is_rising => k_is)
    (case a_first_wrong => k_is)
    (case l_first_wrong => k_is)
    (case c_first_wrong => k_is)
    (case k_first_wrong => k_is)
    (case a_law_mixed => k_is)
    (case l_law_mixed => k_is)
    (case c_law_mixed => k_is)
    (case k_law_mixed => k_is)
    (case a_law_deck => k_is)
    (case l_law_deck => k_is)
    (case c_law_deck => k_is)
    (case k_law_deck => k_is)
    (case a_law_next => k_is)
    (case l_law_next => k_is)
    (case c_law_next => k_is)
    (case k_law_next => k_is)
    (case a_law_one => k_is)
    (case l_law_one => k_is)
    (case c_law_one => k_is)
    (case k_law_one => k_is)
    (case a_law_sent_right => k_is)
    (case l_law_sent_right => k_is)
    (case c_law_sent_right => k_is)
    (case k_law_sent_right => k_is)
    (case a_law_heard_right => k_is)
    (case l_law_heard_right => k_is)
    (case c_law_heard_right => k_is)
    (case k_law_heard_right => k_is)
    (case a_law_row_right => k_is)
    (case l_law_row_right => k_is)
    (case c_law_row_right => k_is)
    (case k_law_row_right => k_is)
    (case a_law_end_right => k_is)
    (case l_law_end_right => k_is)
    (case c_law_end_right => k_is)
    (case k_law_end_right => k_is)
    (case a_law_next_row => k_is)
    (case l_law_next_row => k_is)
    (case c_law_next_row => k_is)
    (case k_law_next_row => k_is)
    (case a_law_paper => k_is)
    (case l_law_paper => k_is)
    (case c_law_paper => k_is)
    (case k_law_paper => k_is)
    (case a_is_plain => k_is)
    (case l_is_plain => k_is)
    (case c_is_plain => k_is)
    (case k_is_plain => k_is)
    (case a_law_odd => k_is)
    (case l_law_odd => k_is)
    (case c_law_odd => k_is)
    (case k_law_odd => k_is)
    (case a_law_spoilt => k_is)
    (case l_law_spoilt => k_is)
    (case c_law_spoilt => k_is)
    (case k_law_spoilt => k_is)
    (case a_law_number => k_is)
    (case l_law_number => k_is)
    (case c_law_number => k_is)
    (case k_law_number => k_is)
    (case a_law_form => k_is)
    (case l_law_form => k_is)
    (case c_law_form => k_is)
    (case k_law_form => k_is)
    (case a_law_open => k_is)
    (case l_law_open => k_is)
    (case c_law_open => k_is)
    (case k_law_open => k_is)
    (case a_law_first => k_is)
    (case l_law_first => k_is)
    (case c_law_first => k_is)
    (case k_law_first => k_is)
    (case a_law_told_right => k_is)
    (case l_law_told_right => k_is)
    (case c_law_told_right => k_is)
    (case k_law_told_right => k_is)
    (case a_law => k_is)
    (case l_law => k_is)
    (case c_law => k_is)
    (case k_law => k_is)
    (case z_len => k_is)
    (case z_range => k_is)
    (case z_isinstance => k_is)
    (case z_tuple => k_is)
    (case z_bool => k_is)
    (case z_str => k_is)
    (case z_int => k_is)
    (case z_all => k_is)
    (case z_sorted => k_is)
    (case z_list => k_is)
    (case z_zip => k_is)
    (case z_enumerate => k_is)
    (case z_abs => k_is)
    (case z_max => k_is)
    (case z_repr => k_is)
    (case a_FORMS => k_is)
    (case lk_FORMS => k_is)
    (case lo_FORMS => first | k_is | rfl | decide)
    (case eF_come => first | rfl | k_is)
    (case eF_go => first | rfl | k_is)
    (case eF_send => first | rfl | k_is)
    (case eF_hear => first | rfl | k_is)
    (case eF_lose => first | rfl | k_is)
    (case lk_T_come => k_is)
    (case lk_T_go => k_is)
    (case lk_T_send => k_is)
    (case lk_T_hear => k_is)
    (case lk_T_lose => k_is)
    (case a_TAKES => k_is)
    (case lk_TAKES => k_is)
    (case lo_TAKES => first | k_is | rfl | decide)
    (case eT_come => first | rfl | k_is)
    (case eT_go => first | rfl | k_is)
    (case eT_send => first | rfl | k_is)
    (case eT_hear => first | rfl | k_is)
    (case eT_lose => first | rfl | k_is)
    (case sp_J => k_is)
    (case rd_J => k_is)
    (case v_J => k_is)
