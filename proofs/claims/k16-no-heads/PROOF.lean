import PyProof.Rows.All
import Wide.All
import OpenK.AllK
import Wide.FinOn
import HandS.ForMost
import HandS.IsInst
import HandS.Flow
import HandS.SortInts
import HandS.More
import HandS.Text
import HandS.Walk
import HandS.Conv
import PyProof.Draws
import PyProof.EnumMake
import HandS.Codes
import HandS.Zip0
import HandS.RaiseMore
import HandS.Replace
import PyProof.StrLawsFirst
import HandS.ForExc
import HandS.ExcInit
import HandS.ExcField
import HandS.ExcIs
import HandS.Comp
import KE.GoesComp
import PyProof.ReprRoads
import HandS.TupAny
import HandS.TryOnly
import HandS.Deep
import HandS.Style
import KE.KRevSl
import PyProof.ReprBulk
import PySem.Challenge.RW_wrapnets_k16_whole_no_heads
set_option Elab.async false
set_option maxRecDepth 100000
set_option linter.all false
namespace Wn
open PySem L2

/-- what a caller knows of a def: that it keeps a promise, and where it stands -/
def Cd (P : Program) (w : World) (K : PySem.W.Frag) (mg : Str → Option Value) (base : Heap) (k : Nat) (name : Str) (ps : List Str) (sp : Sp) : Prop :=
  ∃ (f : Addr) (fd : FuncData), FnOk P w K mg base CX0 k f fd ps sp ∧ mg name = some (.ref f) ∧ PySem.W.keepIn K (.ref f) = true ∧ Binds K fd ps []
/-- what a caller knows of a method -/
def Md (P : Program) (w : World) (K : PySem.W.Frag) (mg : Str → Option Value) (base : Heap) (k : Nat) (C : Addr) (name : Str) (ps : List Str) (sp : Sp) : Prop :=
  ∃ (f : Addr) (fd : FuncData), FnOk P w K mg base CX0 k f fd ps sp ∧ Meth K C name f ∧ Binds K fd ps []

/-- all but some addresses stay -/
def Kp (M : List Addr) (H H' : Hp) : Prop := ∀ b o, b ∉ M → H b = some o → H' b = some o
theorem Kp.refl (M : List Addr) (H : Hp) : Kp M H H := fun _ _ _ h => h
theorem Kp.trans {M : List Addr} {H H1 H2 : Hp} (a : Kp M H H1) (b : Kp M H1 H2) : Kp M H H2 := fun c o hc h => b c o hc (a c o hc h)
theorem Kp.mono {M M' : List Addr} {H H1 : Hp} (a : Kp M H H1) (h : ∀ x ∈ M, x ∈ M') : Kp M' H H1 := fun c o hc q => a c o (fun z => hc (h c z)) q
theorem Kp.of {M : List Addr} {H H1 : Hp} (a : Same H H1) : Kp M H H1 := fun c o _ q => a c o q
theorem Kp.new {M : List Addr} {H H1 : Hp} {p : Addr} {o : HO} (a : Kp M H H1) (hp : H1 p = none) : Kp M H (upd H1 p o) := fun c u hc q => by
  rw [upd_ne (ne_of_none (a c u hc q) hp)]
  exact a c u hc q
theorem Kp.wr {M : List Addr} {H H1 : Hp} {p : Addr} {o : HO} (a : Kp M H H1) (hp : p ∈ M) : Kp M H (upd H1 p o) := fun c u hc q => by
  rw [upd_ne (show c ≠ p from fun z => hc (by rw [z]; exact hp))]
  exact a c u hc q
/-- a write to what wasn't there at first -/
theorem Kp.wrn {M : List Addr} {H H1 : Hp} {p : Addr} {o : HO} (a : Kp M H H1) (hp : H p = none) : Kp M H (upd H1 p o) := fun c u hc q => by
  rw [upd_ne (ne_of_none q hp)]
  exact a c u hc q
theorem _root_.L2.Same.new {H H1 : Hp} {p : Addr} {o : HO} (a : Same H H1) (hp : H1 p = none) : Same H (upd H1 p o) := fun c u q => by
  rw [upd_ne (ne_of_none (a c u q) hp)]
  exact a c u q
theorem _root_.L2.Same.wrn {H H1 : Hp} {p : Addr} {o : HO} (a : Same H H1) (hp : H p = none) : Same H (upd H1 p o) := fun c u q => by
  rw [upd_ne (ne_of_none q hp)]
  exact a c u q

/-- a while by a word and a measure -/
theorem while_m {c : TT} {tb : TS} {D : Ends} {σ : L2.St} {H : Hp} (Pv : L2.St → Hp → Prop) (μ : L2.St → Hp → Nat) (h0 : Pv σ H)
    (hs : ∀ m σ H, m = μ σ H → Pv σ H → c σ H fun b H1 => if b = true then ∃ N : L2.St → Hp → Prop, (∀ σ' H', N σ' H' → ∃ m', m' < m ∧ (m' = μ σ' H' ∧ Pv σ' H')) ∧ tb { D with nx := N, ct := N, bk := D.nx } σ H1 else D.nx σ H1) : tWhile c tb D σ H :=
  ⟨fun m σ H => m = μ σ H ∧ Pv σ H, ⟨_, rfl, h0⟩, fun m σ H ⟨e, p⟩ => hs m σ H e p⟩

/-! ### the deck -/
def spMixed : Sp := fun vs H Q _ => ∃ (c a : Int), vs = [.int c, .int a] ∧ -1 ≤ a ∧ a < 2 ^ 60 ∧ ∀ r : Int, Q (.int r) H
/-- a deck at d, of which n draws were taken at most -/
def Deck (H : Hp) (d f : Addr) (n : Int) : Prop :=
  ∃ (a wh : Int) (xs : List Int), H d = some (.lst [.int a, .int wh, .ref f]) ∧ H f = some (.lst (xs.map V.int)) ∧ 0 ≤ a ∧ a ≤ n ∧ xs.length ≤ 100000
def spNext : Sp := fun vs H Q _ => ∃ (d f : Addr) (m n : Int), vs = [.ref d, .int m] ∧ 0 < m ∧ n < 2 ^ 60 ∧ Deck H d f n ∧
  ∀ (r : Int) (H' : Hp), 0 ≤ r → r < m → Kp [d] H H' → Deck H' d f (n + 1) → Q (.int r) H'
def spDeck (K : PySem.W.Frag) : Sp := fun vs H Q _ => ∃ (a : Addr) (ns : List Int), vs = [.ref a] ∧ SqL K H a (ns.map V.int) ∧ ns.length ≤ 63 ∧
  ∀ (H' : Hp) (d f : Addr), H d = none → H f = none → Same H H' → Deck H' d f 0 → Q (.ref d) H'
end Wn

namespace Wn
open PySem L2
/-! ### tuples stay, whatever is called -/
def TK (H H' : Hp) : Prop := (∀ b xs, H b = some (.tup xs) → H' b = some (.tup xs)) ∧ (∀ b o u, H b = some (.frz o u) → H' b = some (.frz o u))
theorem TK.refl (H : Hp) : TK H H := ⟨fun _ _ h => h, fun _ _ _ h => h⟩
theorem TK.trans {H H1 H2 : Hp} (a : TK H H1) (b : TK H1 H2) : TK H H2 := ⟨fun c o h => b.1 c o (a.1 c o h), fun c o u h => b.2 c o u (a.2 c o u h)⟩
theorem TK.of {H H1 : Hp} (a : Same H H1) : TK H H1 := ⟨fun c o h => a _ _ h, fun c o u h => a _ _ h⟩
theorem TK.new {H H1 : Hp} {p : Addr} {o : HO} (a : TK H H1) (hp : H1 p = none) : TK H (upd H1 p o) :=
  ⟨fun c u q => by rw [upd_ne (ne_of_none (a.1 c u q) hp)]; exact a.1 c u q, fun c u z q => by rw [upd_ne (ne_of_none (a.2 c u z q) hp)]; exact a.2 c u z q⟩
/-- what is neither a tuple nor locked may be written -/
def Wrt : HO → Bool
  | .tup _ => false
  | .frz _ _ => false
  | _ => true
theorem TK.wr {H H1 : Hp} {p : Addr} {o u : HO} (a : TK H H1) (hp : H1 p = some u) (hu : Wrt u = true) : TK H (upd H1 p o) :=
  ⟨fun c v q => by
    have h1 := a.1 c v q
    rw [upd_ne (ne_of h1 hp (fun z => by rw [← z] at hu; cases hu))]
    exact h1, fun c v z q => by
    have h1 := a.2 c v z q
    rw [upd_ne (ne_of h1 hp (fun z => by rw [← z] at hu; cases hu))]
    exact h1⟩
theorem _root_.L2.FnOk.tk {P : Program} {w : World} {K : PySem.W.Frag} {mg : Str → Option Value} {base : Heap} {k : Nat} {f : Addr} {fd : FuncData} {ps : List Str} {sp : Sp} (F : FnOk P w K mg base CX0 k f fd ps sp) :
    FnOk P w K mg base CX0 k f fd ps (fun vs H Q E => sp vs H (fun v H' => TK H H' → Q v H') E) := by
  refine ⟨fun vs H Q E q => F.len vs H _ E q, fun A outer s H args us vs Q E hr he hb hv hs => ?_⟩
  refine codeAny_mono (F.run A outer s H args us vs _ E hr he hb hv hs) fun r s' h => ?_
  cases r with
  | ok fl =>
    cases fl with
    | ret u =>
      obtain ⟨v, H', e1, e2, e3, e4, e5, q⟩ := h
      exact ⟨v, H', e1, e2, e3, e4, e5, q ⟨e3.tups, e3.frzs⟩⟩
    | _ => exact h
  | error e => exact h
/-- a promise, tuples kept besides -/
def Tk (sp : Sp) : Sp := fun vs H Q E => sp vs H (fun v H' => TK H H' → Q v H') E
theorem Cd.tk {P : Program} {w : World} {K : PySem.W.Frag} {mg : Str → Option Value} {base : Heap} {k : Nat} {name : Str} {ps : List Str} {sp : Sp} (h : Cd P w K mg base k name ps sp) : Cd P w K mg base k name ps (Tk sp) := by
  obtain ⟨f, fd, G, a, b, c⟩ := h
  exact ⟨f, fd, G.tk, a, b, c⟩
theorem Md.tk {P : Program} {w : World} {K : PySem.W.Frag} {mg : Str → Option Value} {base : Heap} {k : Nat} {C : Addr} {name : Str} {ps : List Str} {sp : Sp} (h : Md P w K mg base k C name ps sp) : Md P w K mg base k C name ps (Tk sp) := by
  obtain ⟨f, fd, G, a, b⟩ := h
  exact ⟨f, fd, G.tk, a, b⟩

/-! ### data: None, truths, ints, texts, tuples of these -/
mutual
def Rp (K : PySem.W.Frag) (H : Hp) : PyData → V → Prop
  | .none, v => v = .non
  | .bool b, v => v = .bl b
  | .int i, v => v = .int i
  | .str s, v => v = .str s
  | .tuple ds, v => ∃ a xs, v = .ref a ∧ SqT K H a xs ∧ RpL K H ds xs
  | .list _, _ => False
  | .dict _, _ => False
def RpL (K : PySem.W.Frag) (H : Hp) : List PyData → List V → Prop
  | [], xs => xs = []
  | d :: ds, xs => ∃ v r, xs = v :: r ∧ Rp K H d v ∧ RpL K H ds r
end
mutual
def dep : PyData → Nat
  | .tuple xs => deps xs + 1
  | _ => 0
def deps : List PyData → Nat
  | [] => 0
  | x :: xs => max (dep x) (deps xs)
end
mutual
def sz : PyData → Nat
  | .tuple xs => szs xs + 1
  | _ => 1
def szs : List PyData → Nat
  | [] => 0
  | x :: xs => sz x + szs xs
end
theorem SqT.tk {K : PySem.W.Frag} {H H' : Hp} {a : Addr} {xs : List V} (h : SqT K H a xs) (e : TK H H') : SqT K H' a xs := by
  rcases h with (h | ⟨o, h⟩) | h
  · exact .inl (.inl (e.1 _ _ h))
  · exact .inl (.inr ⟨o, e.2 _ _ _ h⟩)
  · exact .inr h
mutual
theorem Rp.tk {K : PySem.W.Frag} {H H' : Hp} (e : TK H H') : ∀ (d : PyData) (v : V), Rp K H d v → Rp K H' d v
  | .none, _, h => h
  | .bool _, _, h => h
  | .int _, _, h => h
  | .str _, _, h => h
  | .tuple ds, v, h => by
    unfold Rp at h ⊢
    obtain ⟨a, xs, rfl, hs, hl⟩ := h
    exact ⟨a, xs, rfl, SqT.tk hs e, RpL.tk e ds xs hl⟩
  | .list _, _, h => h
  | .dict _, _, h => h
theorem RpL.tk {K : PySem.W.Frag} {H H' : Hp} (e : TK H H') : ∀ (ds : List PyData) (xs : List V), RpL K H ds xs → RpL K H' ds xs
  | [], _, h => h
  | d :: ds, xs, h => by
    unfold RpL at h ⊢
    obtain ⟨v, r, rfl, h1, h2⟩ := h
    exact ⟨v, r, rfl, Rp.tk e d v h1, RpL.tk e ds r h2⟩
end
theorem RpL.len {K : PySem.W.Frag} {H : Hp} : ∀ (ds : List PyData) (xs : List V), RpL K H ds xs → xs.length = ds.length
  | [], xs, h => by
    unfold RpL at h
    rw [h]
    rfl
  | d :: ds, xs, h => by
    unfold RpL at h
    obtain ⟨v, r, rfl, h1, h2⟩ := h
    rw [List.length_cons, List.length_cons, RpL.len ds r h2]
theorem RpL.get {K : PySem.W.Frag} {H : Hp} : ∀ (ds : List PyData) (xs : List V), RpL K H ds xs → ∀ (i : Nat) (d : PyData), ds[i]? = some d → ∃ v, xs[i]? = some v ∧ Rp K H d v
  | [], xs, h, i, d, e => by cases e
  | d :: ds, xs, h, i, d', e => by
    unfold RpL at h
    obtain ⟨v, r, rfl, h1, h2⟩ := h
    cases i with
    | zero =>
      simp only [List.getElem?_cons_zero, Option.some.injEq] at e
      exact ⟨v, rfl, e ▸ h1⟩
    | succ i =>
      simp only [List.getElem?_cons_succ] at e ⊢
      exact RpL.get ds r h2 i d' e
theorem RpL.of {K : PySem.W.Frag} {H : Hp} : ∀ (ds : List PyData) (xs : List V), xs.length = ds.length → (∀ (i : Nat) (d : PyData) (v : V), ds[i]? = some d → xs[i]? = some v → Rp K H d v) → RpL K H ds xs
  | [], xs, h, _ => by
    unfold RpL
    exact List.length_eq_zero_iff.mp h
  | d :: ds, [], h, _ => by cases h
  | d :: ds, v :: r, h, k => by
    unfold RpL
    refine ⟨v, r, rfl, k 0 d v rfl rfl, RpL.of ds r (by simpa using h) fun i d' v' h1 h2 => k (i + 1) d' v' ?_ ?_⟩
    · simpa using h1
    · simpa using h2
theorem RpL.snoc {K : PySem.W.Frag} {H : Hp} {d : PyData} {v : V} (h : Rp K H d v) : ∀ (ds : List PyData) (xs : List V), RpL K H ds xs → RpL K H (ds ++ [d]) (xs ++ [v])
  | [], xs, q => by
    unfold RpL at q
    subst q
    show RpL K H [d] [v]
    unfold RpL
    exact ⟨v, [], rfl, h, by unfold RpL; rfl⟩
  | d' :: ds, xs, q => by
    unfold RpL at q
    obtain ⟨v', r, rfl, h1, h2⟩ := q
    show RpL K H (d' :: (ds ++ [d])) (v' :: (r ++ [v]))
    unfold RpL
    exact ⟨_, _, rfl, h1, RpL.snoc h ds r h2⟩
theorem dep_get : ∀ (ds : List PyData) (i : Nat) (d : PyData), ds[i]? = some d → dep d ≤ deps ds
  | [], i, d, e => by cases e
  | x :: xs, 0, d, e => by
    simp only [List.getElem?_cons_zero, Option.some.injEq] at e
    unfold deps
    rw [e]
    exact Nat.le_max_left _ _
  | x :: xs, i + 1, d, e => by
    simp only [List.getElem?_cons_succ] at e
    unfold deps
    exact Nat.le_trans (dep_get xs i d e) (Nat.le_max_right _ _)
theorem sz_get : ∀ (ds : List PyData) (i : Nat) (d : PyData), ds[i]? = some d → sz d ≤ szs ds
  | [], i, d, e => by cases e
  | x :: xs, 0, d, e => by
    simp only [List.getElem?_cons_zero, Option.some.injEq] at e
    unfold szs
    rw [e]
    exact Nat.le_add_right _ _
  | x :: xs, i + 1, d, e => by
    simp only [List.getElem?_cons_succ] at e
    unfold szs
    exact Nat.le_trans (sz_get xs i d e) (Nat.le_add_left _ _)
theorem sz_pos : ∀ d : PyData, 1 ≤ sz d
  | .tuple xs => by unfold sz; omega
  | .none | .bool _ | .int _ | .str _ | .list _ | .dict _ => by unfold sz; exact Nat.le_refl _
theorem szs_len : ∀ ds : List PyData, ds.length ≤ szs ds
  | [] => Nat.zero_le _
  | x :: xs => by
    have := szs_len xs
    have := sz_pos x
    unfold szs
    rw [List.length_cons]
    omega
/-- the type of such a thing -/
theorem ty_tup {K : PySem.W.Frag} {H : Hp} {a : Addr} {xs : List V} (h : SqT K H a xs) : TyX K H (.ref a) (.type "tuple") := by
  rcases h with (h | ⟨o, h⟩) | ⟨o, its, n, h, c, _⟩
  · exact .base (.tup h)
  · exact .fTuple h
  · exact .kTuple h c
/-- the same data handed in twice, of depth below n: True -/
def spSame (K : PySem.W.Frag) (n : Nat) : Sp := fun vs H Q _ => ∃ (x y : V) (d : PyData), vs = [x, y] ∧ Rp K H d x ∧ Rp K H d y ∧ dep d < n ∧ sz d ≤ 16000000 ∧ ∀ H', Same H H' → Q (.bl true) H'
end Wn

namespace Wn
open PySem L2
theorem fld1 {f : Str} {v : V} : ([(f, v)] : List (Str × V)).lookup f = some v := by
  show (match f == f with | true => some v | false => _) = some v
  rw [beq_self_eq_true]
theorem fld1_ne {f g : Str} {v : V} (h : (g == f) = false) : ([(f, v)] : List (Str × V)).lookup g = none := by
  show (match g == f with | true => some v | false => _) = none
  rw [h]
  rfl
theorem putF1 {f : Str} {v u : V} : putF f u [(f, v)] = [(f, u)] := by
  show (if f = f then (f, u) :: [] else _) = _
  rw [if_pos rfl]
/-! ### dicts by whole numbers, their values data -/
section
variable {α : Type}
def lookA (m : List (Int × α)) (k : Int) : Option α := (m.find? fun p => decide (p.1 = k)).map (·.2)
def putA (m : List (Int × α)) (k : Int) (v : α) : List (Int × α) :=
  if (m.any fun kv => decide (kv.1 = k)) = true then m.map (fun kv => if kv.1 = k then (kv.1, v) else kv) else m ++ [(k, v)]
def dropA (m : List (Int × α)) (k : Int) : List (Int × α) := m.filter fun kv => decide (kv.1 ≠ k)
theorem putA_len (m : List (Int × α)) (k : Int) (v : α) : (putA m k v).length ≤ m.length + 1 := by
  unfold putA
  split
  · rw [List.length_map]
    omega
  · rw [List.length_append, List.length_singleton]
    exact Nat.le_refl _
theorem dropA_len (m : List (Int × α)) (k : Int) : (dropA m k).length ≤ m.length := List.length_filter_le _ _
def RpD (enc : α → PyData) (K : PySem.W.Frag) (H : Hp) : List (Int × α) → List (Key × V) → Prop
  | [], kvs => kvs = []
  | p :: m, kvs => ∃ v r, kvs = (Sum.inl p.1, v) :: r ∧ Rp K H (enc p.2) v ∧ RpD enc K H m r
variable {enc : α → PyData} {K : PySem.W.Frag} {H H' : Hp}
theorem RpD.tk (e : TK H H') : ∀ {m : List (Int × α)} {kvs : List (Key × V)}, RpD enc K H m kvs → RpD enc K H' m kvs
  | [], _, h => h
  | p :: m, kvs, h => by
    obtain ⟨v, r, rfl, h1, h2⟩ := h
    exact ⟨v, r, rfl, Rp.tk e _ _ h1, RpD.tk e h2⟩
theorem RpD.len : ∀ {m : List (Int × α)} {kvs : List (Key × V)}, RpD enc K H m kvs → kvs.length = m.length
  | [], kvs, h => by rw [show kvs = [] from h]; rfl
  | p :: m, kvs, h => by
    obtain ⟨v, r, rfl, h1, h2⟩ := h
    rw [List.length_cons, List.length_cons, RpD.len h2]
theorem RpD.keys : ∀ {m : List (Int × α)} {kvs : List (Key × V)}, RpD enc K H m kvs → (kvs.map fun kv => kV kv.1) = (m.map (·.1)).map V.int
  | [], kvs, h => by rw [show kvs = [] from h]; rfl
  | p :: m, kvs, h => by
    obtain ⟨v, r, rfl, h1, h2⟩ := h
    rw [List.map_cons, List.map_cons, List.map_cons, RpD.keys h2]
    rfl
theorem inl_iff {a b : Int} : ((Sum.inl a : Key) = Sum.inl b) ↔ a = b := ⟨fun h => by cases h; rfl, fun h => by rw [h]⟩
theorem RpD.val {k : Int} : ∀ {m : List (Int × α)} {kvs : List (Key × V)}, RpD enc K H m kvs → (lookA m k = none ∧ valV kvs (Sum.inl k) = none) ∨ ∃ x v, lookA m k = some x ∧ valV kvs (Sum.inl k) = some v ∧ Rp K H (enc x) v
  | [], kvs, h => by
    rw [show kvs = [] from h]
    exact .inl ⟨rfl, rfl⟩
  | p :: m, kvs, h => by
    obtain ⟨v, r, rfl, h1, h2⟩ := h
    by_cases e : p.1 = k
    · refine .inr ⟨p.2, v, ?_, valV_pos (by rw [e]), h1⟩
      simp [lookA, List.find?_cons, e]
    · have e1 : lookA (p :: m) k = lookA m k := by simp [lookA, List.find?_cons, e]
      rw [e1, valV_neg (p := (Sum.inl p.1, v)) (fun z => e (inl_iff.mp z))]
      exact RpD.val h2
theorem RpD.any {k : Int} : ∀ {m : List (Int × α)} {kvs : List (Key × V)}, RpD enc K H m kvs → (kvs.any fun kv => decide (kv.1 = Sum.inl k)) = (m.any fun kv => decide (kv.1 = k))
  | [], kvs, h => by rw [show kvs = [] from h]; rfl
  | p :: m, kvs, h => by
    obtain ⟨v, r, rfl, h1, h2⟩ := h
    rw [List.any_cons, List.any_cons, RpD.any h2]
    congr 1
    exact decide_eq_decide.mpr inl_iff
theorem RpD.snoc {k : Int} {x : α} {v : V} (hv : Rp K H (enc x) v) : ∀ {m : List (Int × α)} {kvs : List (Key × V)}, RpD enc K H m kvs → RpD enc K H (m ++ [(k, x)]) (kvs ++ [(Sum.inl k, v)])
  | [], kvs, h => by
    rw [show kvs = [] from h]
    exact ⟨v, [], rfl, hv, rfl⟩
  | p :: m, kvs, h => by
    obtain ⟨u, r, rfl, h1, h2⟩ := h
    exact ⟨u, _, rfl, h1, RpD.snoc hv h2⟩
theorem RpD.map {k : Int} {x : α} {v : V} (hv : Rp K H (enc x) v) : ∀ {m : List (Int × α)} {kvs : List (Key × V)}, RpD enc K H m kvs → RpD enc K H (m.map fun kv => if kv.1 = k then (kv.1, x) else kv) (kvs.map fun kv => if kv.1 = Sum.inl k then (kv.1, v) else kv)
  | [], kvs, h => by rw [show kvs = [] from h]; rfl
  | p :: m, kvs, h => by
    obtain ⟨u, r, rfl, h1, h2⟩ := h
    have h3 := RpD.map (k := k) hv h2
    rw [List.map_cons, List.map_cons]
    by_cases e : p.1 = k
    · rw [if_pos e, if_pos (inl_iff.mpr e)]
      exact ⟨v, _, rfl, hv, h3⟩
    · rw [if_neg e, if_neg (fun z => e (inl_iff.mp z))]
      exact ⟨u, _, rfl, h1, h3⟩
theorem RpD.put {k : Int} {x : α} {v : V} {m : List (Int × α)} {kvs : List (Key × V)} (h : RpD enc K H m kvs) (hv : Rp K H (enc x) v) : RpD enc K H (putA m k x) (putK kvs (Sum.inl k) v) := by
  unfold putA putK
  rw [h.any]
  split
  · exact h.map hv
  · exact h.snoc hv
theorem RpD.drop {k : Int} : ∀ {m : List (Int × α)} {kvs : List (Key × V)}, RpD enc K H m kvs → RpD enc K H (dropA m k) (dropK kvs (Sum.inl k))
  | [], kvs, h => by rw [show kvs = [] from h]; rfl
  | p :: m, kvs, h => by
    obtain ⟨u, r, rfl, h1, h2⟩ := h
    have h3 := RpD.drop (k := k) h2
    unfold dropA dropK at *
    by_cases e : p.1 = k
    · rw [List.filter_cons_of_neg (by simp [e]), List.filter_cons_of_neg (by simp [e])]
      exact h3
    · rw [List.filter_cons_of_pos (by simp [e]), List.filter_cons_of_pos (by simp [inl_iff, e])]
      exact ⟨u, _, rfl, h1, h3⟩
/-- a dict at q that stands for m -/
def DictAt (enc : α → PyData) (K : PySem.W.Frag) (H : Hp) (q : Addr) (m : List (Int × α)) : Prop := ∃ kvs, H q = some (.dK kvs) ∧ RpD enc K H m kvs
theorem DictAt.kp {M : List Addr} {q : Addr} {m : List (Int × α)} (h : DictAt enc K H q m) (k : Kp M H H') (t : TK H H') (n : q ∉ M) : DictAt enc K H' q m := by
  obtain ⟨kvs, a, b⟩ := h
  exact ⟨kvs, k _ _ n a, b.tk t⟩
def sortI (ns : List Int) : List Int := ns.mergeSort (fun a b => decide (a ≤ b))
theorem sortI_perm (ns : List Int) : (sortI ns).Perm ns := List.mergeSort_perm _ _
theorem sortI_sorted (ns : List Int) : (sortI ns).Pairwise (· ≤ ·) := by
  have h := List.pairwise_mergeSort (le := fun a b : Int => decide (a ≤ b)) (fun a b c h1 h2 => by simp only [decide_eq_true_eq] at *; omega) (fun a b => by simp only [Bool.or_eq_true, decide_eq_true_eq]; omega) ns
  exact h.imp fun h => of_decide_eq_true h
theorem sortI_eq {ns ms : List Int} (p : ms.Perm ns) (s : ms.Pairwise (· ≤ ·)) : ms = sortI ns :=
  PySem.W.ksm_same (p.trans (sortI_perm ns).symm) s (sortI_sorted ns)
/-- rows by hands: (hand,) and what stands there -/
def rowsD (encL : α → List PyData) (m : List (Int × α)) : PyData := .tuple ((sortI (m.map (·.1))).map fun k => .tuple (.int k :: ((lookA m k).map encL).getD []))
theorem lookA_mem {m : List (Int × α)} {k : Int} (h : k ∈ m.map (·.1)) : ∃ x, lookA m k = some x ∧ (k, x) ∈ m := by
  obtain ⟨p, hp, rfl⟩ := List.mem_map.mp h
  unfold lookA
  cases e : m.find? fun q => decide (q.1 = p.1) with
  | none =>
    have := List.find?_eq_none.mp e p hp
    simp at this
  | some q =>
    have h1 := List.find?_some e
    have h2 := List.mem_of_find?_eq_some e
    simp only [decide_eq_true_eq] at h1
    exact ⟨q.2, rfl, by rw [← h1]; exact h2⟩
theorem szs_map_le {β : Type} {f : β → PyData} {c : Nat} : ∀ (l : List β), (∀ x ∈ l, sz (f x) ≤ c) → szs (l.map f) ≤ c * l.length
  | [], _ => Nat.zero_le _
  | x :: l, h => by
    have h1 := szs_map_le l fun y hy => h y (List.mem_cons_of_mem _ hy)
    have h2 := h x List.mem_cons_self
    rw [List.map_cons, List.length_cons]
    unfold szs
    rw [Nat.mul_succ]
    omega
theorem deps_map_le {β : Type} {f : β → PyData} {c : Nat} : ∀ (l : List β), (∀ x ∈ l, dep (f x) ≤ c) → deps (l.map f) ≤ c
  | [], _ => Nat.zero_le _
  | x :: l, h => by
    have h1 := deps_map_le l fun y hy => h y (List.mem_cons_of_mem _ hy)
    have h2 := h x List.mem_cons_self
    rw [List.map_cons]
    unfold deps
    omega
theorem Rp.tup {ds : List PyData} {a : Addr} {xs : List V} (h : H a = some (.tup xs)) (r : RpL K H ds xs) : Rp K H (.tuple ds) (.ref a) := by
  unfold Rp
  exact ⟨a, xs, rfl, SqT.of h, r⟩
theorem Rp.tupS {ds : List PyData} {a : Addr} {xs : List V} (h : SqT K H a xs) (r : RpL K H ds xs) : Rp K H (.tuple ds) (.ref a) := by
  unfold Rp
  exact ⟨a, xs, rfl, h, r⟩
theorem RpL.cons {d : PyData} {ds : List PyData} {v : V} {xs : List V} (h : Rp K H d v) (r : RpL K H ds xs) : RpL K H (d :: ds) (v :: xs) := by
  unfold RpL
  exact ⟨v, xs, rfl, h, r⟩
theorem RpL.nil : RpL K H [] [] := by
  unfold RpL
  rfl
theorem Rp.int {i : Int} : Rp K H (.int i) (.int i) := by
  unfold Rp
  rfl
theorem Rp.none : Rp K H .none .non := by
  unfold Rp
  rfl
theorem Rp.str {z : Str} : Rp K H (.str z) (.str z) := by
  unfold Rp
  rfl
end
end Wn

namespace Wn
open PySem L2
theorem tYes_t {σ : L2.St} {H : Hp} {F : Bool → Hp → Prop} (h : F true H) : tYes σ H F := h
theorem rows_lc {α : Type} {encL : α → List PyData} {K : PySem.W.Frag} {td : TE} {i : Nat} {σ : L2.St} {H2 : Hp} {S D q : Addr} {ns : List Int} {m : List (Int × α)} {kvs : List (Key × V)} {Qd : Hp → Prop}
    (hS : H2 S = some (.lst (ns.map V.int))) (hq : H2 q = some (.dK kvs)) (hm : RpD (fun x => .tuple (encL x)) K H2 m kvs) (hns : ∀ k ∈ ns, k ∈ m.map (·.1)) (hz : ∀ x, (encL x).length ≤ 100) (hln : ns.length ≤ 16000000)
    (htd : ∀ (σ' : L2.St) (H' : Hp) (Q : VK), wipe σ' [i] = wipe σ [i] → Same H2 H' → Q (.ref q) H' → td σ' H' Q) (hD : H2 D = none) (hσ : i < σ.length)
    (hd : ∀ (H' : Hp) (xs : List V), Same H2 H' → H' D = some (.lst xs) → RpL K H' (ns.map fun k => .tuple (.int k :: ((lookA m k).map encL).getD [])) xs → Qd H') :
    ∃ W : Nat → Nat → Hp → Prop, (∃ m, W 0 m (upd H2 D (.lst []))) ∧ ∀ j m H, W j m H →
      ((Itl K S).stop j H ∧ Qd H) ∨ ((Itl K S).go j H ∧ ∃ Nx : Hp → Prop, (∀ H', Nx H' → ∃ m', m' < m ∧ W (j + 1) m' H') ∧ ∀ x H', (Itl K S).yld j H x H' → gName i x (wipe σ [i]) H' fun σ2 H2 => wipe σ2 [i] = wipe σ [i] ∧ tYes σ2 H2 fun b H3 =>
        if b = true then tOp (rCatT K) (tTup (tCons (tVar i) tNil)) (tDGet td (tVar i)) σ2 H3 fun y H4 => ∃ acc, H4 D = some (.lst acc) ∧ acc.length < sizeLine ∧ Nx (upd H4 D (.lst (acc ++ [y]))) else Nx H3) := by
  have nSD : S ≠ D := ne_of_none hS hD
  refine lc_list (K := K) (a := S) (xs := ns.map V.int) (fun j H => ∃ xs, Same H2 H ∧ H D = some (.lst xs) ∧ RpL K H ((ns.take j).map fun k => .tuple (.int k :: ((lookA m k).map encL).getD [])) xs)
    ⟨[], (L2.Same.refl H2).new hD, upd_same, RpL.nil⟩ (fun j H _ ⟨xs, s, _, _⟩ => SqL.of (s _ _ hS)) ?_ ?_
  · rintro j x H3 hx ⟨xs, s3, hD3, hr⟩
    have hj : j < ns.length := by
      have q := (List.getElem?_eq_some_iff.mp hx).1
      rw [List.length_map] at q
      exact q
    obtain rfl : x = V.int ns[j] := by
      rw [List.getElem?_map, List.getElem?_eq_getElem hj] at hx
      exact (Option.some.inj hx).symm
    have hmem : ns[j] ∈ m.map (·.1) := hns _ (List.getElem_mem hj)
    have eσ : (((wipe σ [i]).set i (some (V.int ns[j]))))[i]? = some (some (V.int ns[j])) := by
      rw [List.getElem?_set_self]
      rw [wipe_length]
      exact hσ
    have ew : wipe ((wipe σ [i]).set i (some (V.int ns[j]))) [i] = wipe σ [i] := by
      show ((σ.set i none).set i (some (V.int ns[j]))).set i none = σ.set i none
      rw [List.set_set, List.set_set]
    refine ⟨ew, ?_⟩
    refine tYes_t (iteT ?_)
    have hlx : xs.length < sizeLine := by
      have := RpL.len _ _ hr
      rw [List.length_map, List.length_take] at this
      exact Nat.lt_of_le_of_lt (show xs.length ≤ 16000000 by omega) (by decide)
    refine ⟨_, eσ, (by show 1 ≤ sizeLine; decide), fun t ht => ?_⟩
    have s4 := s3.new (o := .tup [V.int ns[j]]) ht
    have t4 := TK.of s4
    refine htd _ _ _ ew s4 ⟨_, eσ, ?_⟩
    rcases hm.val (k := ns[j]) with ⟨e1, e2⟩ | ⟨y, v, e1, e2, r⟩
    · obtain ⟨z, e3, _⟩ := lookA_mem hmem
      rw [e1] at e3
      cases e3
    · have r4 := Rp.tk t4 _ _ r
      unfold Rp at r4
      obtain ⟨b, ys, rfl, hb, hl⟩ := r4
      have hly := RpL.len _ _ hl
      refine ⟨q, .ref b, rfl, by rw [← e2]; exact DGet.k (k := Sum.inl ns[j]) (s4 _ _ hq), ?_⟩
      have hD4 : (upd H3 t (.tup [V.int ns[j]])) D = some (.lst xs) := by
        rw [upd_ne (ne_of_none hD3 ht)]
        exact hD3
      have etk : (ns.take (j + 1)).map (fun k => PyData.tuple (.int k :: ((lookA m k).map encL).getD [])) = (ns.take j).map (fun k => PyData.tuple (.int k :: ((lookA m k).map encL).getD [])) ++ [PyData.tuple (.int ns[j] :: encL y)] := by
        rw [List.take_succ_eq_append_getElem hj, List.map_append, List.map_singleton, e1]
        rfl
      have s34 : TK H3 (upd H3 t (.tup [V.int ns[j]])) := (TK.refl _).new ht
      refine ⟨t, b, _, ys, rfl, rfl, SqT.of upd_same, hb, List.cons_ne_nil _ _, ?_, fun ey => ?_, fun _ p hp => ?_⟩
      · have := hz y
        rw [hly, List.length_singleton]
        exact Nat.le_trans (show 1 + (encL y).length ≤ 1000 by omega) (by decide)
      · refine ⟨xs, hD4, hlx, _, s4.wrn hD, upd_same, ?_⟩
        rw [etk]
        have tE : TK (upd H3 t (.tup [V.int ns[j]])) (upd (upd H3 t (.tup [V.int ns[j]])) D (.lst (xs ++ [V.ref t]))) := (TK.refl _).wr hD4 rfl
        refine RpL.snoc (Rp.tk tE _ _ (Rp.tup upd_same ?_)) _ _ (RpL.tk (s34.trans tE) _ _ hr)
        have e0 : encL y = [] := List.length_eq_zero_iff.mp (by rw [← hly, ey]; rfl)
        rw [e0]
        exact RpL.cons Rp.int RpL.nil
      · have s5 := s4.new (o := .tup ([V.int ns[j]] ++ ys)) hp
        have hD5 : upd (upd H3 t (.tup [V.int ns[j]])) p (.tup ([V.int ns[j]] ++ ys)) D = some (.lst xs) := by
          rw [upd_ne (ne_of_none hD4 hp)]
          exact hD4
        have tE : TK (upd (upd H3 t (.tup [V.int ns[j]])) p (.tup ([V.int ns[j]] ++ ys))) (upd (upd (upd H3 t (.tup [V.int ns[j]])) p (.tup ([V.int ns[j]] ++ ys))) D (.lst (xs ++ [V.ref p]))) := (TK.refl _).wr hD5 rfl
        have s45 : TK (upd H3 t (.tup [V.int ns[j]])) (upd (upd H3 t (.tup [V.int ns[j]])) p (.tup ([V.int ns[j]] ++ ys))) := (TK.refl _).new hp
        refine ⟨xs, hD5, hlx, _, s5.wrn hD, upd_same, ?_⟩
        rw [etk]
        refine RpL.snoc (Rp.tk tE _ _ (Rp.tup upd_same ?_)) _ _ (RpL.tk ((s34.trans s45).trans tE) _ _ hr)
        exact RpL.cons Rp.int (RpL.tk s45 _ _ hl)
  · rintro H3 ⟨xs, s3, hD3, hr⟩
    rw [List.length_map, List.take_length] at hr
    exact hd H3 xs s3 hD3 hr
end Wn

namespace Wn
open PySem L2
section
variable {X : Cx} {K : PySem.W.Frag}
theorem ixL (hK : X.K = K) : IxR X (rIxL K) := hK ▸ ix_list
theorem ixT (hK : X.K = K) : IxR X (rIxT K) := hK ▸ ix_tup
theorem opCatT (hK : X.K = K) : OpR X (binaryOp .Add) (rCatT K) := hK ▸ op_catT
theorem slL (hK : X.K = K) : SlR X (rSlL K) := hK ▸ sl_list
theorem slT (hK : X.K = K) : SlR X (rSlT K) := hK ▸ sl_tup
theorem fldK {e : Expr} {ta : TE} {f : Str} {pos : Pos} (hK : X.K = K) (he : PE X e ta) (hb : attributeBase e f X.env (eval e X.env) = eval e X.env) : PE X (.Attribute e f pos) (tFld K ta f) := hK ▸ pe_fld he hb
theorem lenK (hK : X.K = K) : CallR X (.builtin "len") (fun xs H Q => ∃ x n, xs = [x] ∧ LenV K x H n ∧ Q (.int n) H) := hK ▸ call_len
theorem crMaxK (hK : X.K = K) (hc : X.calm = true) : CallR X (.builtin "max") (rMax K) := hK ▸ cr_max hc
theorem crMinK (hK : X.K = K) (hc : X.calm = true) : CallR X (.builtin "min") (rMin K) := hK ▸ cr_min hc
theorem crAllK (hK : X.K = K) (hc : X.calm = true) : CallR X (.builtin "all") (rAll K) := hK ▸ cr_all hc
theorem crAnyK (hK : X.K = K) (hc : X.calm = true) : CallR X (.builtin "any") (rAny K) := hK ▸ cr_any hc
theorem isiK (hK : X.K = K) : CallR X (.builtin "isinstance") (rIsi K) := hK ▸ call_isi
theorem tupOfK (hK : X.K = K) : CallR X (.type "tuple") (fun xs H Q => ∃ p ys, xs = [.ref p] ∧ ((SqL K H p ys ∧ ∀ l, H l = none → Q (.ref l) (upd H l (.tup ys))) ∨ (SqT K H p ys ∧ Q (.ref p) H))) := hK ▸ call_tuple_of
theorem lstOfK (hK : X.K = K) : CallR X (.type "list") (fun xs H Q => ∃ p ys, xs = [.ref p] ∧ (SqL K H p ys ∨ SqT K H p ys) ∧ ∀ l, H l = none → Q (.ref l) (upd H l (.lst ys))) := hK ▸ call_list_of
theorem sortIK (hK : X.K = K) : CallR X (.builtin "sorted") (rSortedI K) := hK ▸ cr_sortedI
theorem inSeqK (hK : X.K = K) : OpR X (compareOp .In) (rIn K false) := hK ▸ op_in_seq
theorem notInSeqK (hK : X.K = K) : OpR X (compareOp .NotIn) (rIn K true) := hK ▸ op_notIn_seq
theorem eqDK (hK : X.K = K) (hu : X.A.units + 64 < cLine) : OpR X (compareOp .Eq) (rEqD K) := hK ▸ op_eqD hu
theorem neDK (hK : X.K = K) (hu : X.A.units + 64 < cLine) : OpR X (compareOp .NotEq) (rNeD K) := hK ▸ op_neD hu
end
end Wn

namespace Wn
open PySem L2
theorem Deck.kp {M : List Addr} {H H' : Hp} {d f : Addr} {n : Int} (h : Deck H d f n) (k : Kp M H H') (n1 : d ∉ M) (n2 : f ∉ M) : Deck H' d f n := by
  obtain ⟨a, wh, xs, h1, h2, h3⟩ := h
  exact ⟨a, wh, xs, k _ _ n1 h1, k _ _ n2 h2, h3⟩
theorem Deck.mono {H : Hp} {d f : Addr} {n m : Int} (h : Deck H d f n) (hm : n ≤ m) : Deck H d f m := by
  obtain ⟨a, wh, xs, h1, h2, h3, h4, h5⟩ := h
  exact ⟨a, wh, xs, h1, h2, h3, by omega, h5⟩
theorem Deck.lst {H : Hp} {d f : Addr} {n : Int} (h : Deck H d f n) : ∃ zs, H d = some (.lst zs) := by
  obtain ⟨a, wh, xs, h1, h2, h3⟩ := h
  exact ⟨_, h1⟩
theorem Deck.lst2 {H : Hp} {d f : Addr} {n : Int} (h : Deck H d f n) : ∃ zs, H f = some (.lst zs) := by
  obtain ⟨a, wh, xs, h1, h2, h3⟩ := h
  exact ⟨_, h2⟩
theorem seq_have {t u : TS} {D : Ends} {σ : L2.St} {H : Hp} (Mid : L2.St → Hp → Prop) (h2 : ∀ σ' H', Mid σ' H' → u D σ' H') (h1 : (∀ σ' H', Mid σ' H' → u D σ' H') → t { D with nx := u D } σ H) : tSeq t u D σ H := h1 h2
theorem seq_if {c : TT} {t1 t2 u : TS} {D : Ends} {σ : L2.St} {H : Hp} (Mid : L2.St → Hp → Prop) (h2 : ∀ σ' H', Mid σ' H' → u D σ' H') (h1 : (∀ σ' H', Mid σ' H' → u D σ' H') → tIfS c t1 t2 { D with nx := u D } σ H) : tSeq (tIfS c t1 t2) u D σ H := h1 h2
theorem nin1 {a b : Addr} (h : a ≠ b) : a ∉ [b] := fun z => h (List.mem_singleton.mp z)
theorem nin2 {a b c : Addr} (h : a ≠ b) (h' : a ≠ c) : a ∉ [b, c] := fun z => by
  rcases List.mem_cons.mp z with z | z
  · exact h z
  · exact h' (List.mem_singleton.mp z)
section
variable {α : Type}
/-- an object at p whose dict by_hand stands at q -/
def HoldAt (enc : α → PyData) (K : PySem.W.Frag) (C : Addr) (H : Hp) (p q : Addr) (m : List (Int × α)) : Prop :=
  (∃ dx, H p = some (.ins C dx [("by_hand", .ref q)])) ∧ DictAt enc K H q m
variable {enc : α → PyData} {K : PySem.W.Frag} {C : Addr} {H H' : Hp}
theorem HoldAt.kp {M : List Addr} {p q : Addr} {m : List (Int × α)} (h : HoldAt enc K C H p q m) (k : Kp M H H') (t : TK H H') (n1 : p ∉ M) (n2 : q ∉ M) : HoldAt enc K C H' p q m := by
  obtain ⟨⟨dx, a⟩, b⟩ := h
  exact ⟨⟨dx, k _ _ n1 a⟩, b.kp k t n2⟩
/-- n objects and n dicts, in two lists -/
structure Rack (enc : α → PyData) (K : PySem.W.Frag) (C : Addr) (H : Hp) (L1 L2 : Addr) (n : Nat) (p q md : Nat → Addr) (m m' : Nat → List (Int × α)) : Prop where
  l1 : H L1 = some (.lst ((List.range n).map fun j => V.ref (p j)))
  l2 : H L2 = some (.lst ((List.range n).map fun j => V.ref (md j)))
  ok : ∀ j, j < n → HoldAt enc K C H (p j) (q j) (m j)
  mo : ∀ j, j < n → DictAt enc K H (md j) (m' j)
  dq : ∀ i j, i < n → j < n → i ≠ j → q i ≠ q j
  dm : ∀ i j, i < n → j < n → i ≠ j → md i ≠ md j
  dx : ∀ i j, i < n → j < n → q i ≠ md j
variable {L1 L2 : Addr} {n : Nat} {p q md : Nat → Addr} {m m' : Nat → List (Int × α)}
theorem Rack.kp {M : List Addr} (R : Rack enc K C H L1 L2 n p q md m m') (k : Kp M H H') (t : TK H H') (h : ∀ x ∈ M, x ≠ L1 ∧ x ≠ L2 ∧ ∀ j, j < n → x ≠ p j ∧ x ≠ q j ∧ x ≠ md j) : Rack enc K C H' L1 L2 n p q md m m' where
  l1 := k _ _ (fun z => (h _ z).1 rfl) R.l1
  l2 := k _ _ (fun z => (h _ z).2.1 rfl) R.l2
  ok := fun j hj => (R.ok j hj).kp k t (fun z => ((h _ z).2.2 j hj).1 rfl) (fun z => ((h _ z).2.2 j hj).2.1 rfl)
  mo := fun j hj => (R.mo j hj).kp k t (fun z => ((h _ z).2.2 j hj).2.2 rfl)
  dq := R.dq
  dm := R.dm
  dx := R.dx
/-- a list beside was written -/
theorem Rack.lst {d : Addr} {zs : List V} (R : Rack enc K C H L1 L2 n p q md m m') (k : Kp [d] H H') (t : TK H H') (hd : H d = some (.lst zs)) (n1 : d ≠ L1) (n2 : d ≠ L2) : Rack enc K C H' L1 L2 n p q md m m' :=
  R.kp k t fun x hx => by
    rw [List.mem_singleton] at hx
    subst hx
    refine ⟨n1, n2, fun j hj => ?_⟩
    obtain ⟨⟨dx, a⟩, kvs, b, _⟩ := R.ok j hj
    obtain ⟨kvs', c, _⟩ := R.mo j hj
    exact ⟨ne_of hd a (by intro z; cases z), ne_of hd b (by intro z; cases z), ne_of hd c (by intro z; cases z)⟩
theorem Rack.same (R : Rack enc K C H L1 L2 n p q md m m') (s : Same H H') : Rack enc K C H' L1 L2 n p q md m m' :=
  R.kp (M := []) (Kp.of s) (TK.of s) fun x hx => by cases hx
/-- the k-th object's dict is another one -/
theorem Rack.setq {i : Nat} {mn : List (Int × α)} (R : Rack enc K C H L1 L2 n p q md m m') (hi : i < n) (k : Kp [q i] H H') (t : TK H H') (h : HoldAt enc K C H' (p i) (q i) mn) :
    Rack enc K C H' L1 L2 n p q md (fun j => if j = i then mn else m j) m' := by
  obtain ⟨_, kvq, hq, _⟩ := R.ok i hi
  refine ⟨k _ _ (nin1 (ne_of R.l1 hq (by intro z; cases z))) R.l1, k _ _ (nin1 (ne_of R.l2 hq (by intro z; cases z))) R.l2, fun j hj => ?_, fun j hj => ?_, R.dq, R.dm, R.dx⟩
  · by_cases e : j = i
    · subst e
      simp only [if_true]
      exact h
    · simp only [if_neg e]
      obtain ⟨⟨dx, a⟩, _⟩ := R.ok j hj
      exact (R.ok j hj).kp k t (nin1 (ne_of a hq (by intro z; cases z))) (nin1 (R.dq j i hj hi e))
  · exact (R.mo j hj).kp k t (nin1 (fun z => R.dx i j hi hj z.symm))
theorem Rack.setm {i : Nat} {mn : List (Int × α)} (R : Rack enc K C H L1 L2 n p q md m m') (hi : i < n) (k : Kp [md i] H H') (t : TK H H') (h : DictAt enc K H' (md i) mn) :
    Rack enc K C H' L1 L2 n p q md m (fun j => if j = i then mn else m' j) := by
  obtain ⟨kvq, hq, _⟩ := R.mo i hi
  refine ⟨k _ _ (nin1 (ne_of R.l1 hq (by intro z; cases z))) R.l1, k _ _ (nin1 (ne_of R.l2 hq (by intro z; cases z))) R.l2, fun j hj => ?_, fun j hj => ?_, R.dq, R.dm, R.dx⟩
  · obtain ⟨⟨dx, a⟩, _⟩ := R.ok j hj
    exact (R.ok j hj).kp k t (nin1 (ne_of a hq (by intro z; cases z))) (nin1 (R.dx j i hj hi))
  · by_cases e : j = i
    · subst e
      simp only [if_true]
      exact h
    · simp only [if_neg e]
      exact (R.mo j hj).kp k t (nin1 (R.dm j i hj hi e))
/-- one more -/
theorem Rack.push {pn qn mdn : Addr} {mn : List (Int × α)} (R : Rack enc K C H L1 L2 n p q md m m') (k : Kp [L1, L2] H H') (t : TK H H') (h1 : H' L1 = some (.lst (((List.range n).map fun j => V.ref (p j)) ++ [V.ref pn]))) (h2 : H' L2 = some (.lst (((List.range n).map fun j => V.ref (md j)) ++ [V.ref mdn])))
    (hp : HoldAt enc K C H' pn qn mn) (hm : DictAt enc K H' mdn mn) (nq : H qn = none) (nm : H mdn = none) (nqm : qn ≠ mdn) :
    Rack enc K C H' L1 L2 (n + 1) (fun j => if j = n then pn else p j) (fun j => if j = n then qn else q j) (fun j => if j = n then mdn else md j) (fun j => if j = n then mn else m j) (fun j => if j = n then mn else m' j) := by
  have e1 : ∀ (f : Nat → Addr) (x : Addr), (List.range (n + 1)).map (fun j => V.ref (if j = n then x else f j)) = ((List.range n).map fun j => V.ref (f j)) ++ [V.ref x] := fun f x => by
    rw [List.range_succ, List.map_append, List.map_singleton, if_pos rfl]
    congr 1
    refine List.map_congr_left fun j hj => ?_
    rw [List.mem_range] at hj
    rw [if_neg (by omega)]
  have hq : ∀ j, j < n → q j ≠ qn ∧ q j ≠ mdn := fun j hj => by
    obtain ⟨_, kv, a, _⟩ := R.ok j hj
    exact ⟨ne_of_none a nq, ne_of_none a nm⟩
  have hmd : ∀ j, j < n → md j ≠ qn ∧ md j ≠ mdn := fun j hj => by
    obtain ⟨kv, a, _⟩ := R.mo j hj
    exact ⟨ne_of_none a nq, ne_of_none a nm⟩
  refine ⟨by rw [e1]; exact h1, by rw [e1]; exact h2, fun j hj => ?_, fun j hj => ?_, fun i j hi hj e => ?_, fun i j hi hj e => ?_, fun i j hi hj => ?_⟩
  · by_cases e : j = n
    · simp only [if_pos e]
      exact hp
    · simp only [if_neg e]
      obtain ⟨⟨dx, a⟩, kv, b, _⟩ := R.ok j (by omega)
      exact (R.ok j (by omega)).kp k t (nin2 (ne_of a R.l1 (by intro z; cases z)) (ne_of a R.l2 (by intro z; cases z))) (nin2 (ne_of b R.l1 (by intro z; cases z)) (ne_of b R.l2 (by intro z; cases z)))
  · by_cases e : j = n
    · simp only [if_pos e]
      exact hm
    · simp only [if_neg e]
      obtain ⟨kv, b, _⟩ := R.mo j (by omega)
      exact (R.mo j (by omega)).kp k t (nin2 (ne_of b R.l1 (by intro z; cases z)) (ne_of b R.l2 (by intro z; cases z)))
  · by_cases ei : i = n
    · have ej : ¬ j = n := by omega
      simp only [if_pos ei, if_neg ej]
      exact (hq j (by omega)).1.symm
    · by_cases ej : j = n
      · simp only [if_neg ei, if_pos ej]
        exact (hq i (by omega)).1
      · simp only [if_neg ei, if_neg ej]
        exact R.dq i j (by omega) (by omega) e
  · by_cases ei : i = n
    · have ej : ¬ j = n := by omega
      simp only [if_pos ei, if_neg ej]
      exact (hmd j (by omega)).2.symm
    · by_cases ej : j = n
      · simp only [if_neg ei, if_pos ej]
        exact (hmd i (by omega)).2
      · simp only [if_neg ei, if_neg ej]
        exact R.dm i j (by omega) (by omega) e
  · by_cases ei : i = n
    · by_cases ej : j = n
      · simp only [if_pos ei, if_pos ej]
        exact nqm
      · simp only [if_pos ei, if_neg ej]
        exact (hmd j (by omega)).1.symm
    · by_cases ej : j = n
      · simp only [if_neg ei, if_pos ej]
        exact (hq i (by omega)).2
      · simp only [if_neg ei, if_neg ej]
        exact R.dx i j (by omega) (by omega)
end
section
variable {α : Type} {enc : α → PyData} {K : PySem.W.Frag} {C : Addr} {H H' : Hp}
theorem HoldAt.lst {d p q : Addr} {zs : List V} {m : List (Int × α)} (h : HoldAt enc K C H p q m) (k : Kp [d] H H') (t : TK H H') (hd : H d = some (.lst zs)) : HoldAt enc K C H' p q m := by
  obtain ⟨⟨dx, a⟩, kv, b, _⟩ := id h
  exact h.kp k t (nin1 (ne_of a hd (by intro z; cases z))) (nin1 (ne_of b hd (by intro z; cases z)))
theorem HoldAt.same {p q : Addr} {m : List (Int × α)} (h : HoldAt enc K C H p q m) (s : Same H H') : HoldAt enc K C H' p q m :=
  h.kp (M := []) (Kp.of s) (TK.of s) (by simp) (by simp)
theorem DictAt.lst {d q : Addr} {zs : List V} {m : List (Int × α)} (h : DictAt enc K H q m) (k : Kp [d] H H') (t : TK H H') (hd : H d = some (.lst zs)) : DictAt enc K H' q m := by
  obtain ⟨kv, b, _⟩ := id h
  exact h.kp k t (nin1 (ne_of b hd (by intro z; cases z)))
theorem DictAt.same {q : Addr} {m : List (Int × α)} (h : DictAt enc K H q m) (s : Same H H') : DictAt enc K H' q m :=
  h.kp (M := []) (Kp.of s) (TK.of s) (by simp)
theorem Deck.same {d f : Addr} {n : Int} (h : Deck H d f n) (s : Same H H') : Deck H' d f n := h.kp (M := []) (Kp.of s) (by simp) (by simp)
/-- a dict beside was written -/
theorem Deck.dict {d f q : Addr} {n : Int} {m : List (Int × α)} (h : Deck H d f n) (k : Kp [q] H H') (hq : DictAt enc K H q m) : Deck H' d f n := by
  obtain ⟨kv, b, _⟩ := hq
  obtain ⟨zs, h1⟩ := h.lst
  obtain ⟨zf, h2⟩ := h.lst2
  exact h.kp k (nin1 (ne_of h1 b (by intro z; cases z))) (nin1 (ne_of h2 b (by intro z; cases z)))
variable {La Lb : Addr} {n : Nat} {p q md : Nat → Addr} {m m' : Nat → List (Int × α)}
/-- the k-th object's dict, the k-th dict and a list beside are others -/
theorem Rack.set2 {d : Addr} {zs : List V} {i : Nat} {mn mn' : List (Int × α)} (R : Rack enc K C H La Lb n p q md m m') (hi : i < n) (k : Kp [d, q i, md i] H H') (t : TK H H') (hd : H d = some (.lst zs)) (n1 : d ≠ La) (n2 : d ≠ Lb)
    (h : HoldAt enc K C H' (p i) (q i) mn) (h' : DictAt enc K H' (md i) mn') :
    Rack enc K C H' La Lb n p q md (fun j => if j = i then mn else m j) (fun j => if j = i then mn' else m' j) := by
  obtain ⟨_, kvq, hq, _⟩ := R.ok i hi
  obtain ⟨kvm, hm, _⟩ := R.mo i hi
  have nin : ∀ {x : Addr}, x ≠ d → x ≠ q i → x ≠ md i → x ∉ [d, q i, md i] := fun a b c z => by
    rcases List.mem_cons.mp z with z | z
    · exact a z
    · exact nin2 b c z
  refine ⟨k _ _ (nin n1.symm (ne_of R.l1 hq (by intro z; cases z)) (ne_of R.l1 hm (by intro z; cases z))) R.l1, k _ _ (nin n2.symm (ne_of R.l2 hq (by intro z; cases z)) (ne_of R.l2 hm (by intro z; cases z))) R.l2, fun j hj => ?_, fun j hj => ?_, R.dq, R.dm, R.dx⟩
  · by_cases e : j = i
    · subst e
      simp only [if_true]
      exact h
    · simp only [if_neg e]
      obtain ⟨⟨dx, a⟩, kv, b, _⟩ := R.ok j hj
      exact (R.ok j hj).kp k t (nin (ne_of a hd (by intro z; cases z)) (ne_of a hq (by intro z; cases z)) (ne_of a hm (by intro z; cases z))) (nin (ne_of b hd (by intro z; cases z)) (R.dq j i hj hi e) (R.dx j i hj hi))
  · by_cases e : j = i
    · subst e
      simp only [if_true]
      exact h'
    · simp only [if_neg e]
      obtain ⟨kv, b, _⟩ := R.mo j hj
      exact (R.mo j hj).kp k t (nin (ne_of b hd (by intro z; cases z)) (fun z => R.dx i j hi hj z.symm) (R.dm j i hj hi e))
end
theorem at3 {x y z : V} {r : Int} (h0 : 0 ≤ r) (h1 : r < 3) : ∃ v, atI [x, y, z] r = some v ∧ (v = x ∨ v = y ∨ v = z) := by
  have h : r = 0 ∨ r = 1 ∨ r = 2 := by omega
  rcases h with rfl | rfl | rfl
  · exact ⟨x, rfl, .inl rfl⟩
  · exact ⟨y, rfl, .inr (.inl rfl)⟩
  · exact ⟨z, rfl, .inr (.inr rfl)⟩
theorem at5 {a b c d e : Int} {r : Int} (h0 : 0 ≤ r) (h1 : r < 5) : ∃ v : Int, atI [V.int a, .int b, .int c, .int d, .int e] r = some (.int v) := by
  have h : r = 0 ∨ r = 1 ∨ r = 2 ∨ r = 3 ∨ r = 4 := by omega
  rcases h with rfl | rfl | rfl | rfl | rfl <;> exact ⟨_, rfl⟩
theorem atR {n : Nat} {f : Nat → Addr} {r : Int} (h0 : 0 ≤ r) (h1 : r < n) : atI ((List.range n).map fun j => V.ref (f j)) r = some (.ref (f r.toNat)) := by
  have e : ((r.toNat : Nat) : Int) = r := by omega
  have := atI_nat (xs := (List.range n).map fun j => V.ref (f j)) (j := r.toNat) (v := .ref (f r.toNat)) (by
    rw [List.getElem?_map, List.getElem?_range (by omega)]
    rfl)
  rw [e] at this
  exact this
def spLaw (K : PySem.W.Frag) : Sp := fun vs H Q _ => ∃ (a : Addr) (ns : List Int), vs = [.ref a] ∧ SqL K H a (ns.map V.int) ∧ ns.length ≤ 63 ∧ ∀ H', Q (.bl true) H'
/-! ### lists of data -/
def LstAt (K : PySem.W.Frag) (H : Hp) (a : Addr) (ds : List PyData) : Prop := ∃ xs, H a = some (.lst xs) ∧ RpL K H ds xs
section
variable {K : PySem.W.Frag} {H H' : Hp}
theorem LstAt.kp {M : List Addr} {a : Addr} {ds : List PyData} (h : LstAt K H a ds) (k : Kp M H H') (t : TK H H') (n : a ∉ M) : LstAt K H' a ds := by
  obtain ⟨xs, h1, h2⟩ := h
  exact ⟨xs, k _ _ n h1, RpL.tk t _ _ h2⟩
theorem LstAt.same {a : Addr} {ds : List PyData} (h : LstAt K H a ds) (s : Same H H') : LstAt K H' a ds := h.kp (M := []) (Kp.of s) (TK.of s) (by simp)
theorem LstAt.lst {a : Addr} {ds : List PyData} (h : LstAt K H a ds) : ∃ zs, H a = some (.lst zs) := ⟨_, h.choose_spec.1⟩
theorem RpL.app : ∀ {ds es : List PyData} {xs ys : List V}, RpL K H ds xs → RpL K H es ys → RpL K H (ds ++ es) (xs ++ ys)
  | [], es, xs, ys, h1, h2 => by
    unfold RpL at h1
    subst h1
    exact h2
  | d :: ds, es, xs, ys, h1, h2 => by
    unfold RpL at h1
    obtain ⟨v, r, rfl, a, b⟩ := h1
    show RpL K H (d :: (ds ++ es)) (v :: (r ++ ys))
    exact RpL.cons a (RpL.app b h2)
theorem RpL.take : ∀ (k : Nat) {ds : List PyData} {xs : List V}, RpL K H ds xs → RpL K H (ds.take k) (xs.take k)
  | 0, ds, xs, _ => by
    rw [List.take_zero, List.take_zero]
    exact RpL.nil
  | k + 1, [], xs, h => by
    unfold RpL at h
    subst h
    exact RpL.nil
  | k + 1, d :: ds, xs, h => by
    unfold RpL at h
    obtain ⟨v, r, rfl, a, b⟩ := h
    exact RpL.cons a (RpL.take k b)
theorem RpL.drop : ∀ (k : Nat) {ds : List PyData} {xs : List V}, RpL K H ds xs → RpL K H (ds.drop k) (xs.drop k)
  | 0, ds, xs, h => h
  | k + 1, [], xs, h => by
    unfold RpL at h
    subst h
    exact RpL.nil
  | k + 1, d :: ds, xs, h => by
    unfold RpL at h
    obtain ⟨v, r, rfl, a, b⟩ := h
    exact RpL.drop k b
theorem inV_int {k : Int} : ∀ ns : List Int, inV (.int k) (ns.map V.int) = decide (k ∈ ns)
  | [] => by simp [inV]
  | n :: ns => by
    have h := inV_int (k := k) ns
    unfold inV at h ⊢
    rw [List.map_cons, List.any_cons, h]
    show ((n == k) || _) = _
    by_cases e : n = k
    · simp [e]
    · have e2 : ¬ k = n := fun z => e z.symm
      simp [e, e2]
theorem flat_ints (ns : List Int) : (ns.map V.int).all flatV = true := by
  rw [List.all_eq_true]
  intro x hx
  obtain ⟨n, _, rfl⟩ := List.mem_map.mp hx
  rfl
theorem set_wipe {σ : L2.St} {i : Nat} {x : Option V} : (wipe σ [i]).set i x = σ.set i x := by
  show (σ.set i none).set i x = _
  rw [List.set_set]
theorem wipe_set {σ : L2.St} {i : Nat} {x : Option V} : wipe (σ.set i x) [i] = wipe σ [i] := by
  show (σ.set i x).set i none = σ.set i none
  rw [List.set_set]
/-- [x for x in xs if test] -/
theorem filt_lc {β : Type} {enc : β → PyData} {tt : TT} {i : Nat} {σ : L2.St} {H2 : Hp} {S D : Addr} {xs : List V} {L : List β} {Qd : Hp → Prop} (p : β → Bool) (hS : H2 S = some (.lst xs)) (hr : RpL K H2 (L.map enc) xs) (hD : H2 D = none) (hσ : i < σ.length) (hl : L.length ≤ 16000000)
    (htt : ∀ (b : β) (x : V) (H' : Hp) (Q : Bool → Hp → Prop), b ∈ L → Rp K H' (enc b) x → Same H2 H' → Q (p b) H' → tt (σ.set i (some x)) H' Q)
    (hd : ∀ (H' : Hp) (ys : List V), Same H2 H' → H' D = some (.lst ys) → RpL K H' ((L.filter p).map enc) ys → Qd H') :
    ∃ W : Nat → Nat → Hp → Prop, (∃ m, W 0 m (upd H2 D (.lst []))) ∧ ∀ j m H, W j m H →
      ((Itl K S).stop j H ∧ Qd H) ∨ ((Itl K S).go j H ∧ ∃ Nx : Hp → Prop, (∀ H', Nx H' → ∃ m', m' < m ∧ W (j + 1) m' H') ∧ ∀ x H', (Itl K S).yld j H x H' → gName i x (wipe σ [i]) H' fun σ2 H2 => wipe σ2 [i] = wipe σ [i] ∧ tt σ2 H2 fun b H3 =>
        if b = true then tVar i σ2 H3 fun y H4 => ∃ acc, H4 D = some (.lst acc) ∧ acc.length < sizeLine ∧ Nx (upd H4 D (.lst (acc ++ [y]))) else Nx H3) := by
  refine lc_list (K := K) (a := S) (xs := xs) (fun j H => ∃ ys, Same H2 H ∧ H D = some (.lst ys) ∧ RpL K H (((L.take j).filter p).map enc) ys)
    ⟨[], (L2.Same.refl H2).new hD, upd_same, RpL.nil⟩ (fun j H _ ⟨ys, s, _, _⟩ => SqL.of (s _ _ hS)) ?_ ?_
  · rintro j x H3 hx ⟨ys, s3, hD3, hr3⟩
    have hlen := RpL.len _ _ hr
    have hj : j < L.length := by
      have q := (List.getElem?_eq_some_iff.mp hx).1
      rw [hlen, List.length_map] at q
      exact q
    obtain ⟨v, ev, rv⟩ := RpL.get _ _ hr j (enc L[j]) (by rw [List.getElem?_map, List.getElem?_eq_getElem hj]; rfl)
    have ex : v = x := Option.some.inj (ev.symm.trans hx)
    rw [ex] at rv
    have rx := Rp.tk (TK.of s3) _ _ rv
    show wipe ((wipe σ [i]).set i (some x)) [i] = wipe σ [i] ∧ _
    rw [set_wipe]
    refine ⟨wipe_set, ?_⟩
    have hly : ys.length < sizeLine := by
      have := RpL.len _ _ hr3
      rw [List.length_map] at this
      have h2 := List.length_filter_le p (L.take j)
      rw [List.length_take] at h2
      exact Nat.lt_of_le_of_lt (show ys.length ≤ 16000000 by omega) (by decide)
    refine htt L[j] x H3 _ (List.getElem_mem hj) rx s3 ?_
    have et : L.take (j + 1) = L.take j ++ [L[j]] := List.take_succ_eq_append_getElem hj
    cases e : p L[j] with
    | false =>
      refine iteF ⟨ys, s3, hD3, ?_⟩
      rw [et, List.filter_append, List.filter_cons, e]
      simpa using hr3
    | true =>
      refine iteT ⟨x, ?_, ys, hD3, hly, ys ++ [x], s3.wrn hD, upd_same, ?_⟩
      · rw [List.getElem?_set_self hσ]
      · have tE : TK H3 (upd H3 D (.lst (ys ++ [x]))) := (TK.refl _).wr hD3 rfl
        rw [et, List.filter_append, List.filter_cons, e, List.map_append]
        exact RpL.app (RpL.tk tE _ _ hr3) (RpL.cons (Rp.tk tE _ _ rx) RpL.nil)
  · rintro H3 ⟨ys, s3, hD3, hr3⟩
    have hlen := RpL.len _ _ hr
    rw [hlen, List.length_map, List.take_length] at hr3
    exact hd H3 ys s3 hD3 hr3
/-- [number of x for x in xs] -/
theorem mapI_lc {β : Type} {enc : β → PyData} {te : TE} {i : Nat} {σ : L2.St} {H2 : Hp} {S D : Addr} {xs : List V} {L : List β} {Qd : Hp → Prop} (f : β → Int) (hS : H2 S = some (.lst xs)) (hr : RpL K H2 (L.map enc) xs) (hD : H2 D = none) (hl : L.length ≤ 16000000)
    (hte : ∀ (b : β) (x : V) (H' : Hp) (Q : VK), b ∈ L → Rp K H' (enc b) x → Same H2 H' → Q (.int (f b)) H' → te (σ.set i (some x)) H' Q)
    (hd : ∀ (H' : Hp), Same H2 H' → H' D = some (.lst ((L.map f).map V.int)) → Qd H') :
    ∃ W : Nat → Nat → Hp → Prop, (∃ m, W 0 m (upd H2 D (.lst []))) ∧ ∀ j m H, W j m H →
      ((Itl K S).stop j H ∧ Qd H) ∨ ((Itl K S).go j H ∧ ∃ Nx : Hp → Prop, (∀ H', Nx H' → ∃ m', m' < m ∧ W (j + 1) m' H') ∧ ∀ x H', (Itl K S).yld j H x H' → gName i x (wipe σ [i]) H' fun σ2 H2 => wipe σ2 [i] = wipe σ [i] ∧ tYes σ2 H2 fun b H3 =>
        if b = true then te σ2 H3 fun y H4 => ∃ acc, H4 D = some (.lst acc) ∧ acc.length < sizeLine ∧ Nx (upd H4 D (.lst (acc ++ [y]))) else Nx H3) := by
  refine lc_list (K := K) (a := S) (xs := xs) (fun j H => Same H2 H ∧ H D = some (.lst (((L.take j).map f).map V.int)))
    ⟨(L2.Same.refl H2).new hD, upd_same⟩ (fun j H _ ⟨s, _⟩ => SqL.of (s _ _ hS)) ?_ ?_
  · rintro j x H3 hx ⟨s3, hD3⟩
    have hlen := RpL.len _ _ hr
    have hj : j < L.length := by
      have q := (List.getElem?_eq_some_iff.mp hx).1
      rw [hlen, List.length_map] at q
      exact q
    obtain ⟨v, ev, rv⟩ := RpL.get _ _ hr j (enc L[j]) (by rw [List.getElem?_map, List.getElem?_eq_getElem hj]; rfl)
    have ex : v = x := Option.some.inj (ev.symm.trans hx)
    rw [ex] at rv
    have rx := Rp.tk (TK.of s3) _ _ rv
    show wipe ((wipe σ [i]).set i (some x)) [i] = wipe σ [i] ∧ _
    rw [set_wipe]
    refine ⟨wipe_set, tYes_t (iteT ?_)⟩
    refine hte L[j] x H3 _ (List.getElem_mem hj) rx s3 ⟨_, hD3, ?_, s3.wrn hD, ?_⟩
    · rw [List.length_map, List.length_map, List.length_take]
      exact Nat.lt_of_le_of_lt (show min j L.length ≤ 16000000 by omega) (by decide)
    · rw [upd_same, List.take_succ_eq_append_getElem hj, List.map_append, List.map_append]
      rfl
  · rintro H3 ⟨s3, hD3⟩
    have hlen := RpL.len _ _ hr
    rw [hlen, List.length_map, List.take_length] at hD3
    exact hd H3 s3 hD3
end
section
variable {K : PySem.W.Frag} {H H' : Hp}
/-- [e for x in xs], each e data -/
theorem mapD_it {J : It} {G : Hp → Prop} {β : Type} {enc : β → PyData} {te : TE} {i : Nat} {σ : L2.St} {H2 : Hp} {D : Addr} {xs : List V} {L : List β} {Qd : Hp → Prop} (w : Walk J xs.length G (YAt xs)) (hG : ∀ H', Same H2 H' → G H') (g : β → PyData) (hr : RpL K H2 (L.map enc) xs) (hD : H2 D = none) (hl : L.length ≤ 16000000)
    (hte : ∀ (b : β) (x : V) (H' : Hp) (Q : VK), b ∈ L → Rp K H' (enc b) x → Same H2 H' → (∀ (H'' : Hp) (y : V), Same H' H'' → Rp K H'' (g b) y → Q y H'') → te (σ.set i (some x)) H' Q)
    (hd : ∀ (H' : Hp) (ys : List V), Same H2 H' → H' D = some (.lst ys) → RpL K H' (L.map g) ys → Qd H') :
    ∃ W : Nat → Nat → Hp → Prop, (∃ m, W 0 m (upd H2 D (.lst []))) ∧ ∀ j m H, W j m H →
      (J.stop j H ∧ Qd H) ∨ (J.go j H ∧ ∃ Nx : Hp → Prop, (∀ H', Nx H' → ∃ m', m' < m ∧ W (j + 1) m' H') ∧ ∀ x H', J.yld j H x H' → gName i x (wipe σ [i]) H' fun σ2 H2 => wipe σ2 [i] = wipe σ [i] ∧ tYes σ2 H2 fun b H3 =>
        if b = true then te σ2 H3 fun y H4 => ∃ acc, H4 D = some (.lst acc) ∧ acc.length < sizeLine ∧ Nx (upd H4 D (.lst (acc ++ [y]))) else Nx H3) := by
  refine lc_it w (fun j H => ∃ ys, Same H2 H ∧ H D = some (.lst ys) ∧ RpL K H ((L.take j).map g) ys)
    ⟨[], (L2.Same.refl H2).new hD, upd_same, RpL.nil⟩ (fun j H _ ⟨ys, s, _⟩ => hG H s) ?_ ?_
  · rintro j x H3 H3' hj ⟨ys, s3, hD3, hr3⟩ ⟨rfl, hx⟩
    have hlen := RpL.len _ _ hr
    rw [List.length_map] at hlen
    have hj : j < L.length := by omega
    obtain ⟨v, ev, rv⟩ := RpL.get _ _ hr j (enc L[j]) (by rw [List.getElem?_map, List.getElem?_eq_getElem hj]; rfl)
    have ex : v = x := Option.some.inj (ev.symm.trans hx)
    rw [ex] at rv
    have rx := Rp.tk (TK.of s3) _ _ rv
    show wipe ((wipe σ [i]).set i (some x)) [i] = wipe σ [i] ∧ _
    rw [set_wipe]
    refine ⟨wipe_set, tYes_t (iteT ?_)⟩
    refine hte L[j] x H3' _ (List.getElem_mem hj) rx s3 fun H4 y s4 ry => ⟨ys, s4 _ _ hD3, ?_, ys ++ [y], (s3.trans s4).wrn hD, upd_same, ?_⟩
    · have := RpL.len _ _ hr3
      rw [List.length_map, List.length_take] at this
      exact Nat.lt_of_le_of_lt (show ys.length ≤ 16000000 by omega) (by decide)
    · have tE : TK H4 (upd H4 D (.lst (ys ++ [y]))) := (TK.refl _).wr (s4 _ _ hD3) rfl
      rw [List.take_succ_eq_append_getElem hj, List.map_append]
      exact RpL.app (RpL.tk ((TK.of s4).trans tE) _ _ hr3) (RpL.cons (Rp.tk tE _ _ ry) RpL.nil)
  · rintro H3 ⟨ys, s3, hD3, hr3⟩
    have hlen := RpL.len _ _ hr
    rw [hlen, List.length_map, List.take_length] at hr3
    exact hd H3 ys s3 hD3 hr3
theorem RpL.ints : ∀ {ns : List Int} {ys : List V}, RpL K H (ns.map PyData.int) ys → ys = ns.map V.int
  | [], ys, h => by
    unfold List.map RpL at h
    exact h
  | n :: ns, ys, h => by
    rw [List.map_cons] at h
    unfold RpL at h
    obtain ⟨v, r, rfl, h1, h2⟩ := h
    unfold Rp at h1
    rw [RpL.ints h2, h1]
    rfl
theorem dp_ints : ∀ (ns : List Int), DpAll K H (ns.map V.int) (ns.map PyData.int)
  | [] => .nil
  | n :: ns => .cons (.int n) (dp_ints ns)
theorem LstAt.dict {α : Type} {enc : α → PyData} {a q : Addr} {ds : List PyData} {m : List (Int × α)} (h : LstAt K H a ds) (k : Kp [q] H H') (t : TK H H') (hq : DictAt enc K H q m) : LstAt K H' a ds := by
  obtain ⟨xs, h1, _⟩ := id h
  obtain ⟨kv, h2, _⟩ := hq
  exact h.kp k t (nin1 (ne_of h1 h2 (by intro z; cases z)))
theorem dep_ints (ns : List Int) : dep (.tuple (ns.map PyData.int)) ≤ 1 := by
  unfold dep
  have := deps_map_le (c := 0) (f := PyData.int) ns fun x _ => Nat.le_refl _
  omega
end
section
variable {K : PySem.W.Frag} {H H' : Hp}
/-- [e for i in range(..)], each e data -/
theorem mapR_it {J : It} {n : Nat} {fv : Nat → V} {te : TE} {i : Nat} {σ : L2.St} {H2 : Hp} {D : Addr} {Qd : Hp → Prop} (w : Walk J n (fun _ => True) (YFn fv)) (g : Nat → PyData) (hD : H2 D = none) (hl : n ≤ 16000000)
    (hte : ∀ (j : Nat) (H' : Hp) (Q : VK), j < n → Same H2 H' → (∀ (H'' : Hp) (y : V), Same H' H'' → Rp K H'' (g j) y → Q y H'') → te (σ.set i (some (fv j))) H' Q)
    (hd : ∀ (H' : Hp) (ys : List V), Same H2 H' → H' D = some (.lst ys) → RpL K H' ((List.range n).map g) ys → Qd H') :
    ∃ W : Nat → Nat → Hp → Prop, (∃ m, W 0 m (upd H2 D (.lst []))) ∧ ∀ j m H, W j m H →
      (J.stop j H ∧ Qd H) ∨ (J.go j H ∧ ∃ Nx : Hp → Prop, (∀ H', Nx H' → ∃ m', m' < m ∧ W (j + 1) m' H') ∧ ∀ x H', J.yld j H x H' → gName i x (wipe σ [i]) H' fun σ2 H2 => wipe σ2 [i] = wipe σ [i] ∧ tYes σ2 H2 fun b H3 =>
        if b = true then te σ2 H3 fun y H4 => ∃ acc, H4 D = some (.lst acc) ∧ acc.length < sizeLine ∧ Nx (upd H4 D (.lst (acc ++ [y]))) else Nx H3) := by
  refine lc_it w (fun j H => ∃ ys, Same H2 H ∧ H D = some (.lst ys) ∧ RpL K H ((List.range j).map g) ys)
    ⟨[], (L2.Same.refl H2).new hD, upd_same, RpL.nil⟩ (fun j H _ _ => trivial) ?_ ?_
  · rintro j x H3 H3' hj ⟨ys, s3, hD3, hr3⟩ ⟨rfl, rfl⟩
    show wipe ((wipe σ [i]).set i (some (fv j))) [i] = wipe σ [i] ∧ _
    rw [set_wipe]
    refine ⟨wipe_set, tYes_t (iteT ?_)⟩
    refine hte j H3' _ hj s3 fun H4 y s4 ry => ⟨ys, s4 _ _ hD3, ?_, ys ++ [y], (s3.trans s4).wrn hD, upd_same, ?_⟩
    · have := RpL.len _ _ hr3
      rw [List.length_map, List.length_range] at this
      exact Nat.lt_of_le_of_lt (show ys.length ≤ 16000000 by omega) (by decide)
    · have tE : TK H4 (upd H4 D (.lst (ys ++ [y]))) := (TK.refl _).wr (s4 _ _ hD3) rfl
      rw [List.range_succ, List.map_append]
      exact RpL.app (RpL.tk ((TK.of s4).trans tE) _ _ hr3) (RpL.cons (Rp.tk tE _ _ ry) RpL.nil)
  · rintro H3 ⟨ys, s3, hD3, hr3⟩
    exact hd H3 ys s3 hD3 hr3
end
end Wn

namespace Wn
open PySem L2
def top (i : Nat) : Stmt := PySem.Challenge.pw_wrapnets_k16_whole_no_heads.main.body.getD i (.Pass ⟨0, 0, 0, 0⟩)
end Wn

namespace Wn
open PySem L2

abbrev sMixed : Stmt := top 17
abbrev sDeck : Stmt := top 18
abbrev sNext : Stmt := top 19
abbrev sSame : Stmt := top 21
section
variable {P : Program} {w : World} {K : PySem.W.Frag} {mg : Str → Option Value} {base : Heap}
theorem scMixed : FnScope ["_law_cell", "_law_at", "_law_one"] ["_law_cell", "_law_at"] (defScope sMixed) := ⟨rfl, rfl, rfl, by decide +kernel, rfl, by decide +kernel, by decide +kernel⟩
theorem ok_mixed {f : Addr} {fd : FuncData} (F : Fun K "_law_mixed" "_law_mixed" sMixed f fd) : FnOk P w K mg base CX0 1 f fd ["_law_cell", "_law_at"] spMixed := by
  refine F.ok scMixed (fun vs H Q E h => ?_) (fun cdv A outer s H vs Q E hr h => ?_)
  · obtain ⟨c, a, rfl, _⟩ := h
    rfl
  · obtain ⟨c, a, rfl, ha, hb, k⟩ := h
    refine ⟨_, pss_cons (ps_set (i := 2) scMixed.nd rfl (Or.inl rfl) (pe_op op_mod (pe_op op_add (pe_op op_add (pe_op op_mul (pe_op op_mod (pv 0) pe_int) pe_int)
      (pe_op op_mul (pe_op op_mul (pe_op op_add (pv 1) pe_int) (pe_op op_add (pv 1) pe_int)) pe_int)) pe_int) pe_int))
      (pss_one (ps_ret (pe_op op_fdiv (pe_op op_mod (pe_op op_mul (pv 2) (pv 2)) pe_int) pe_int))), ?_⟩
    refine ⟨_, rfl, _, _, rfl, rfl, (by show (0 : Int) < 2147483629; decide), _, _, rfl, rfl, .inr ⟨by decide, by decide⟩, _, rfl, _, _, rfl, rfl, _, rfl, _, _, rfl, rfl, _, _, rfl, rfl, .inl ⟨by omega, by omega⟩, _, _, rfl, rfl, .inr ⟨by decide, by decide⟩,
      _, _, rfl, rfl, _, _, rfl, rfl, _, _, rfl, rfl, (by show (0 : Int) < 2147483647; decide), ?_⟩
    refine ⟨_, rfl, _, rfl, _, _, rfl, rfl, .inl ⟨?_, ?_⟩, _, _, rfl, rfl, (by show (0 : Int) < 2147483629; decide), _, _, rfl, rfl, ⟨by decide, by decide⟩, k _⟩
    · have := Int.emod_nonneg (c % 2147483629 * 48271 + (a + 1) * (a + 1) * 7919 + 11) (show (2147483647 : Int) ≠ 0 by decide)
      omega
    · have := Int.emod_lt_of_pos (c % 2147483629 * 48271 + (a + 1) * (a + 1) * 7919 + 11) (show (0 : Int) < 2147483647 by decide)
      omega
theorem scNext : FnScope ["_law_deck_here", "_law_many", "_law_at"] ["_law_deck_here", "_law_many"] (defScope sNext) := ⟨rfl, rfl, rfl, by decide +kernel, rfl, by decide +kernel, by decide +kernel⟩
theorem ok_next {f : Addr} {fd : FuncData} (F : Fun K "_law_next" "_law_next" sNext f fd) (zL : mg "len" = none) (M : Cd P w K mg base 1 "_law_mixed" ["_law_cell", "_law_at"] spMixed) : FnOk P w K mg base CX0 2 f fd ["_law_deck_here", "_law_many"] spNext := by
  obtain ⟨fM, fdM, GM, mM, kM, bM⟩ := M
  refine F.ok scNext (fun vs H Q E h => ?_) (fun cdv A outer s H vs Q E hr h => ?_)
  · obtain ⟨d, f, m, n, rfl, _⟩ := h
    rfl
  · obtain ⟨d, f, m, n, rfl, hm, hn, ⟨a, wh, xs, hd, hf, a0, an, hx⟩, k⟩ := h
    have ndf : f ≠ d := fun z => by
      rw [z, hd] at hf
      have := congrArg (fun o => match o with | some (HO.lst (_ :: _ :: .ref _ :: _)) => true | _ => false) hf
      simp only at this
      cases xs with
      | nil => cases hf
      | cons x xs => cases xs with
        | nil => cases hf
        | cons y xs => cases xs with
          | nil => cases hf
          | cons z xs => cases hf
    refine ⟨_, pss_cons (ps_set (i := 2) scNext.nd rfl (Or.inl rfl) (pe_ix ix_list (pv 0) pe_int (fun _ _ => rfl)))
      (pss_cons (ps_asg (pe_op op_add (pv 2) pe_int) (pg_sub (pv 0) pe_int set_list))
      (pss_cons (ps_if (pt_cmpR op_lt (pv 2) (pe_callB call_len (by rfl) zL PySem.boot_len (pa_cons (pe_ix ix_list (pv 0) pe_int (fun _ _ => rfl)) pa_nil)) (nomark _))
        (pss_one (ps_ret (pe_op op_mod (pe_ix ix_list (pe_ix ix_list (pv 0) pe_int (fun _ _ => rfl)) (pv 2) (fun _ _ => rfl)) (pv 1)))) pss_nil)
      (pss_one (ps_ret (pe_op op_mod (pe_call GM hr rfl mM kM bM .nil pass0 (pa_cons (pe_ix ix_list (pv 0) pe_int (fun _ _ => rfl)) (pa_cons (pv 2) pa_nil))) (pv 1)))))), ?_⟩
    have hd2 : upd H d (.lst [.int (a + 1), .int wh, .ref f]) d = some (.lst [.int (a + 1), .int wh, .ref f]) := upd_same
    have hf2 : upd H d (.lst [.int (a + 1), .int wh, .ref f]) f = some (.lst (xs.map V.int)) := (upd_ne ndf).trans hf
    have hk : Kp [d] H (upd H d (.lst [.int (a + 1), .int wh, .ref f])) := (Kp.refl _ _).wr (List.mem_singleton.mpr rfl)
    have hD : Deck (upd H d (.lst [.int (a + 1), .int wh, .ref f])) d f (n + 1) := ⟨a + 1, wh, xs, hd2, hf2, by omega, by omega, hx⟩
    refine ⟨_, rfl, d, _, _, .int a, rfl, rfl, SqL.of hd, rfl, ?_⟩
    refine ⟨_, rfl, _, _, rfl, rfl, _, rfl, d, _, _, 0, rfl, rfl, hd, rfl, ?_⟩
    refine ⟨_, rfl, _, rfl, d, _, _, .ref f, rfl, rfl, SqL.of hd2, rfl, _, _, rfl, .inl ⟨_, SqL.of hf2, rfl⟩, _, _, rfl, rfl, _, rfl, ?_⟩
    refine ite2 (fun hl => ?_) (fun _ => ?_)
    · have hl := of_decide_eq_true hl
      rw [List.length_map] at hl
      have hj : a.toNat < xs.length := by omega
      have ha : ((a.toNat : Nat) : Int) = a := by omega
      refine ⟨_, rfl, d, _, _, .ref f, rfl, rfl, SqL.of hd2, rfl, _, rfl, f, _, _, .int (xs[a.toNat]), rfl, rfl, SqL.of hf2, ?_, _, rfl, _, _, rfl, rfl, hm, ?_⟩
      · have := atI_nat (xs := xs.map V.int) (j := a.toNat) (v := .int (xs[a.toNat])) (by simp [hj])
        rw [ha] at this
        exact this
      · exact k _ _ (Int.emod_nonneg _ (by omega)) (Int.emod_lt_of_pos _ hm) hk hD
    · refine ⟨_, rfl, d, _, _, .int wh, rfl, rfl, SqL.of hd2, rfl, _, rfl, wh, a, rfl, by omega, by omega, fun r => ?_⟩
      exact ⟨_, rfl, _, _, rfl, rfl, hm, k _ _ (Int.emod_nonneg _ (by omega)) (Int.emod_lt_of_pos _ hm) hk hD⟩
end
end Wn
namespace Wn
open PySem L2
section
variable {P : Program} {w : World} {K : PySem.W.Frag} {mg : Str → Option Value} {base : Heap}
theorem scDeck : FnScope ["_law_script", "_law_found_here", "_law_whole", "_law_k", "_law_rest", "_law_at"] ["_law_script"] (defScope sDeck) := ⟨rfl, rfl, rfl, by decide +kernel, rfl, by decide +kernel, by decide +kernel⟩
def restOf (σ : L2.St) (_ : Hp) : Nat := match σ[4]? with | some (some (V.int r)) => r.toNat | _ => 0
theorem ok_deck {f : Addr} {fd : FuncData} (F : Fun K "_law_deck" "_law_deck" sDeck f fd) (zL : mg "len" = none) (zR : mg "range" = none) (zM : mg "min" = none) (M : Cd P w K mg base 1 "_law_mixed" ["_law_cell", "_law_at"] spMixed) : FnOk P w K mg base CX0 2 f fd ["_law_script"] (spDeck K) := by
  obtain ⟨fM, fdM, GM, mM, kM, bM⟩ := M
  refine F.ok scDeck (fun vs H Q E h => ?_) (fun cdv A outer s H vs Q E hr h => ?_)
  · obtain ⟨a, ns, rfl, _⟩ := h
    rfl
  · obtain ⟨a, ns, rfl, hS, hlen, k⟩ := h
    refine ⟨_, pss_cons (ps_set (i := 1) scDeck.nd rfl (Or.inl rfl) (pe_lst pa_nil)) (pss_cons (ps_set (i := 2) scDeck.nd rfl (Or.inl rfl) (pe_callB call_len (by rfl) zL PySem.boot_len (pa_cons (pv 0) pa_nil)))
      (pss_cons (ps_for PassesOwn.never rfl (pi_range1 rfl zR (pa_cons (pe_callB (call_min2 rfl) (by rfl) zM (by decide +kernel) (pa_cons (pe_callB call_len (by rfl) zL PySem.boot_len (pa_cons (pv 0) pa_nil)) (pa_cons pe_int pa_nil))) pa_nil)) (pg_name (i := 3) scDeck.nd rfl (Or.inr rfl))
        (pss_cons (ps_set (i := 4) scDeck.nd rfl (Or.inr rfl) (pe_ix ix_list (pv 0) (pv 3) (fun _ _ => rfl)))
        (pss_cons (ps_if (pt_cmpR op_ge (pv 4) (pe_op op_pow pe_int pe_int) (nomark _))
          (pss_one (ps_while PassesOwn.never (PW.pt (pw_and (pt_cmpR op_gt (pv 4) pe_int (nomark _)) (pw_and1 (pt_cmpR op_lt (pe_callB call_len (by rfl) zL PySem.boot_len (pa_cons (pv 1) pa_nil)) pe_int (nomark _)))))
            (pss_cons (ps_expr (pe_bm PySem.F.plainAttrs_list PySem.F.slot_list_append PySem.F.type_list_append mt_append (pv 1) (pa_cons (pe_op op_mod (pv 4) pe_int) pa_nil)))
            (pss_one (ps_set (i := 4) scDeck.nd rfl (Or.inr rfl) (pe_op op_fdiv (pv 4) pe_int))))))
          (pss_one (ps_expr (pe_bm PySem.F.plainAttrs_list PySem.F.slot_list_extend PySem.F.type_list_extend mt_extend (pv 1) (pa_cons
            (pe_lc (own := [("_law_at", 5)]) (g := gName 5) (tt := tYes) rfl scDeck.nd (pi_range1 rfl zR (pa_cons pe_int pa_nil)) (blkOk_by (N := ["_law_script", "_law_found_here", "_law_whole", "_law_k", "_law_rest", "_law_at"]) (sc := defScope sDeck) (by decide +kernel))
              (fun _ _ _ _ _ => pg_name (i := 5) scDeck.nd rfl (Or.inl rfl)) (fun _ _ _ _ _ => pts_nil)
              (fun _ _ _ _ _ => pe_call GM hr rfl mM kM bM .nil pass0 (pa_cons (pv 4) (pa_cons (pe_op op_add (pe_op op_mul pe_int (pv 3)) (pv 5)) pa_nil)))) pa_nil)))))
        (pss_one (ps_set (i := 2) scDeck.nd rfl (Or.inl rfl) (pe_op op_mod (pe_op op_add (pe_op op_mul (pv 2) pe_int) (pe_ix ix_list (pv 0) (pv 3) (fun _ _ => rfl))) pe_int))))))
      (pss_one (ps_ret (pe_lst (pa_cons pe_int (pa_cons (pv 2) (pa_cons (pv 1) pa_nil)))))))), ?_⟩
    refine ⟨Nat.zero_le _, fun l hl => ?_⟩
    have s0 : Same H (upd H l (.lst [])) := (L2.Same.refl H).new hl
    have hS0 := s0.seq hS
    refine ⟨_, rfl, _, _, rfl, .inl ⟨_, hS0, rfl⟩, ?_⟩
    refine ⟨_, rfl, _, _, rfl, .inl ⟨_, hS0, rfl⟩, _, _, rfl, _, rfl, ?_⟩
    have hn63 : (ns.map V.int).length ≤ 63 := by rw [List.length_map]; exact hlen
    refine ⟨by split <;> omega, by split <;> omega, ?_⟩
    refine for_range (fun i σ H' => ∃ (wh : Int) (v3 v4 v5 : Option V) (xs : List Int), σ = [some (.ref a), some (.ref l), some (.int wh), v3, v4, v5] ∧ Same H H' ∧ H' l = some (.lst (xs.map V.int)) ∧ xs.length ≤ 3000 + 6 * i)
      ⟨_, _, _, _, [], rfl, s0, upd_same, Nat.zero_le _⟩ ?_ ?_
    · rintro i σ H1 hi ⟨wh, v3, v4, v5, xs, rfl, s1, hl1, hxs⟩
      have hi2 : i < ns.length ∧ i < 63 := by
        rw [List.length_map] at hi
        split at hi <;> omega
      have hat : atI (ns.map V.int) (0 + (i : Int)) = some (V.int ns[i]) := by
        rw [Int.zero_add]
        exact atI_nat (by simp [hi2.1])
      have hS1 := s1.seq hS
      -- what is left of a turn
      have fin : ∀ (H2 : Hp) (v4 v5 : Option V) (ys : List Int), Same H H2 → H2 l = some (.lst (ys.map V.int)) → ys.length ≤ 3000 + 6 * (i + 1) → ∃ (wh' : Int) (v3 v4' v5' : Option V) (xs : List Int),
          [some (V.ref a), some (.ref l), some (.int ((wh * 31 + ns[i]) % 2147483647)), some (.int (0 + (i : Int))), v4, v5] = [some (.ref a), some (.ref l), some (.int wh'), v3, v4', v5'] ∧ Same H H2 ∧ H2 l = some (.lst (xs.map V.int)) ∧ xs.length ≤ 3000 + 6 * (i + 1) :=
        fun H2 v4 v5 ys a b c => ⟨_, _, _, _, ys, rfl, a, b, c⟩
      refine ⟨_, rfl, _, rfl, a, _, _, _, rfl, rfl, hS1, hat, ?_⟩
      refine ⟨_, rfl, _, _, rfl, rfl, ⟨by decide, by decide, by decide⟩, _, _, rfl, rfl, _, rfl, ?_⟩
      refine ite2 (fun _ => ?_) (fun _ => ?_)
      · refine while_m (fun σ H' => ∃ (r : Int) (xs : List Int), σ = [some (.ref a), some (.ref l), some (.int wh), some (.int (0 + (i : Int))), some (.int r), v5] ∧ Same H H' ∧ H' l = some (.lst (xs.map V.int)) ∧ xs.length ≤ 3000 + 6 * (i + 1)) restOf
          ⟨_, xs, rfl, s1, hl1, by omega⟩ ?_
        rintro m σ H2 hm ⟨r, ys, rfl, s2, hl2, hys⟩
        have hm' : m = r.toNat := hm
        refine ⟨_, rfl, _, _, rfl, rfl, _, rfl, ?_⟩
        refine ite2 (fun hr0 => ?_) (fun _ => ?_)
        · have hr0 := of_decide_eq_true hr0
          refine ⟨_, rfl, _, _, rfl, .inl ⟨_, SqL.of hl2, rfl⟩, _, _, rfl, rfl, _, rfl, ?_⟩
          refine ite2 (fun hb => ?_) (fun _ => ?_)
          · have hb := of_decide_eq_true hb
            rw [List.length_map] at hb
            refine ⟨fun σ' H' => (∃ (r : Int) (xs : List Int), σ' = [some (.ref a), some (.ref l), some (.int wh), some (.int (0 + (i : Int))), some (.int r), v5] ∧ Same H H' ∧ H' l = some (.lst (xs.map V.int)) ∧ xs.length ≤ 3000 + 6 * (i + 1)) ∧ restOf σ' H' < m, fun σ' H' q => ⟨_, q.2, rfl, q.1⟩, ?_⟩
            refine ⟨_, rfl, .inl ⟨rfl, _, SqL.of hl2⟩, _, rfl, _, _, rfl, rfl, (by show (0 : Int) < 1000000; decide), l, _, _, rfl, rfl, hl2, (by rw [List.length_map]; exact Nat.lt_of_le_of_lt (show ys.length ≤ 3000 by omega) (by decide)), ?_⟩
            refine ⟨_, rfl, _, _, rfl, rfl, ⟨by decide, by decide⟩, ?_⟩
            refine ⟨⟨_, ys ++ [r % 1000000], rfl, s2.wrn hl, ?_, ?_⟩, ?_⟩
            · rw [upd_same, List.map_append]
              rfl
            · rw [List.length_append, List.length_singleton]
              omega
            · show (r / 1000000).toNat < m
              omega
          · exact ⟨_, rfl, _, _, rfl, rfl, .inr ⟨by decide, by decide⟩, _, rfl, _, rfl, a, _, _, _, rfl, rfl, s2.seq hS, hat, _, _, rfl, rfl, _, _, rfl, rfl, (by show (0 : Int) < 2147483647; decide), fin H2 _ _ ys s2 hl2 hys⟩
        · exact ⟨_, rfl, _, _, rfl, rfl, .inr ⟨by decide, by decide⟩, _, rfl, _, rfl, a, _, _, _, rfl, rfl, s2.seq hS, hat, _, _, rfl, rfl, _, _, rfl, rfl, (by show (0 : Int) < 2147483647; decide), fin H2 _ _ ys s2 hl2 hys⟩
      · refine ⟨_, rfl, .inl ⟨rfl, _, SqL.of hl1⟩, 6, rfl, by decide, by decide, fun D hD => ?_⟩
        have nDl : l ≠ D := ne_of_none hl1 hD
        refine lc_range (lo := 0) (n := 6) (fun j H' => ∃ ys : List Int, H' D = some (.lst (ys.map V.int)) ∧ ys.length = j ∧ Same H1 H' ) ⟨[], upd_same, rfl, (L2.Same.refl H1).new hD⟩ ?_ ?_
        · rintro j H2 hj ⟨ys, hD2, hys, s2⟩
          refine ⟨rfl, _, rfl, _, rfl, _, _, rfl, rfl, .inl ⟨by decide, by decide⟩, _, rfl, _, _, rfl, rfl, _, _, rfl, by omega, by omega, fun r => ?_⟩
          refine ⟨_, hD2, by rw [List.length_map, hys]; exact Nat.lt_trans hj (by decide), ys ++ [r], ?_, by rw [List.length_append, hys]; rfl, s2.wrn hD⟩
          rw [upd_same, List.map_append]
          rfl
        · rintro H2 ⟨ys, hD2, hys, s2⟩
          refine ⟨l, D, _, _, rfl, rfl, s2 _ _ hl1, hD2, ?_, ?_⟩
          · rw [List.length_map, List.length_map, hys]
            exact Nat.le_trans (show xs.length + 6 ≤ 6000 by omega) (by decide)
          · refine ⟨_, rfl, _, _, rfl, rfl, .inr ⟨by decide, by decide⟩, _, rfl, _, rfl, a, _, _, _, rfl, rfl, ((s1.trans s2).wrn hl).seq hS, hat, _, _, rfl, rfl, _, _, rfl, rfl, (by show (0 : Int) < 2147483647; decide), fin _ _ _ (xs ++ ys) ((s1.trans s2).wrn hl) ?_ ?_⟩
            · rw [upd_same, List.map_append]
            · rw [List.length_append, hys]
              omega
    · rintro σ H1 ⟨wh, v3, v4, v5, xs, rfl, s1, hl1, hxs⟩
      refine ⟨_, rfl, _, rfl, (by show 3 ≤ sizeLine; decide), fun d hd => ?_⟩
      have hn : ns.length ≤ 63 := hlen
      have hxs' : xs.length ≤ 100000 := by
        rw [List.length_map] at hxs
        split at hxs <;> omega
      refine k _ d l (s1.free hd) hl (s1.new hd) ⟨0, wh, xs, upd_same, ?_, Int.le_refl _, Int.le_refl _, hxs'⟩
      rw [upd_ne (ne_of_none hl1 hd)]
      exact hl1
end
end Wn
namespace Wn
open PySem L2
section
variable {P : Program} {w : World} {K : PySem.W.Frag} {mg : Str → Option Value} {base : Heap}
theorem scSame : FnScope ["_law_thing", "_law_due", "_law_k"] ["_law_thing", "_law_due"] (defScope sSame) := ⟨rfl, rfl, rfl, by decide +kernel, rfl, by decide +kernel, by decide +kernel⟩
/-- builtins that same asks -/
structure SameB (mg : Str → Option Value) : Prop where
  isi : mg "isinstance" = none
  tup : mg "tuple" = none
  bl : mg "bool" = none
  str : mg "str" = none
  int : mg "int" = none
  all : mg "all" = none
  len : mg "len" = none
  rng : mg "range" = none
theorem ok_same_step {n : Nat} {f : Addr} {fd : FuncData} (F : Fun K "_law_same" "_law_same" sSame f fd) (B : SameB mg) (mS : mg "_law_same" = some (.ref f)) (kS : PySem.W.keepIn K (.ref f) = true) (bS : Binds K fd ["_law_thing", "_law_due"] [])
    (G : FnOk P w K mg base CX0 n f fd ["_law_thing", "_law_due"] (spSame K n)) : FnOk P w K mg base CX0 (n + 1) f fd ["_law_thing", "_law_due"] (spSame K (n + 1)) := by
  refine F.ok scSame (fun vs H Q E h => ?_) (fun cdv A outer s H vs Q E hr h => ?_)
  · obtain ⟨x, y, d, rfl, _⟩ := h
    rfl
  · obtain ⟨x, y, d, rfl, hx, hy, hd, hz, k⟩ := h
    refine ⟨_, pss_cons (ps_if (pt_val (pe_callB call_isi (by rfl) B.isi (by decide +kernel) (pa_cons (pv 1) (pa_cons (pe_bltn (v := .ty "tuple") (by rfl) B.tup PyProof.Rows.boot_tuple rfl) pa_nil))))
        (pss_cons (ps_if (PW.pt (pw_or (pt_not (pt_val (pe_callB call_isi (by rfl) B.isi (by decide +kernel) (pa_cons (pv 0) (pa_cons (pe_bltn (v := .ty "tuple") (by rfl) B.tup PyProof.Rows.boot_tuple rfl) pa_nil)))))
            (pw_or1 (pt_cmpR op_ne (pe_callB call_len (by rfl) B.len PySem.boot_len (pa_cons (pv 0) pa_nil)) (pe_callB call_len (by rfl) B.len PySem.boot_len (pa_cons (pv 1) pa_nil)) (nomark _)))))
          (pss_one (ps_ret pe_bl)) pss_nil)
        (pss_one (ps_ret (pe_callB (cr_all rfl) (by rfl) B.all (by decide +kernel) (pa_cons
          (pe_lc (own := [("_law_k", 2)]) (g := gName 2) (tt := tYes) rfl scSame.nd (pi_range1 rfl B.rng (pa_cons (pe_callB call_len (by rfl) B.len PySem.boot_len (pa_cons (pv 1) pa_nil)) pa_nil)) (blkOk_by (N := ["_law_thing", "_law_due", "_law_k"]) (sc := defScope sSame) (by decide +kernel))
              (fun _ _ _ _ _ => pg_name (i := 2) scSame.nd rfl (Or.inl rfl)) (fun _ _ _ _ _ => pts_nil)
              (fun _ _ _ _ _ => pe_call G hr rfl mS kS bS .nil pass0 (pa_cons (pe_ix (show IxR _ (rIxT K) from ix_tup) (pv 0) (pv 2) (fun _ _ => rfl)) (pa_cons (pe_ix (show IxR _ (rIxT K) from ix_tup) (pv 1) (pv 2) (fun _ _ => rfl)) pa_nil)))) pa_nil))))) pss_nil)
      (pss_cons (ps_if (PW.pt (pw_or (pt_val (pe_callB call_isi (by rfl) B.isi (by decide +kernel) (pa_cons (pv 1) (pa_cons (pe_bltn (v := .ty "bool") (by rfl) B.bl PyProof.Rows.boot_bool rfl) pa_nil)))) (pw_or1 (pt_cmp (pc_isN (pv 1))))))
        (pss_one (ps_ret (pe_and (pe_cmpR op_eq (pe_callB call_isi (by rfl) B.isi (by decide +kernel) (pa_cons (pv 0) (pa_cons (pe_bltn (v := .ty "bool") (by rfl) B.bl PyProof.Rows.boot_bool rfl) pa_nil))) (pe_callB call_isi (by rfl) B.isi (by decide +kernel) (pa_cons (pv 1) (pa_cons (pe_bltn (v := .ty "bool") (by rfl) B.bl PyProof.Rows.boot_bool rfl) pa_nil))) (nomark _))
          (pe_and (pe_cmpR op_eq (pe_cmp (pc_isN (pv 0)) rfl) (pe_cmp (pc_isN (pv 1)) rfl) (nomark _)) (pe_one (pe_cmpR op_eq (pv 0) (pv 1) (nomark _))))))) pss_nil)
      (pss_cons (ps_if (pt_val (pe_callB call_isi (by rfl) B.isi (by decide +kernel) (pa_cons (pv 1) (pa_cons (pe_bltn (v := .ty "str") (by rfl) B.str PyProof.Rows.boot_str rfl) pa_nil))))
        (pss_one (ps_ret (pe_and (pe_callB call_isi (by rfl) B.isi (by decide +kernel) (pa_cons (pv 0) (pa_cons (pe_bltn (v := .ty "str") (by rfl) B.str PyProof.Rows.boot_str rfl) pa_nil))) (pe_one (pe_cmpR op_eq (pv 0) (pv 1) (nomark _)))))) pss_nil)
      (pss_one (ps_ret (pe_and (pe_callB call_isi (by rfl) B.isi (by decide +kernel) (pa_cons (pv 0) (pa_cons (pe_bltn (v := .ty "int") (by rfl) B.int PyProof.Rows.boot_int rfl) pa_nil)))
        (pe_and (pe_not (pe_callB call_isi (by rfl) B.isi (by decide +kernel) (pa_cons (pv 0) (pa_cons (pe_bltn (v := .ty "bool") (by rfl) B.bl PyProof.Rows.boot_bool rfl) pa_nil)))) (pe_one (pe_cmpR op_eq (pv 0) (pv 1) (nomark _))))))))), ?_⟩
    cases d with
    | none =>
      cases hx
      cases hy
      refine ⟨_, rfl, _, _, _, _, false, rfl, .ty _, .base .non, kit_ty (by decide +kernel), _, rfl, iteF ?_⟩
      refine ⟨_, rfl, _, _, _, _, false, rfl, .ty _, .base .non, kit_ty (by decide +kernel), _, rfl, iteF ?_⟩
      refine ⟨_, rfl, _, rfl, iteT ?_⟩
      refine ⟨_, rfl, _, _, _, _, false, rfl, .ty _, .base .non, kit_ty (by decide +kernel), _, rfl, _, _, _, _, false, rfl, .ty _, .base .non, kit_ty (by decide +kernel), rfl, _, rfl, iteT ?_⟩
      refine ⟨_, rfl, _, rfl, rfl, _, rfl, iteT ?_⟩
      exact ⟨_, rfl, _, rfl, rfl, k _ (L2.Same.refl _)⟩
    | bool b =>
      cases hx
      cases hy
      refine ⟨_, rfl, _, _, _, _, false, rfl, .ty _, .base (.bl _), kit_ty (by decide +kernel), _, rfl, iteF ?_⟩
      refine ⟨_, rfl, _, _, _, _, true, rfl, .ty _, .base (.bl _), kit_ty (by decide +kernel), _, rfl, iteT ?_⟩
      refine ⟨_, rfl, _, _, _, _, true, rfl, .ty _, .base (.bl _), kit_ty (by decide +kernel), _, rfl, _, _, _, _, true, rfl, .ty _, .base (.bl _), kit_ty (by decide +kernel), rfl, _, rfl, iteT ?_⟩
      refine ⟨_, rfl, _, rfl, rfl, _, rfl, iteT ?_⟩
      refine ⟨_, rfl, _, rfl, rfl, ?_⟩
      show Q (.bl (decide (V.bl b = V.bl b))) H
      rw [decide_eq_true rfl]
      exact k _ (L2.Same.refl _)
    | int i =>
      cases hx
      cases hy
      refine ⟨_, rfl, _, _, _, _, false, rfl, .ty _, .base (.int _), kit_ty (by decide +kernel), _, rfl, iteF ?_⟩
      refine ⟨_, rfl, _, _, _, _, false, rfl, .ty _, .base (.int _), kit_ty (by decide +kernel), _, rfl, iteF ?_⟩
      refine ⟨_, rfl, _, rfl, iteF ?_⟩
      refine ⟨_, rfl, _, _, _, _, false, rfl, .ty _, .base (.int _), kit_ty (by decide +kernel), _, rfl, iteF ?_⟩
      refine ⟨_, rfl, _, _, _, _, true, rfl, .ty _, .base (.int _), kit_ty (by decide +kernel), _, rfl, iteT ?_⟩
      refine ⟨_, rfl, _, _, _, _, false, rfl, .ty _, .base (.int _), kit_ty (by decide +kernel), _, rfl, _, rfl, iteT ?_⟩
      refine ⟨_, rfl, _, rfl, rfl, ?_⟩
      show Q (.bl (decide (V.int i = V.int i))) H
      rw [decide_eq_true rfl]
      exact k _ (L2.Same.refl _)
    | str z =>
      cases hx
      cases hy
      refine ⟨_, rfl, _, _, _, _, false, rfl, .ty _, .base (.str _), kit_ty (by decide +kernel), _, rfl, iteF ?_⟩
      refine ⟨_, rfl, _, _, _, _, false, rfl, .ty _, .base (.str _), kit_ty (by decide +kernel), _, rfl, iteF ?_⟩
      refine ⟨_, rfl, _, rfl, iteF ?_⟩
      refine ⟨_, rfl, _, _, _, _, true, rfl, .ty _, .base (.str _), kit_ty (by decide +kernel), _, rfl, iteT ?_⟩
      refine ⟨_, rfl, _, _, _, _, true, rfl, .ty _, .base (.str _), kit_ty (by decide +kernel), _, rfl, iteT ?_⟩
      refine ⟨_, rfl, _, rfl, rfl, ?_⟩
      show Q (.bl (decide (V.str z = V.str z))) H
      rw [decide_eq_true rfl]
      exact k _ (L2.Same.refl _)
    | tuple ds =>
      unfold Rp at hx hy
      obtain ⟨a, xs, rfl, sa, la⟩ := hx
      obtain ⟨b, ys, rfl, sb, lb⟩ := hy
      have lx := RpL.len _ _ la
      have ly := RpL.len _ _ lb
      have hl : ds.length ≤ 16000000 := by
        have := szs_len ds
        unfold sz at hz
        omega
      have hlc : ((ds.length : Nat) : Int) ≤ 16000000 := by omega
      refine ⟨_, rfl, _, _, _, _, true, rfl, .ty _, ty_tup sb, kit_ty (by decide +kernel), _, rfl, iteT ?_⟩
      refine ⟨_, rfl, _, _, _, _, true, rfl, .ty _, ty_tup sa, kit_ty (by decide +kernel), _, rfl, iteF ?_⟩
      refine ⟨_, rfl, _, ds.length, rfl, .inr ⟨_, sa, lx.symm⟩, _, rfl, _, ds.length, rfl, .inr ⟨_, sb, ly.symm⟩, rfl, _, rfl, ?_⟩
      refine iteNS rfl ?_
      refine ⟨_, rfl, _, ds.length, rfl, .inr ⟨_, sb, ly.symm⟩, ds.length, rfl, by omega, by omega, fun D hD => ?_⟩
      refine lc_range (lo := 0) (n := _) (fun i H' => H' D = some (.lst ((List.replicate i true).map V.bl)) ∧ Same H H') ⟨upd_same, (L2.Same.refl H).new hD⟩ ?_ ?_
      · rintro i H2 hi ⟨hD2, s2⟩
        have hi : i < ds.length := by simpa using hi
        have e1 : ds[i]? = some ds[i] := by simp [hi]
        obtain ⟨u, eu, ru⟩ := RpL.get _ _ la i _ e1
        obtain ⟨v, ev, rv⟩ := RpL.get _ _ lb i _ e1
        have t2 := TK.of s2
        refine ⟨rfl, _, rfl, _, rfl, a, xs, _, u, rfl, rfl, SqT.tk sa t2, ?_, _, rfl, _, rfl, b, ys, _, v, rfl, rfl, SqT.tk sb t2, ?_, ?_⟩
        · rw [Int.zero_add]
          exact atI_nat eu
        · rw [Int.zero_add]
          exact atI_nat ev
        · refine ⟨u, v, ds[i], rfl, Rp.tk t2 _ _ ru, Rp.tk t2 _ _ rv, ?_, ?_, fun H3 s3 => ?_⟩
          · have := dep_get ds i _ e1
            unfold dep at hd
            omega
          · have := sz_get ds i _ e1
            unfold sz at hz
            omega
          · refine ⟨_, s3 _ _ hD2, ?_, ?_, ?_⟩
            · rw [List.length_map, List.length_replicate]
              exact Nat.lt_of_lt_of_le (Nat.lt_of_lt_of_le hi hl) (by decide)
            · rw [upd_same, List.replicate_succ', List.map_append]
              rfl
            · exact (s2.trans s3).wrn hD
      · rintro H2 ⟨hD2, s2⟩
        refine ⟨D, _, rfl, SqL.of hD2, ?_⟩
        have e : (List.replicate ((ds.length : Nat) : Int).toNat true).all id = true := by simp
        rw [e]
        exact k _ s2
    | list _ => cases hx
    | dict _ => cases hx
theorem ok_same {f : Addr} {fd : FuncData} (F : Fun K "_law_same" "_law_same" sSame f fd) (B : SameB mg) (mS : mg "_law_same" = some (.ref f)) (kS : PySem.W.keepIn K (.ref f) = true) (bS : Binds K fd ["_law_thing", "_law_due"] []) :
    ∀ n, FnOk P w K mg base CX0 n f fd ["_law_thing", "_law_due"] (spSame K n)
  | 0 => ⟨fun vs H Q E ⟨x, y, d, _, _, _, h, _⟩ => absurd h (Nat.not_lt_zero _), fun A outer s H args us vs Q E hr he hb hv ⟨x, y, d, _, _, _, h, _⟩ => absurd h (Nat.not_lt_zero _)⟩
  | n + 1 => ok_same_step F B mS kS bS (ok_same F B mS kS bS n)
end
end Wn

namespace Wn
open PySem PySem.Spec PyProof.Rows L2
/-- enumerate of a text: each sign in a new pair -/
def ItsE (x : Str) : It :=
  ⟨fun i _ => i < x.cps.size, fun i H v H' => ∃ T c, v = .ref T ∧ H T = none ∧ H' = upd H T (.tup [.int (i : Nat), .str ⟨#[c]⟩]) ∧ x.cps[i]? = some c, fun i _ => x.cps.size ≤ i⟩
theorem turn_enumS {P : Program} {w : World} {K : PySem.W.Frag} {elts : List Expr} {kk : Nat} {tpos : Pos} (e it : Addr) (x : Str) (t : Tok) (ty : String) (hty : ty = "str_ascii_iterator" ∨ ty = "str_iterator") :
    Turn P w K (.Tuple elts kk tpos) (ItsE x) [e, it] e (fun i h => (∃ old, IsEnum h e it ((i : Nat) : Int) old) ∧ h.IsStrIter it ty x t i ∧ e ≠ it) where
  mem := by simp
  obj := fun i h st b hb => by
    obtain ⟨⟨old, he⟩, ⟨o, ho, hc, hd⟩, _⟩ := st
    have e' : b = e ∨ b = it := by simpa using hb
    rcases e' with z | z
    · rw [z]; exact ⟨_, he, fun v q => nomatch q⟩
    · rw [z]; exact ⟨o, ho, fun v q => by rw [hd] at q; cases q⟩
  keep := fun i h h' st k => let ⟨⟨old, he⟩, ⟨o, ho, r⟩, hne⟩ := st; ⟨⟨old, k e (by simp) _ he⟩, ⟨o, k it (by simp) o ho, r⟩, hne⟩
  item := by
    intro X hP hw hK hc i pins s σ H E I hf st hg
    subst hP hw hK
    obtain ⟨⟨old, he⟩, hit, hne⟩ := st
    have hh : X.A.in1.handled = none := I.ok.hd hc
    have hel : e < s.heap.objs.size := Heap.lt_size he
    have hil : it < s.heap.objs.size := by obtain ⟨_, q, _⟩ := hit; exact Heap.lt_size q
    have D : Draws X.prog X.w X.A.in1 it [it] x.cps.size (fun i v => ∃ c u, x.cps[i]? = some c ∧ v = .str ⟨#[c]⟩ u) (fun i h => h.IsStrIter it ty x t i) := by
      rcases hty with z | z
      · rw [z]; exact Draws.strAscii hh it x t
      · rw [z]; exact Draws.strWide hh it x t
    refine wpAny_pyNext_enum_itemD D he hit hg hne (by simpa using hne) fun v h' tk hv ho hit' hT hsz hk => ?_
    obtain ⟨c, u, hcx, rfl⟩ := hv
    refine ⟨_, rfl, wpAny_letOwnedTupleGo_enum (s := { s with heap := h', toks := tk + 1 }) ho fun h'' he' sb => ?_⟩
    have hT2 : h''.get? s.heap.objs.size = some { cls := .type "tuple", data := .seq #[.int i tk, .str ⟨#[c]⟩ u] } := (sb.2 _ (Nat.ne_of_gt hel)).trans hT
    have new : ObjOk X.prog X.w (upd H s.heap.objs.size (.tup [.int (i : Nat), .str ⟨#[c]⟩])) h'' s.heap.objs.size (.tup [.int (i : Nat), .str ⟨#[c]⟩]) :=
      ⟨by show 2 ≤ sizeLine; decide, [.int i tk, .str ⟨#[c]⟩ u], .cons ⟨_, rfl⟩ (.cons ⟨_, rfl⟩ .nil), ⟨_, hT2, rfl, _, rfl⟩⟩
    have I1 : Inv X pins σ (upd H s.heap.objs.size (.tup [.int (i : Nat), .str ⟨#[c]⟩])) { s with heap := h'', toks := tk + 1 } :=
      I.turnedNew (ch := [e, it]) (fun b ob hb q => (sb.2 b (fun z => hb (by simp [z]))).trans (hk b ob (fun z => hb (by simp [z])) (fun z => hb (by simp [z])) q)) hf (Nat.le_refl _) new
    refine ⟨.ref s.heap.objs.size, _, I1, rfl, ⟨_, c, rfl, I.hok.fresh (Nat.le_refl _), rfl, hcx⟩, ⟨⟨.str ⟨#[c]⟩ u, ?_⟩, ?_, hne⟩, fun b hb => ?_⟩
    · have e1 : ((i + 1 : Nat) : Int) = (i : Int) + 1 := by omega
      rw [e1]; exact he'
    · obtain ⟨o, q, r⟩ := hit'
      exact ⟨o, (sb.2 it (Ne.symm hne)).trans q, r⟩
    · have hb' : b < s.heap.objs.size := by
        have e' : b = e ∨ b = it := by simpa using hb
        rcases e' with z | z
        · rw [z]; exact hel
        · rw [z]; exact hil
      rw [upd_ne (Nat.ne_of_lt hb')]
      exact (hf b hb).1
  done := by
    intro X hP hw hK hc i pins s σ H E I hf st hg
    subst hP hw hK
    obtain ⟨⟨old, he⟩, hit, hne⟩ := st
    have hh : X.A.in1.handled = none := I.ok.hd hc
    obtain ⟨f0, f1, f2, f3, f4, f5⟩ := hf it (by simp)
    have D : Draws X.prog X.w X.A.in1 it [it] i (fun i v => False) (fun j h => j = i ∧ h.IsStrIter it ty x t i) := by
      refine ⟨fun _ _ st => let ⟨o, ho, _⟩ := st.2; ⟨o, ho⟩, fun _ _ _ st hk => let ⟨o, ho, r⟩ := st.2; ⟨st.1, o, hk it (by simp) o ho, r⟩, fun j s Q E hj st => absurd st.1 (Nat.ne_of_lt hj), fun s Q E st hE => ?_⟩
      have hx : x.cps[i]? = none := Array.getElem?_eq_none hg
      have st2 := st.2
      rcases hty with z | z
      · rw [z] at st2; exact wpAny_nextOf_ascii_end hh st2 hx hE
      · rw [z] at st2; exact wpAny_nextOf_wide_end hh st2 hx hE
    exact wpAny_pyNext_enum_endD D he ⟨rfl, hit⟩ fun h' eb => ⟨rfl, I.turned (t' := s.toks) (fun b o hb q => eb b o hb q) f0 f1 f3 f4 f5⟩
  self := fun A i s Q E st h => let ⟨⟨_, he⟩, _⟩ := st; wpAny_pyIter_enum he h
def iEnumS (ta : TA) : TI := fun σ H R => ta σ H fun vs H1 => ∃ x, vs = [.str x] ∧ R (ItsE x) H1
theorem pi_enumS {X : Cx} {e : Expr} {ta : TA} {p pos tpos : Pos} {elts : List Expr} {kk : Nat} (hg : Gl X "enumerate") (hm : X.mg "enumerate" = none) (ha : PA X [e] ta) (hs : starEach [e] X.env = [(false, eval e X.env)] := by rfl) :
    PI X (.Tuple elts kk tpos) (.Call (.Name "enumerate" p) [e] [] pos) (iEnumS ta) := by
  refine ⟨fun pins s σ H R I h => ?_⟩
  refine Call_ (ld_blt I hg hm boot_enumerate (PyProof.Rows.callWith_type1 (thn (ha.run pos pins s σ H _ I h) fun us s1 ⟨vs, H1, I1, r1, q1⟩ => ?_) hs rfl))
  obtain ⟨x, ex, q⟩ := q1
  subst ex
  cases r1 with
  | cons r rr =>
    cases rr
    obtain ⟨t, rfl⟩ := r
    refine call_enumerate_str fun h' he hit hsz hk => wpAny_pyIter_enum he ?_
    have I2 : Inv X pins σ H1 { s1 with heap := h' } := I1.kept (t' := s1.toks) hk
    refine ⟨s1.heap.objs.size + 1, [s1.heap.objs.size + 1, s1.heap.objs.size], _, _, H1, rfl, I2, turn_enumS (s1.heap.objs.size + 1) s1.heap.objs.size x t (strIterType x) ?_, ⟨⟨.none, he⟩, hit, Nat.succ_ne_self _⟩, fun b hb => ?_, q⟩
    · unfold strIterType
      split
      · exact .inl rfl
      · exact .inr rfl
    have e' : b = s1.heap.objs.size + 1 ∨ b = s1.heap.objs.size := by simpa using hb
    have hle : s1.heap.objs.size ≤ b := by
      rcases e' with z | z
      · rw [z]; exact Nat.le_add_right _ _
      · rw [z]; exact Nat.le_refl _
    exact I1.fpOk hle (I1.hok.fresh hle)
theorem walk_enumS {x : Str} : Walk (ItsE x) x.cps.size (fun _ => True) (fun i H v H' => ∃ T c, v = .ref T ∧ H T = none ∧ H' = upd H T (.tup [.int (i : Nat), .str ⟨#[c]⟩]) ∧ x.cps[i]? = some c) :=
  ⟨fun _ _ hi _ => hi, fun _ _ => Nat.le_refl _, fun _ _ _ _ _ _ y => y⟩
end Wn

namespace Wn
open PySem L2
open SX (S S_len S_cat S_beq_eq join_S)
theorem joinK {X : Cx} {K : PySem.W.Frag} {o e : Expr} {to te : TE} {apos pos : Pos} (hK : X.K = K) (ho : PE X o to) (he : PE X e te) (hs : starEach [e] X.env = [(false, eval e X.env)] := by rfl) (hbase : attributeBase o "join" X.env (eval o X.env) = eval o X.env := by rfl) (hline : (apos.endLine == pos.line) = true := by rfl) :
    PE X (.Call (.Attribute o "join" apos) [e] [] pos) (tM1 (fun x xs H Q => ∃ a p, ∃ ys : List Str, x = .str a ∧ xs = [.ref p] ∧ (SqL K H p (ys.map V.str) ∨ SqT K H p (ys.map V.str)) ∧
      (ys.map (·.length)).sum + ys.length * a.length ≤ 16777216 ∧ Q (.str (Txt.join a ys)) H) to te) := hK ▸ pe_join ho he hs hbase hline
theorem drop_min {cs : List Nat} {a b : Nat} : (cs.drop (min a cs.length)).take (min b cs.length - min a cs.length) = (cs.drop a).take (b - a) := by
  by_cases h : a ≤ cs.length
  · rw [Nat.min_eq_left h]
    by_cases h2 : b ≤ cs.length
    · rw [Nat.min_eq_left h2]
    · rw [Nat.min_eq_right (by omega), List.take_of_length_le (by rw [List.length_drop]; exact Nat.le_refl _), List.take_of_length_le (by rw [List.length_drop]; omega)]
  · rw [show min a cs.length = cs.length by omega, List.drop_of_length_le (Nat.le_refl _), List.drop_of_length_le (show cs.length ≤ a by omega), List.take_nil, List.take_nil]
theorem cutS_S (cs : List Nat) (a b : Nat) : cutS (S cs) (some (a : Int)) (some (b : Int)) = S ((cs.drop a).take (b - a)) := by
  unfold cutS
  rw [HT.sIx_nat, HT.sIx_nat, S_len, drop_min]
theorem joinL_nil : ∀ ls : List (List Nat), TL.joinL [] ls = ls.flatten
  | [] => rfl
  | [p] => by
    show p = List.flatten [p]
    simp
  | p :: q :: r => by
    show p ++ ([] ++ TL.joinL [] (q :: r)) = _
    rw [List.nil_append, joinL_nil (q :: r)]
    rfl
/-- a list of signs, joined -/
theorem join_signs (cs : List Nat) : Txt.join (S []) (cs.map fun c => S [c]) = S cs := by
  rw [show (cs.map fun c => S [c]) = (cs.map fun c => [c]).map S by rw [List.map_map]; rfl, join_S, joinL_nil]
  congr 1
  induction cs with
  | nil => rfl
  | cons c cs ih =>
    show [c] ++ (cs.map fun c => [c]).flatten = c :: cs
    rw [ih]
    rfl
theorem sum_signs (cs : List Nat) : (((cs.map fun c => S [c]).map (·.length)).sum : Nat) = cs.length := by
  induction cs with
  | nil => rfl
  | cons c cs ih =>
    rw [List.map_cons, List.map_cons, List.sum_cons, ih, List.length_cons, S_len, List.length_singleton]
    omega
def OkSign (c : Nat) : Prop := 32 ≤ c ∧ c ≤ 126 ∧ c ≠ 37
def spSign : Sp := fun vs H Q _ => ∃ (d f : Addr) (n : Int), vs = [.ref d] ∧ Deck H d f n ∧ n < 2 ^ 60 ∧
  ∀ (c : Nat) (H' : Hp), OkSign c → Kp [d] H H' → Deck H' d f (n + 1) → Q (.str (S [c])) H'
def spText : Sp := fun vs H Q _ => ∃ (d f : Addr) (n most : Int), vs = [.ref d, .int most] ∧ Deck H d f n ∧ n < 2 ^ 59 ∧ 0 ≤ most ∧ most ≤ 100000 ∧
  ∀ (cs : List Nat) (H' : Hp), (cs.length : Int) ≤ most → (∀ c ∈ cs, OkSign c) → Kp [d] H H' → Deck H' d f (n + 1 + most) → Q (.str (S cs)) H'
end Wn

namespace Wn
open PySem L2
open SX (S S_len S_cat S_beq_eq join_S)
abbrev sSign : Stmt := top 24
abbrev sText : Stmt := top 25

def allSigns : Str := Str.ofString " !\"#$&'()*+,-./0123456789:;<=>?@ABCDEFGHIJKLMNOPQRSTUVWXYZ[\\]^_" ++ Str.ofString "`abcdefghijklmnopqrstuvwxyz{|}~"
theorem allSigns_len : allSigns.cps.toList.length = 94 := by decide +kernel
theorem allSigns_ok : (allSigns.cps.toList.all fun c => decide (32 ≤ c) && decide (c ≤ 126) && decide (c ≠ 37)) = true := by decide +kernel
theorem allSigns_sz : (Str.ofString " !\"#$&'()*+,-./0123456789:;<=>?@ABCDEFGHIJKLMNOPQRSTUVWXYZ[\\]^_").length + (Str.ofString "`abcdefghijklmnopqrstuvwxyz{|}~").length ≤ sizeLine := by decide +kernel
theorem allSigns_sz2 : allSigns.length ≤ sizeLine := by decide +kernel
section
variable {P : Program} {w : World} {K : PySem.W.Frag} {mg : Str → Option Value} {base : Heap}
theorem scSign : FnScope ["_law_deck_here", "_law_some"] ["_law_deck_here"] (defScope sSign) := ⟨rfl, rfl, rfl, by decide +kernel, rfl, by decide +kernel, by decide +kernel⟩
theorem ok_sign {f : Addr} {fd : FuncData} (F : Fun K "_law_sign" "_law_sign" sSign f fd)
    (cN : Cd P w K mg base 2 "_law_next" ["_law_deck_here", "_law_many"] spNext) : FnOk P w K mg base CX0 3 f fd ["_law_deck_here"] spSign := by
  obtain ⟨fN, fdN, GN, mN, kN, bN⟩ := cN.tk
  refine F.ok scSign (fun vs H Q E h => ?_) (fun cdv A outer s H vs Q E hr h => ?_)
  · obtain ⟨d, f, n, rfl, _⟩ := h
    rfl
  · obtain ⟨d, f, n, rfl, D0, hn, k⟩ := h
    have hr2 : Room 2 _ := hr
    refine ⟨_, (pss_cons (ps_set (i := 1) scSign.nd rfl (Or.inl rfl) pe_str)
       (pss_cons (ps_set (i := 1) scSign.nd rfl (Or.inl rfl) (pe_op op_add_str (pv 1) pe_str))
       (pss_one (ps_ret (pe_ix ix_str (pv 1) (pe_call GN hr2 rfl mN kN bN .nil pass0 (pa_cons (pv 0) (pa_cons pe_int pa_nil))) (fun _ _ => rfl)))))), ?_⟩
    refine ⟨_, rfl, _, _, rfl, rfl, allSigns_sz, ?_⟩
    refine ⟨_, rfl, _, rfl, d, f, 94, n, rfl, by decide, hn, D0, fun r H1 r0 r1 k1 D1 t1 => ?_⟩
    have hj : r.toNat < allSigns.cps.toList.length := by rw [allSigns_len]; omega
    have hr' : ((r.toNat : Nat) : Int) = r := by omega
    have ha : atI allSigns.cps.toList r = some (allSigns.cps.toList[r.toNat]) := by
      have := atI_nat (xs := allSigns.cps.toList) (j := r.toNat) (v := allSigns.cps.toList[r.toNat]) (by simp [hj])
      rw [hr'] at this
      exact this
    refine ⟨allSigns, r, _, rfl, rfl, allSigns_sz2, ha, k _ _ ?_ k1 D1⟩
    have h1 := List.all_eq_true.mp allSigns_ok _ (List.getElem_mem hj)
    simp only [Bool.and_eq_true, decide_eq_true_eq] at h1
    exact ⟨h1.1.1, h1.1.2, h1.2⟩
theorem scText : FnScope ["_law_deck_here", "_law_most", "_law_k"] ["_law_deck_here", "_law_most"] (defScope sText) := ⟨rfl, rfl, rfl, by decide +kernel, rfl, by decide +kernel, by decide +kernel⟩
theorem ok_text {f : Addr} {fd : FuncData} (F : Fun K "_law_text" "_law_text" sText f fd) (zR : mg "range" = none)
    (cN : Cd P w K mg base 2 "_law_next" ["_law_deck_here", "_law_many"] spNext) (cG : Cd P w K mg base 3 "_law_sign" ["_law_deck_here"] spSign) : FnOk P w K mg base CX0 4 f fd ["_law_deck_here", "_law_most"] spText := by
  obtain ⟨fN, fdN, GN, mN, kN, bN⟩ := cN.tk
  obtain ⟨fG, fdG, GG, mG, kG, bG⟩ := cG.tk
  refine F.ok scText (fun vs H Q E h => ?_) (fun cdv A outer s H vs Q E hr h => ?_)
  · obtain ⟨d, f, n, most, rfl, _⟩ := h
    rfl
  · obtain ⟨d, f, n, most, rfl, D0, hn, m0, m1, k⟩ := h
    have hr2 : Room 2 _ := hr.mono (by decide)
    have hr3 : Room 3 _ := hr
    refine ⟨_, (pss_one (ps_ret (joinK (K := K) rfl pe_str (pe_lc (own := [("_law_k", 2)]) (g := (gName 2)) (tt := tYes) rfl scText.nd (pi_range1 rfl zR (pa_cons (pe_call GN hr2 rfl mN kN bN .nil pass0 (pa_cons (pv 0) (pa_cons (pe_op op_add (pv 1) pe_int) pa_nil))) pa_nil)) (blkOk_by (N := ["_law_deck_here", "_law_most", "_law_k"]) (sc := defScope sText) (by decide +kernel))
       (fun _ _ _ _ _ => (pg_name (i := 2) scText.nd rfl (Or.inl rfl))) (fun _ _ _ _ _ => pts_nil) (fun _ _ _ _ _ => (pe_call GG hr3 rfl mG kG bG .nil pass0 (pa_cons (pv 0) pa_nil))))))), ?_⟩
    refine ⟨⟨_, rfl⟩, ?_⟩
    refine ⟨_, rfl, _, rfl, _, _, rfl, rfl, d, f, most + 1, n, rfl, by omega, by omega, D0, fun r H1 r0 r1 k1 D1 t1 => ?_⟩
    refine ⟨r, rfl, by omega, by omega, fun D hD => ?_⟩
    have nDd : D ≠ d := (ne_of_none D1.lst.choose_spec hD).symm
    have s2 : Same H1 (upd H1 D (.lst [])) := (L2.Same.refl H1).new hD
    refine lc_range (lo := 0) (n := r.toNat) (fun j H' => ∃ cs : List Nat, H' D = some (.lst ((cs.map fun c => S [c]).map V.str)) ∧ cs.length = j ∧ (∀ c ∈ cs, OkSign c) ∧ Kp [d] H1 H' ∧ Deck H' d f (n + 1 + j)) ⟨[], upd_same, rfl, (by intro c hc; cases hc), Kp.of s2, (D1.same s2).mono (by omega)⟩ ?_ ?_
    · rintro j H3 hj ⟨cs, hD3, lc, oc, k3, D3⟩
      refine ⟨rfl, _, rfl, d, f, n + 1 + j, rfl, D3, by omega, fun c H4 hc k4 D4 t4 => ?_⟩
      have hD4 := k4 _ _ (nin1 nDd) hD3
      refine ⟨_, hD4, ?_, cs ++ [c], ?_, by rw [List.length_append, lc]; rfl, ?_, (k3.trans k4).wrn hD, ?_⟩
      · rw [List.length_map, List.length_map, lc]
        exact Nat.lt_of_le_of_lt (show j ≤ 100000 by omega) (by decide)
      · rw [upd_same, List.map_append, List.map_append]
        rfl
      · intro c' hc'
        rcases List.mem_append.mp hc' with h | h
        · exact oc _ h
        · rw [List.mem_singleton.mp h]
          exact hc
      · have hf : f ≠ D := ne_of_none D1.lst2.choose_spec hD
        exact (D4.kp (M := [D]) ((Kp.refl _ _).wr (List.mem_singleton.mpr rfl)) (nin1 nDd.symm) (nin1 hf)).mono (by omega)
    · rintro H3 ⟨cs, hD3, lc, oc, k3, D3⟩
      refine ⟨_, D, cs.map fun c => S [c], rfl, rfl, .inl (SqL.of hD3), ?_, ?_⟩
      · rw [sum_signs, List.length_map]
        show cs.length + cs.length * 0 ≤ _
        omega
      · rw [show (Txt.join (Str.ofString "") (cs.map fun c => S [c])) = S cs from join_signs cs]
        exact k cs H3 (by omega) oc (k1.trans k3) (D3.mono (by omega))
end
end Wn

namespace Wn
open PySem L2
/-- a new tuple is appended to a list of data -/
theorem push_tup {K : PySem.W.Frag} {G : Hp} {t fa : Addr} {zs vs : List V} {U ds : List PyData} (hG : G fa = some (.lst zs)) (rG : RpL K G U zs) (nt : G t = none) (rv : RpL K G ds vs) :
    upd G t (.tup vs) fa = some (.lst zs) ∧ LstAt K (upd (upd G t (.tup vs)) fa (.lst (zs ++ [.ref t]))) fa (U ++ [.tuple ds]) ∧ TK G (upd (upd G t (.tup vs)) fa (.lst (zs ++ [.ref t]))) ∧ Kp [fa] G (upd (upd G t (.tup vs)) fa (.lst (zs ++ [.ref t]))) := by
  have s6 : Same G (upd G t (.tup vs)) := (L2.Same.refl _).new nt
  have rt : Rp K (upd G t (.tup vs)) (.tuple ds) (.ref t) := Rp.tup upd_same (RpL.tk (TK.of s6) _ _ rv)
  have tE : TK (upd G t (.tup vs)) (upd (upd G t (.tup vs)) fa (.lst (zs ++ [.ref t]))) := (TK.refl _).wr (s6 _ _ hG) rfl
  exact ⟨s6 _ _ hG, ⟨_, upd_same, RpL.tk tE _ _ (RpL.app (RpL.tk (TK.of s6) _ _ rG) (RpL.cons rt RpL.nil))⟩, (TK.of s6).trans tE, (Kp.of s6).wr (List.mem_singleton.mpr rfl)⟩
/-- a thing that stands is appended -/
theorem push_old {K : PySem.W.Frag} {G : Hp} {fa : Addr} {zs : List V} {v : V} {U : List PyData} {d : PyData} (hG : G fa = some (.lst zs)) (rG : RpL K G U zs) (rv : Rp K G d v) :
    LstAt K (upd G fa (.lst (zs ++ [v]))) fa (U ++ [d]) ∧ TK G (upd G fa (.lst (zs ++ [v]))) ∧ Kp [fa] G (upd G fa (.lst (zs ++ [v]))) := by
  have tE : TK G (upd G fa (.lst (zs ++ [v]))) := (TK.refl _).wr hG rfl
  exact ⟨⟨_, upd_same, RpL.tk tE _ _ (RpL.app rG (RpL.cons rv RpL.nil))⟩, tE, (Kp.refl _ _).wr (List.mem_singleton.mpr rfl)⟩
/-- flat data: the very values -/
theorem RpL.flat {β : Type} {K : PySem.W.Frag} {H : Hp} {f : β → PyData} {g : β → V} (h : ∀ b v, Rp K H (f b) v → v = g b) : ∀ {L : List β} {ys : List V}, RpL K H (L.map f) ys → ys = L.map g
  | [], ys, r => by
    rw [List.map_nil] at r
    unfold RpL at r
    exact r
  | b :: L, ys, r => by
    rw [List.map_cons] at r
    unfold RpL at r
    obtain ⟨v, t, rfl, h1, h2⟩ := r
    rw [h b v h1, RpL.flat h h2]
    rfl
theorem Rp.bool_eq {K : PySem.W.Frag} {H : Hp} {b : Bool} {v : V} (r : Rp K H (.bool b) v) : v = .bl b := by
  unfold Rp at r
  exact r
theorem Rp.str_eq {K : PySem.W.Frag} {H : Hp} {z : Str} {v : V} (r : Rp K H (.str z) v) : v = .str z := by
  unfold Rp at r
  exact r
theorem Rp.int_eq {K : PySem.W.Frag} {H : Hp} {i : Int} {v : V} (r : Rp K H (.int i) v) : v = .int i := by
  unfold Rp at r
  exact r
theorem Rp.bool {K : PySem.W.Frag} {H : Hp} {b : Bool} : Rp K H (.bool b) (.bl b) := by
  unfold Rp
  rfl
mutual
theorem Rp.dp {K : PySem.W.Frag} {H : Hp} : ∀ (d : PyData) (v : V), Rp K H d v → Dp K H v d
  | .none, _, h => by
    unfold Rp at h
    subst h
    exact .non
  | .bool b, _, h => by
    unfold Rp at h
    subst h
    exact .bl b
  | .int i, _, h => by
    unfold Rp at h
    subst h
    exact .int i
  | .str s, _, h => by
    unfold Rp at h
    subst h
    exact .str s
  | .tuple ds, v, h => by
    unfold Rp at h
    obtain ⟨a, xs, rfl, hs, hl⟩ := h
    exact .tup hs (RpL.dp ds xs hl)
  | .list _, _, h => by
    unfold Rp at h
    exact h.elim
  | .dict _, _, h => by
    unfold Rp at h
    exact h.elim
theorem RpL.dp {K : PySem.W.Frag} {H : Hp} : ∀ (ds : List PyData) (xs : List V), RpL K H ds xs → DpAll K H xs ds
  | [], xs, h => by
    unfold RpL at h
    subst h
    exact .nil
  | d :: ds, xs, h => by
    unfold RpL at h
    obtain ⟨v, r, rfl, h1, h2⟩ := h
    exact .cons (Rp.dp d v h1) (RpL.dp ds r h2)
end
end Wn

namespace Wn
open PySem PySem.Spec PyProof.Rows L2
section
open AutoSeq1 (wpAny_loadPart')
theorem drawsTuple {prog : Program} {w : World} {A : Around} (hh : A.handled = none) (it l : Addr) (hne : l ≠ it) (items : Array Value) :
    Draws prog w A it [it, l] items.size (fun i v => items[i]? = some v) (fun i h => h.IsTupleIter it l i ∧ h.IsTuple l items) where
  live := fun _ _ st => let ⟨o, ho, _⟩ := st.1; ⟨o, ho⟩
  frame := fun _ _ _ st hk => ⟨st.1.at fun o e => hk it (by simp) o e, let ⟨o, ho, r⟩ := st.2; ⟨o, hk l (by simp) o ho, r⟩⟩
  item := fun i s Q E hi st hQ => by
    refine RZ.nextOf_tuple_item st.1 st.2 (x := items[i]) (by simp [hi]) fun h' hit' hs' => ?_
    exact hQ _ h' s.toks (by simp [hi]) ⟨hit', let ⟨o, ho, r⟩ := st.2; ⟨o, (hs'.2 l hne).trans ho, r⟩⟩ hs'
  done := fun s Q E st hE => RZ.nextOf_tuple_end hh st.1 st.2 (by simp) hE
theorem meets_enumerate_newT (l : Addr) (items : Array Value) (n : Nat) (dct : Option Addr) (sl : Array (Option Value)) :
    Meets (Builtin.«enumerate.__new__» ⟨[.type "enumerate", .ref l], []⟩) (fun _ R s => s.heap.get? l = some { cls := .type "tuple", dict := dct, data := .seq items n, slots := sl } ∧
      R (.ok (.ret (.ref (s.heap.push { cls := .type "tuple_iterator", data := .fields #[.ref l, .int 0 0] }).objs.size)))
        { s with heap := (s.heap.push { cls := .type "tuple_iterator", data := .fields #[.ref l, .int 0 0] }).push { cls := .type "enumerate", data := .fields #[.none, .bool false, .ref s.heap.objs.size, rawInt 0, .none, .none] } }) :=
  .of_wp fun prog w A R s h => by
    obtain ⟨hp, g, d, tk, os⟩ := s; obtain ⟨hl, h⟩ := h
    have hsub := sub_enumerate
    have hL : Heap.IsTuple (Shared.heap ⟨hp, g, d, tk, os⟩) l items := ⟨_, hl, rfl, n, rfl⟩
    wp_walk using wpAny_loadPart' hl
    refine wpAny_stack_any fun st => wpAny_pure ?_
    split
    · rename_i c _ _ _ _ _
      cases (c == Value.type "enumerate")
      · wp_walk using wpAny_loadPart' hl, wpAny_pyIter_tuple hL
        exact ⟨_, rfl, h⟩
      · wp_walk using wpAny_loadPart' hl, wpAny_pyIter_tuple hL
        exact ⟨_, rfl, h⟩
    · wp_walk using wpAny_loadPart' hl, wpAny_pyIter_tuple hL
      exact ⟨_, rfl, h⟩
theorem call_enumerate_tuple {prog : Program} {w : World} {A : Around} {E : Value → Shared → Prop} {s : Shared} {l : Addr} {items : Array Value} {Q : Value → Shared → Prop} (hL : s.heap.IsTuple l items)
    (h : ∀ h', IsEnum h' (s.heap.objs.size + 1) s.heap.objs.size 0 .none → h'.IsTupleIter s.heap.objs.size l 0 → h'.objs.size = s.heap.objs.size + 2 →
      (∀ b o, s.heap.get? b = some o → h'.get? b = some o) → Q (.ref (s.heap.objs.size + 1)) { s with heap := h' }) :
    wpAny (model prog w) A (call (.type "enumerate") [.ref l]) Q E s := by
  obtain ⟨⟨c, dct, dt, sl⟩, hl, hc, n, hd⟩ := hL
  replace hc : c = .type "tuple" := hc
  replace hd : dt = .seq items n := hd
  subst hc hd
  refine callType_new F.called_enumerate (by decide) (F.typeCall_enumerate_1 _) (F.newCall_enumerate_1 _) (fun obj => F.args_object_init_2 obj _) F.entry_enumerate_new
    (meets_enumerate_newT l items n dct sl) ⟨hl, ?_⟩
  have hz : (s.heap.push { cls := .type "tuple_iterator", data := .fields #[.ref l, .int 0 0] }).objs.size = s.heap.objs.size + 1 := Heap.size_push ..
  show _ ∧ _
  rw [hz]
  have he : IsEnum ((s.heap.push { cls := .type "tuple_iterator", data := .fields #[.ref l, .int 0 0] }).push
      { cls := .type "enumerate", data := .fields #[.none, .bool false, .ref s.heap.objs.size, rawInt 0, .none, .none] }) (s.heap.objs.size + 1) s.heap.objs.size 0 .none := by
    have := Heap.get?_push_size (s.heap.push { cls := .type "tuple_iterator", data := .fields #[.ref l, .int 0 0] })
      (o := { cls := .type "enumerate", data := .fields #[.none, .bool false, .ref s.heap.objs.size, rawInt 0, .none, .none] }) rfl
    rw [hz] at this; exact this
  refine ⟨⟨_, he, rfl⟩, h _ he ⟨_, Heap.get?_push_of_some _ (Heap.get?_push_size _ rfl), rfl, rfl⟩ (by rw [Heap.size_push, hz]) fun b o x => Heap.get?_push_of_some _ (Heap.get?_push_of_some _ x)⟩
end
/-- enumerate of a tuple: each item in a new pair -/
def IttE (K : PySem.W.Frag) (a : Addr) : It :=
  ⟨fun i H => ∃ (xs : List V) (x : V), SqT K H a xs ∧ xs[i]? = some x, fun i H v H' => ∃ T x, v = .ref T ∧ H T = none ∧ H' = upd H T (.tup [.int (i : Nat), x]) ∧ ∀ xs, SqT K H a xs → xs[i]? = some x, fun i H => ∃ xs : List V, SqT K H a xs ∧ xs.length ≤ i⟩
theorem turn_enumT {P : Program} {w : World} {K : PySem.W.Frag} {elts : List Expr} {kk : Nat} {tpos : Pos} (a e it : Addr) :
    Turn P w K (.Tuple elts kk tpos) (IttE K a) [e, it] e (fun i h => (∃ old, IsEnum h e it ((i : Nat) : Int) old) ∧ h.IsTupleIter it a i ∧ e ≠ it) where
  mem := by simp
  obj := fun i h st b hb => by
    obtain ⟨⟨old, he⟩, ⟨o, ho, hc, hd⟩, _⟩ := st
    have e' : b = e ∨ b = it := by simpa using hb
    rcases e' with z | z
    · rw [z]; exact ⟨_, he, fun v q => nomatch q⟩
    · rw [z]; exact ⟨o, ho, fun v q => by rw [hd] at q; cases q⟩
  keep := fun i h h' st k => let ⟨⟨old, he⟩, hi, hne⟩ := st; ⟨⟨old, k e (by simp) _ he⟩, hi.at fun o q => k it (by simp) o q, hne⟩
  item := by
    intro X hP hw hK hc i pins s σ H E I hf st hg
    subst hP hw hK
    obtain ⟨⟨old, he⟩, hit, hne⟩ := st
    obtain ⟨xs, x, hq, hx⟩ := hg
    obtain ⟨its, rv, p, hz⟩ := I.tuple hq
    obtain ⟨u, hu, ru⟩ := rv.get hx
    have hh : X.A.in1.handled = none := I.ok.hd hc
    have hel : e < s.heap.objs.size := Heap.lt_size he
    have hil : it < s.heap.objs.size := by obtain ⟨_, q, _⟩ := hit; exact Heap.lt_size q
    have p' : s.heap.IsTuple a its.toArray := p
    have hai : a ≠ it := fun z => by
      obtain ⟨o, ho, hc1, _⟩ := hit
      obtain ⟨o2, ho2, hc2, _⟩ := p'
      rw [z, ho] at ho2
      cases ho2
      rw [hc1] at hc2
      exact absurd hc2 (by decide)
    have hae : a ≠ e := fun z => by
      have he' : s.heap.get? e = _ := he
      obtain ⟨o2, ho2, hc2, _⟩ := p'
      rw [z, he'] at ho2
      cases ho2
      have hc3 : Value.type "enumerate" = Value.type "tuple" := hc2
      exact absurd hc3 (by decide)
    have D := drawsTuple (prog := X.prog) (w := X.w) (A := X.A.in1) hh it a hai its.toArray
    refine wpAny_pyNext_enum_itemD D he ⟨hit, p'⟩ (by have := (List.getElem?_eq_some_iff.mp hu).1; simpa using this) hne (by simp [hne, Ne.symm hae]) fun v h' tk hv ho hit' hT hsz hk => ?_
    obtain rfl : v = u := by
      have hv : its.toArray[i]? = some v := hv
      rw [List.getElem?_toArray, hu] at hv
      exact (Option.some.inj hv).symm
    refine ⟨_, rfl, wpAny_letOwnedTupleGo_enum (s := { s with heap := h', toks := tk + 1 }) ho fun h'' he' sb => ?_⟩
    have hT2 : h''.get? s.heap.objs.size = some { cls := .type "tuple", data := .seq #[.int i tk, v] } := (sb.2 _ (Nat.ne_of_gt hel)).trans hT
    have new : ObjOk X.prog X.w (upd H s.heap.objs.size (.tup [.int (i : Nat), x])) h'' s.heap.objs.size (.tup [.int (i : Nat), x]) :=
      ⟨by show 2 ≤ sizeLine; decide, [.int i tk, v], .cons ⟨_, rfl⟩ (.cons ru .nil), ⟨_, hT2, rfl, _, rfl⟩⟩
    have I1 : Inv X pins σ (upd H s.heap.objs.size (.tup [.int (i : Nat), x])) { s with heap := h'', toks := tk + 1 } :=
      I.turnedNew (ch := [e, it]) (fun b ob hb q => (sb.2 b (fun z => hb (by simp [z]))).trans (hk b ob (fun z => hb (by simp [z])) (fun z => hb (by simp [z])) q)) hf (Nat.le_refl _) new
    refine ⟨.ref s.heap.objs.size, _, I1, rfl, ⟨_, x, rfl, I.hok.fresh (Nat.le_refl _), rfl, fun ys hy => by rw [I.tuple_inj hy hq]; exact hx⟩, ⟨⟨v, ?_⟩, hit'.1.at fun o q => (sb.2 it (Ne.symm hne)).trans q, hne⟩, fun b hb => ?_⟩
    · have e1 : ((i + 1 : Nat) : Int) = (i : Int) + 1 := by omega
      rw [e1]; exact he'
    · have hb' : b < s.heap.objs.size := by
        have e' : b = e ∨ b = it := by simpa using hb
        rcases e' with z | z
        · rw [z]; exact hel
        · rw [z]; exact hil
      rw [upd_ne (Nat.ne_of_lt hb')]
      exact (hf b hb).1
  done := by
    intro X hP hw hK hc i pins s σ H E I hf st hg
    subst hP hw hK
    obtain ⟨⟨old, he⟩, hit, hne⟩ := st
    obtain ⟨xs, hq, hx⟩ := hg
    obtain ⟨its, rv, p, hz⟩ := I.tuple hq
    have hh : X.A.in1.handled = none := I.ok.hd hc
    obtain ⟨f0, f1, f2, f3, f4, f5⟩ := hf it (by simp)
    have hl := rv.length
    have p' : s.heap.IsTuple a its.toArray := p
    have D : Draws X.prog X.w X.A.in1 it [it, a] i (fun i v => False) (fun j h => j = i ∧ h.IsTupleIter it a i ∧ h.IsTuple a its.toArray) := by
      refine ⟨fun _ _ st => let ⟨o, ho, _⟩ := st.2.1; ⟨o, ho⟩, fun _ _ _ st hk => ⟨st.1, st.2.1.at fun o e => hk it (by simp) o e, let ⟨o, ho, r⟩ := st.2.2; ⟨o, hk a (by simp) o ho, r⟩⟩, fun j s Q E hj st => absurd st.1 (Nat.ne_of_lt hj), fun s Q E st hE => ?_⟩
      exact RZ.nextOf_tuple_end hh st.2.1 st.2.2 (by simp; omega) hE
    exact wpAny_pyNext_enum_endD D he ⟨rfl, hit, p'⟩ fun h' eb => ⟨rfl, I.turned (t' := s.toks) (fun b o hb q => eb b o hb q) f0 f1 f3 f4 f5⟩
  self := fun A i s Q E st h => let ⟨⟨_, he⟩, _⟩ := st; wpAny_pyIter_enum he h
def iEnumT (K : PySem.W.Frag) (ta : TA) : TI := fun σ H R => ta σ H fun vs H1 => ∃ a xs, vs = [.ref a] ∧ SqT K H1 a xs ∧ R (IttE K a) H1
theorem pi_enumT {X : Cx} {e : Expr} {ta : TA} {p pos tpos : Pos} {elts : List Expr} {kk : Nat} (hg : Gl X "enumerate") (hm : X.mg "enumerate" = none) (ha : PA X [e] ta) (hs : starEach [e] X.env = [(false, eval e X.env)] := by rfl) :
    PI X (.Tuple elts kk tpos) (.Call (.Name "enumerate" p) [e] [] pos) (iEnumT X.K ta) := by
  refine ⟨fun pins s σ H R I h => ?_⟩
  refine Call_ (ld_blt I hg hm boot_enumerate (PyProof.Rows.callWith_type1 (thn (ha.run pos pins s σ H _ I h) fun us s1 ⟨vs, H1, I1, r1, q1⟩ => ?_) hs rfl))
  obtain ⟨a, xs, ex, hq, q⟩ := q1
  subst ex
  cases r1 with
  | cons r rr =>
    cases rr
    cases r
    obtain ⟨its, rv, p', hz⟩ := I1.tuple hq
    refine call_enumerate_tuple p' fun h' he hit hsz hk => wpAny_pyIter_enum he ?_
    have I2 : Inv X pins σ H1 { s1 with heap := h' } := I1.kept (t' := s1.toks) hk
    refine ⟨s1.heap.objs.size + 1, [s1.heap.objs.size + 1, s1.heap.objs.size], _, _, H1, rfl, I2, turn_enumT a (s1.heap.objs.size + 1) s1.heap.objs.size, ⟨⟨.none, he⟩, hit, Nat.succ_ne_self _⟩, fun b hb => ?_, q⟩
    have e' : b = s1.heap.objs.size + 1 ∨ b = s1.heap.objs.size := by simpa using hb
    have hle : s1.heap.objs.size ≤ b := by
      rcases e' with z | z
      · rw [z]; exact Nat.le_add_right _ _
      · rw [z]; exact Nat.le_refl _
    exact I1.fpOk hle (I1.hok.fresh hle)
theorem walk_enumT {K : PySem.W.Frag} {a : Addr} {xs : List V} : Walk (IttE K a) xs.length (fun H => SqT K H a xs) (fun i H v H' => ∃ T x, v = .ref T ∧ H T = none ∧ H' = upd H T (.tup [.int (i : Nat), x]) ∧ xs[i]? = some x) :=
  ⟨fun i H hi g => ⟨xs, xs[i], g, List.getElem?_eq_getElem hi⟩, fun H g => ⟨xs, g, Nat.le_refl _⟩, fun i H v H' hi g y => by
    obtain ⟨T, x, e1, e2, e3, e4⟩ := y
    exact ⟨T, x, e1, e2, e3, e4 xs g⟩⟩
/-- str of a number or a text -/
theorem call_strU {X : Cx} : CallR X (.type "str") (fun xs H Q => (∃ i : Int, xs = [.int i] ∧ i.natAbs.log2 < 1920 ∧ Q (.str (toString i)) H) ∨ ∃ a, xs = [.str a] ∧ Q (.str a) H) := by
  intro pins s σ H xs us Q I r h
  rcases h with h | h
  · exact call_str_int pins s σ H xs us Q I r h
  · exact SkE.call_str_str pins s σ H xs us Q I r h
/-- a text no times or once -/
theorem op_rep_str {X : Cx} : OpR X (binaryOp .Mult) (fun x y H Q => ∃ (a : Str) (k : Int), x = .str a ∧ y = .int k ∧ ((k = 0 ∧ Q (.str Str.empty) H) ∨ (k = 1 ∧ Q (.str a) H))) := by
  intro pins s σ H x y v u Q I rx ry h
  obtain ⟨a, k, rfl, rfl, h⟩ := h
  obtain ⟨t, rfl⟩ := rx
  obtain ⟨t', rfl⟩ := ry
  rcases h with ⟨rfl, q⟩ | ⟨rfl, q⟩
  · exact PySem.P.mul_str_none (by decide) (by decide) ⟨.str Str.empty, H, I.tok _, ⟨_, rfl⟩, q⟩
  · refine PySem.P.mul_str (by decide) (fun _ h => absurd h (by simp)) (fun _ h => absurd h (by simp)) ?_
    rw [if_neg (by decide), if_pos (by simp)]
    exact ⟨.str a, H, I, ⟨_, rfl⟩, q⟩
end Wn

namespace Wn
open PySem L2
open SX (S S_len S_cat S_beq_eq join_S)
/-- the first place of a sign -/
theorem occ_one {p q : List Nat} {c : Nat} (h : c ∉ p) : ∃ rest, Builtin.Str.occurrences (S (p ++ c :: q)) (S [c]) 0 (S (p ++ c :: q)).length 1 = p.length :: rest := by
  have at_ : ∀ i, StrLaws.At (S (p ++ c :: q)) (S [c]) (S (p ++ c :: q)).length i ↔ (p ++ c :: q)[i]? = some c := fun i => StrLaws.subAt_one (S (p ++ c :: q)) c i
  rcases StrLaws.occ_head (S (p ++ c :: q)) (S [c]) 1 (Nat.le_refl _) with ⟨_, h0⟩ | ⟨i, r, e, hi, hk⟩
  · exact (h0 p.length ((at_ _).mpr (by simp))).elim
  · refine ⟨r, ?_⟩
    rw [e]
    congr 1
    have h1 := (at_ i).mp hi
    by_cases hlt : i < p.length
    · rw [List.getElem?_append_left hlt] at h1
      exact (h (List.mem_of_getElem? h1)).elim
    · by_cases hgt : p.length < i
      · exact (hk _ hgt ((at_ _).mpr (by simp))).elim
      · omega
inductive HP where
  | num (n : Nat)
  | word (c : Nat)
def HP.enc : HP → PyData
  | .num n => .int (n : Int)
  | .word c => .str (S [c])
def HP.txt : HP → List Nat
  | .num n => TL.numL n
  | .word c => [c]
def HP.v : HP → V
  | .num n => .int (n : Int)
  | .word c => .str (S [c])
/-- a head: room, kind and five numbers -/
structure Hd where
  r : Nat
  k : Nat
  a : Nat
  b : Nat
  c : Nat
  d : Nat
  e : Nat
deriving DecidableEq
def Hd.L (h : Hd) : List HP := [.num h.r, .word h.k, .num h.a, .num h.b, .num h.c, .num h.d, .num h.e]
def Hd.D (h : Hd) : PyData := .tuple (h.L.map HP.enc)
def Hd.vs (h : Hd) : List V := h.L.map HP.v
def kindsL : List Nat := [108, 117, 97, 102, 104, 116]
structure Hd.Ok (h : Hd) : Prop where
  k : h.k ∈ kindsL
  r : h.r ≤ 1000000
  a : h.a ≤ 1000000
  b : h.b ≤ 1000000
  c : h.c ≤ 1000000
  d : h.d ≤ 1000000
  e : h.e ≤ 1000000
def Hd.txt (h : Hd) : List Nat := TL.joinL [46] (h.L.map HP.txt)
def Hd.wr (h : Hd) (cs : List Nat) : List Nat := h.txt ++ 58 :: cs
theorem rp_hp {K : PySem.W.Frag} {H : Hp} {x : HP} {v : V} (r : Rp K H x.enc v) : v = x.v := by
  cases x with
  | num n =>
    unfold HP.enc Rp at r
    exact r
  | word c =>
    unfold HP.enc Rp at r
    exact r
theorem rp_hp' {K : PySem.W.Frag} {H : Hp} (x : HP) : Rp K H x.enc x.v := by
  cases x with
  | num n => exact Rp.int
  | word c => exact Rp.str
theorem rpl_hp {K : PySem.W.Frag} {H : Hp} : ∀ (l : List HP) (vs : List V), RpL K H (l.map HP.enc) vs ↔ vs = l.map HP.v
  | [], vs => by
    show RpL K H [] vs ↔ vs = []
    unfold RpL
    exact Iff.rfl
  | x :: l, vs => by
    show RpL K H (x.enc :: l.map HP.enc) vs ↔ _
    unfold RpL
    constructor
    · rintro ⟨v, r, rfl, h1, h2⟩
      rw [rp_hp h1, (rpl_hp l r).mp h2]
      rfl
    · rintro rfl
      exact ⟨_, _, rfl, rp_hp' x, (rpl_hp l _).mpr rfl⟩
theorem rp_head {K : PySem.W.Frag} {H : Hp} {h : Hd} {v : V} : Rp K H h.D v ↔ ∃ a, v = .ref a ∧ SqT K H a h.vs := by
  unfold Hd.D
  unfold Rp
  constructor
  · rintro ⟨a, xs, rfl, ha, rl⟩
    rw [(rpl_hp _ _).mp rl] at ha
    exact ⟨a, rfl, ha⟩
  · rintro ⟨a, rfl, ha⟩
    exact ⟨a, _, rfl, ha, (rpl_hp _ _).mpr rfl⟩
/-! ### texts of heads -/
theorem kind_free {k s : Nat} (h : k ∈ kindsL) (hs : s < 97) : s ≠ k := by
  unfold kindsL at h
  intro e
  subst e
  simp at h
  omega
theorem hp_free {h : Hd} (ok : h.Ok) {s : Nat} (hs : s = 46 ∨ s = 58) : ∀ p ∈ h.L.map HP.txt, s ∉ p := by
  have hn : ∀ n, s ∉ TL.numL n := fun n => TL.numL_free (by omega)
  have hk : s ∉ [h.k] := fun z => kind_free ok.k (by omega) (List.mem_singleton.mp z)
  intro p hp
  simp only [Hd.L, List.map_cons, List.map_nil, HP.txt, List.mem_cons, List.not_mem_nil, or_false] at hp
  rcases hp with rfl | rfl | rfl | rfl | rfl | rfl | rfl
  · exact hn _
  · exact hk
  all_goals exact hn _
theorem spl_head {h : Hd} (ok : h.Ok) : TL.spl [46] 0 [] h.txt = h.L.map HP.txt := SX.spl_join (by simp [Hd.L]) (hp_free ok (.inl rfl))
theorem join_free {s : Nat} : ∀ (ls : List (List Nat)), s ≠ 46 → (∀ p ∈ ls, s ∉ p) → s ∉ TL.joinL [46] ls
  | [], _, _ => by simp [TL.joinL]
  | [p], _, h => h p (by simp)
  | p :: q :: r, hs, h => by
    show s ∉ p ++ ([46] ++ TL.joinL [46] (q :: r))
    rw [List.mem_append, List.mem_append, List.mem_singleton]
    rintro (z | z | z)
    · exact h p (by simp) z
    · exact hs z
    · exact join_free (q :: r) hs (fun x hx => h x (List.mem_cons_of_mem _ hx)) z
theorem head_free {h : Hd} (ok : h.Ok) : 58 ∉ h.txt := join_free _ (by decide) (hp_free ok (.inr rfl))
theorem num_len7 {n : Nat} (h : n ≤ 1000000) : (TL.numL n).length ≤ 7 := TL.numL_len (by decide) (by have : (10 : Nat) ^ 7 = 10000000 := by decide
                                                                                                     omega)
theorem head_len {h : Hd} (ok : h.Ok) : h.txt.length ≤ 49 := by
  have h1 := num_len7 ok.r
  have h2 := num_len7 ok.a
  have h3 := num_len7 ok.b
  have h4 := num_len7 ok.c
  have h5 := num_len7 ok.d
  have h6 := num_len7 ok.e
  show (TL.joinL [46] [TL.numL h.r, [h.k], TL.numL h.a, TL.numL h.b, TL.numL h.c, TL.numL h.d, TL.numL h.e]).length ≤ 49
  simp only [TL.joinL, List.length_append, List.length_cons, List.length_nil]
  omega
theorem wr_inj {h h' : Hd} {cs cs' : List Nat} (ok : h.Ok) (ok' : h'.Ok) (e : h.wr cs = h'.wr cs') : h = h' ∧ cs = cs' := by
  have p1 := SX.par_head (sep := []) cs (head_free ok)
  have p2 := SX.par_head (sep := []) cs' (head_free ok')
  have e1 : h.txt ++ ([58] ++ cs) = h'.txt ++ ([58] ++ cs') := e
  rw [e1] at p1
  have p3 := p1.symm.trans p2
  rw [Option.some.injEq, Prod.mk.injEq] at p3
  refine ⟨?_, p3.2⟩
  have s1 := spl_head ok
  have s2 := spl_head ok'
  rw [p3.1] at s1
  have s3 := s1.symm.trans s2
  simp only [Hd.L, List.map_cons, List.map_nil, HP.txt, List.cons.injEq, and_true] at s3
  obtain ⟨r1, r2, r3, r4, r5, r6, r7⟩ := s3
  obtain ⟨a, b, c, d, e, f, g⟩ := h
  obtain ⟨a', b', c', d', e', f', g'⟩ := h'
  dsimp only at r1 r2 r3 r4 r5 r6 r7
  rw [TL.numL_inj r1, r2, TL.numL_inj r3, TL.numL_inj r4, TL.numL_inj r5, TL.numL_inj r6, TL.numL_inj r7]
theorem D_inj {h h' : Hd} (e : h.D = h'.D) : h = h' := by
  obtain ⟨a, b, c, d, e, f, g⟩ := h
  obtain ⟨a', b', c', d', e', f', g'⟩ := h'
  simp [Hd.D, Hd.L, HP.enc] at e
  obtain ⟨r1, r2, r3, r4, r5, r6, r7⟩ := e
  obtain rfl : a = a' := by omega
  obtain rfl : c = c' := by omega
  obtain rfl : d = d' := by omega
  obtain rfl : e = e' := by omega
  obtain rfl : f = f' := by omega
  obtain rfl : g = g' := by omega
  subst r2
  rfl
/-- the first figure of a number of more than one -/
theorem num_head : ∀ (n : Nat), 10 ≤ n → ∀ c r, TL.numL n = c :: r → c ≠ 48 := by
  intro n
  induction n using Nat.strongRecOn with
  | _ n ih =>
    intro hn c r e
    rw [TL.numL_step hn] at e
    by_cases h : n / 10 < 10
    · rw [TL.numL_lt h] at e
      have e1 : 48 + n / 10 = c := (List.cons.inj e).1
      omega
    · cases hq : TL.numL (n / 10) with
      | nil => exact (TL.numL_ne _ hq).elim
      | cons c' r' =>
        rw [hq] at e
        have e1 : c' = c := (List.cons.inj e).1
        rw [← e1]
        exact ih (n / 10) (by omega) (by omega) c' r' hq
theorem log_small {n : Nat} (h : n ≤ 1000000) : ((n : Nat) : Int).natAbs.log2 < 1920 := by
  rw [Int.natAbs_natCast]
  by_cases h0 : n = 0
  · subst h0
    decide
  · exact Nat.lt_of_lt_of_le ((Nat.log2_lt h0).mpr (show n < 2 ^ 20 by have : (2 : Nat) ^ 20 = 1048576 := by decide
                                                                       omega)) (by decide)
theorem head_sum {h : Hd} (ok : h.Ok) : (((h.L.map fun p => S p.txt).map (·.length)).sum : Nat) + (h.L.map fun p => S p.txt).length * (Str.ofString ".").length ≤ 16777216 := by
  have h1 := num_len7 ok.r
  have h2 := num_len7 ok.a
  have h3 := num_len7 ok.b
  have h4 := num_len7 ok.c
  have h5 := num_len7 ok.d
  have h6 := num_len7 ok.e
  show (S (TL.numL h.r)).length + ((S [h.k]).length + ((S (TL.numL h.a)).length + ((S (TL.numL h.b)).length + ((S (TL.numL h.c)).length + ((S (TL.numL h.d)).length + ((S (TL.numL h.e)).length + 0)))))) + 7 * 1 ≤ _
  simp only [S_len, List.length_singleton]
  omega
theorem head_join (h : Hd) : Txt.join (Str.ofString ".") (h.L.map fun p => S p.txt) = S h.txt := by
  have e : (h.L.map fun p => S p.txt) = (h.L.map HP.txt).map S := by rw [List.map_map]; rfl
  rw [e]
  exact join_S [46] _
theorem num_le {h : Hd} (ok : h.Ok) {n : Nat} (hp : HP.num n ∈ h.L) : n ≤ 1000000 := by
  simp only [Hd.L, List.mem_cons, HP.num.injEq, List.not_mem_nil, or_false, reduceCtorEq, false_or] at hp
  have := ok.r
  have := ok.a
  have := ok.b
  have := ok.c
  have := ok.d
  have := ok.e
  omega
theorem num_len1 {n : Nat} (h : n < 10) : (TL.numL n).length = 1 := by
  rw [TL.numL_lt h]
  rfl
end Wn

namespace Wn
open PySem L2
open SX (S S_len S_cat S_beq_eq join_S)
/-! ### a head, read: plainly -/
def figsL : List Nat := [48, 49, 50, 51, 52, 53, 54, 55, 56, 57]
def kindsV : List V := kindsL.map fun c => V.str (S [c])
def figB (c : Nat) : Bool := decide (c ∈ figsL)
def kindB (w : List Nat) : Bool := inV (.str (S w)) kindsV
/-- the number that a word tells -/
def numB (w : List Nat) : Option Nat := if w ≠ [] ∧ w.length ≤ 7 ∧ w.all figB = true ∧ ¬ (1 < w.length ∧ w.head? = some 48) ∧ NumText.digitsVal w ≤ 1000000 then some (NumText.digitsVal w) else none
theorem numB_val {w : List Nat} {n : Nat} (h : numB w = some n) : n = NumText.digitsVal w ∧ n ≤ 1000000 := by
  unfold numB at h
  split at h
  · rename_i c
    cases h
    exact ⟨rfl, c.2.2.2.2⟩
  · cases h
def allN : List (List Nat) → Option (List Nat)
  | [] => some []
  | w :: r => match numB w, allN r with
    | some n, some ns => some (n :: ns)
    | _, _ => none
theorem allN_some : ∀ {ws : List (List Nat)}, (∀ w ∈ ws, numB w ≠ none) → ∃ ns, allN ws = some ns ∧ ns = ws.map fun w => (numB w).getD 0
  | [], _ => ⟨[], rfl, rfl⟩
  | w :: r, h => by
    obtain ⟨ns, e, e2⟩ := allN_some (ws := r) fun x hx => h x (List.mem_cons_of_mem _ hx)
    cases hw : numB w with
    | none => exact absurd hw (h w List.mem_cons_self)
    | some n =>
      refine ⟨n :: ns, ?_, ?_⟩
      · unfold allN
        rw [hw, e]
      · rw [List.map_cons, hw, e2]
        rfl
theorem allN_none : ∀ {ws : List (List Nat)}, (∃ w ∈ ws, numB w = none) → allN ws = none
  | [], h => by obtain ⟨w, hw, _⟩ := h; cases hw
  | w :: r, h => by
    unfold allN
    cases hw : numB w with
    | none => rfl
    | some n =>
      have : ∃ w ∈ r, numB w = none := by
        obtain ⟨x, hx, e⟩ := h
        rcases List.mem_cons.mp hx with rfl | hx
        · rw [hw] at e; cases e
        · exact ⟨x, hx, e⟩
      rw [allN_none this]
theorem allN_or (ws : List (List Nat)) : (∀ w ∈ ws, numB w ≠ none) ∨ ∃ w ∈ ws, numB w = none := by
  by_cases h : ∃ w ∈ ws, numB w = none
  · exact .inr h
  · exact .inl fun w hw e => h ⟨w, hw, e⟩
def headD (n0 : Nat) (w1 : List Nat) (ns : List Nat) : PyData := .tuple (.int (n0 : Int) :: .str (S w1) :: ns.map fun n : Nat => PyData.int (n : Int))
/-- the head of the words -/
def readW : List (List Nat) → Option PyData
  | w0 :: w1 :: rest => if rest.length = 5 ∧ kindB w1 = true then (match allN rest, numB w0 with
    | some ns, some n0 => some (headD n0 w1 ns)
    | _, _ => none) else none
  | _ => none
theorem readW_len {ws : List (List Nat)} (h : ws.length ≠ 7) : readW ws = none := by
  cases ws with
  | nil => rfl
  | cons w0 ws =>
    cases ws with
    | nil => rfl
    | cons w1 rest =>
      show (if rest.length = 5 ∧ kindB w1 = true then _ else none) = none
      exact if_neg (fun z => h (by rw [List.length_cons, List.length_cons, z.1]))
def frontL (cs : List Nat) : List Nat := cs.takeWhile fun c => decide (c ≠ 58)
def wordsL (cs : List Nat) : List (List Nat) := TL.spl [46] 0 [] (frontL cs)
def readB (cs : List Nat) : Option PyData := if 58 ∈ cs then (readW (wordsL cs)).map fun d => .tuple [d, .str (S (cs.drop ((frontL cs).length + 1)))] else none
theorem front_eq : ∀ {cs : List Nat}, 58 ∈ cs → ∃ q, cs = frontL cs ++ 58 :: q ∧ q = cs.drop ((frontL cs).length + 1) ∧ 58 ∉ frontL cs
  | c :: cs, h => by
    by_cases hc : c = 58
    · subst hc
      have e : frontL (58 :: cs) = [] := by unfold frontL; rw [List.takeWhile_cons, if_neg (by decide)]
      rw [e]
      exact ⟨cs, rfl, rfl, List.not_mem_nil⟩
    · have h' : 58 ∈ cs := by
        rcases List.mem_cons.mp h with z | z
        · exact absurd z.symm hc
        · exact z
      obtain ⟨q, e1, e2, e3⟩ := front_eq h'
      have e : frontL (c :: cs) = c :: frontL cs := by unfold frontL; rw [List.takeWhile_cons, if_pos (decide_eq_true hc)]
      rw [e]
      refine ⟨q, ?_, ?_, fun z => ?_⟩
      · rw [List.cons_append, ← e1]
      · rw [List.length_cons, List.drop_succ_cons]; exact e2
      · rcases List.mem_cons.mp z with z | z
        · exact hc z.symm
        · exact e3 z
theorem spl_first {c : Nat} {q : List Nat} : ∀ (p acc : List Nat), c ∉ p → TL.spl [c] 0 acc (p ++ c :: q) = (acc ++ p) :: TL.spl [c] 0 [] q
  | [], acc, _ => by
    rw [List.nil_append, TL.spl_hit (by show (List.take 1 (c :: q) == [c]) = true; simp), List.append_nil]
    rfl
  | x :: p, acc, h => by
    rw [List.cons_append, TL.spl_miss (by
      show (List.take 1 (x :: (p ++ c :: q)) == [c]) = false
      have : x ≠ c := fun z => h (by rw [z]; exact List.mem_cons_self)
      simp [this]), spl_first p (acc ++ [x]) (fun z => h (List.mem_cons_of_mem _ z)), List.append_assoc]
    rfl
theorem spl_len : ∀ (l acc : List Nat), ∀ w ∈ TL.spl [46] 0 acc l, w.length ≤ acc.length + l.length
  | [], acc, w, h => by
    rw [TL.spl_nil] at h
    rw [List.mem_singleton.mp h]
    exact Nat.le_refl _
  | c :: l, acc, w, h => by
    cases hp : TL.pre [46] (c :: l) with
    | true =>
      rw [TL.spl_hit hp] at h
      rcases List.mem_cons.mp h with rfl | h
      · omega
      · have := spl_len l [] w h
        rw [List.length_nil] at this
        rw [List.length_cons]
        omega
    | false =>
      rw [TL.spl_miss hp] at h
      have := spl_len l (acc ++ [c]) w h
      rw [List.length_append, List.length_singleton] at this
      rw [List.length_cons]
      omega
theorem spl_many : ∀ (l acc : List Nat), (TL.spl [46] 0 acc l).length ≤ l.length + 1
  | [], acc => by rw [TL.spl_nil]; exact Nat.le_refl _
  | c :: l, acc => by
    cases hp : TL.pre [46] (c :: l) with
    | true =>
      rw [TL.spl_hit hp, List.length_cons, List.length_cons]
      exact Nat.succ_le_succ (spl_many l [])
    | false =>
      rw [TL.spl_miss hp, List.length_cons]
      exact Nat.le_succ_of_le (spl_many l (acc ++ [c]))
theorem front_len (cs : List Nat) : (frontL cs).length ≤ cs.length := (List.takeWhile_sublist _).length_le
theorem words_len {cs : List Nat} {w : List Nat} (h : w ∈ wordsL cs) : w.length ≤ cs.length := by
  have := spl_len (frontL cs) [] w h
  have := front_len cs
  rw [List.length_nil] at *
  omega
end Wn

namespace Wn
open PySem PySem.Spec PyProof.Rows L2
section
variable {X : Cx} {e : Expr} {es : List Expr} {ta : TA} {p1 p2 pos : Pos}
/-- NetError.__init__(self, ..), NetError an own class over ValueError without an __init__ of its own -/
theorem pe_ownInit {pl : Sem Bool} {x : Str} {N : Addr} (hg : Gl X x) (hm : X.mg x = some (.ref N)) (hsp : PySem.W.specialIn X.K (.ref N) "__getattribute__" = some (some (.builtin "type.__getattribute__"))) (hrd : PySem.W.readsIn X.K N (.type "type") = true)
    (vV : PySem.W.findCls X.K (.ref N) (.type "type") "__init__" = some (.val (.builtin "ValueError.__init__"))) (ha : PA X (e :: es) ta)
    (hc : eval (.Call (.Attribute (.Name x p1) "__init__" p2) (e :: es) [] pos) X.env = (do
      let ov ← eval (.Name x p1) X.env
      standAt p2.atName
      let (f, first) ← holding [ov] (getMethod ov "__init__" pl)
      callWith pos f first (backTo pos (starEach (e :: es) X.env)) (backToKw pos (keywordEach [] X.env))) := by rfl)
    (hdb : (x == ("__debug__" : Str)) = false := by decide)
    (he : starEach (e :: es) X.env = (false, eval e X.env) :: starEach es X.env := by rfl) (hpl : (backTo pos (starEach es X.env)).any (·.1) = false := by rfl) :
    PE X (.Call (.Attribute (.Name x p1) "__init__" p2) (e :: es) [] pos) (tVeI X.K ta) := by
  refine ⟨fun pins s σ H Q I h => ?_⟩
  refine PySem.W.methodCall_KW (ld_glob I hg hm ?_ hdb) hc
  refine PySem.W.method_cls I.kIn hsp (PySem.W.cls_value I.kIn hrd vV (by decide +kernel) ?_)
  show wpAny _ _ (callWith pos (Value.builtin "ValueError.__init__") [] (backTo pos (starEach (e :: es) X.env)) []) _ _ _
  refine PyProof.Rows.callWith_method1 (thn (ha.run pos pins _ σ H _ (I.tok _) h) fun us s1 ⟨vs, H1, I1, r1, a, C, ws, ev, hl, T, ea, q⟩ => ?_) he hpl
  subst ev
  cases r1 with
  | @cons _ u0 _ ur ra rw' =>
    obtain rfl : u0 = Value.ref a := ra
    have hlen : ur.length ≤ sizeLine := by
      rw [← Paired.length rw', sizeLine_eq]
      omega
    exact oinit_ok T I1 ea hlen fun s' J => ⟨.non, H1, J, rfl, q⟩
end
end Wn

set_option maxHeartbeats 800000
namespace Wn
open PySem PySem.Spec PyProof.Rows L2
/-! ### a list comprehension whose element may raise -/
theorem note_frame {a : Value} {e1 e2 : Env} (h : e1.frame = e2.frame) : noteFrame a e1 = noteFrame a e2 := by
  unfold noteFrame PySem.frameOf
  rw [h]
section
variable {X : Cx} {pins pins' : List (Addr × Obj)} {σ σ' : L2.St} {H3 H' : Hp} {s3 s s' : Shared} {scope : Scope} {ce : Env} {fp : List Addr} {E : XK} {u : Value} {Qf : Value → Shared → Prop} {acc : Value} {use : Option (Value → Sem Unit)}
/-- an exception leaves the block -/
theorem out_blk (hs : X.stack = X.env :: X.outer) (hf : X.env.frame = some X.env.locals) (tk : Takes X (fun cls d _ H => E cls d H)) (I3 : Inv X pins σ H3 s3) (hC : s3.heap.objs.size ≤ ce.locals) (hfr : ce.frame = X.env.frame)
    (f3 : ∀ b ∈ fp, FpOk X pins H3 b) (I : Inv (X.blk s3 H3 scope ce fp) pins' σ' H' s) (c : L2.CX X.prog X.w X.stack H' s E u s') :
    notedBy (model X.prog X.w) X.A ce (fun e s'' => compEnds (model X.prog X.w) X.A X.xe use Qf acc ce (.error e) s'') u s' := by
  obtain ⟨a, B, H2, cls, d, rfl, fl, hok, ub, na, os, ag, hE⟩ := c
  have hA : X.A.frames = some (X.env :: X.outer) := by rw [I3.ok.frames, hs]
  have funs : s3.heap.FunFrames X.base X.stack := I.ok.funs
  have nCf : ce.locals ∉ frs X.stack := fun z => by
    obtain ⟨_, o, ho, _⟩ := funs.mem z
    exact absurd (Heap.lt_size ho) (Nat.not_lt.mpr hC)
  obtain ⟨m, hm, _⟩ := I.loc
  obtain ⟨oC, es, ep, ho, hr⟩ := id hm
  have hBC : B.get? ce.locals = some oC := ub.keep _ _ ho I.free nCf
  have nH2C : H2 ce.locals = none := ub.free _ _ ho I.free
  show wpAny _ _ (noteFrame (.ref a) ce) _ _ _
  rw [note_frame hfr]
  refine HandSPX.looks_onZ Zc.steady hA hf (by rw [← hs]; exact fl) fun h1 hh1 up1 => ?_
  have k1 : B.StaysIn h1 := hh1.1
  have hF : CompFails (model X.prog X.w) X.A X.xe ce (.ref a) { s' with heap := h1 } := by
    refine ⟨m, ⟨oC, es, ep, k1 _ _ hBC, hr⟩, fun h2 m' hn2 sb => ?_⟩
    obtain ⟨B', b1, b2⟩ := restrict B fun b => decide (b ≠ ce.locals)
    have bB : ∀ b o, B'.get? b = some o → B.get? b = some o ∧ b ≠ ce.locals := fun b o e => by
      by_cases hb : b = ce.locals
      · rw [b2 b (decide_eq_false (fun z => z hb))] at e; cases e
      · rw [b1 b (decide_eq_true hb)] at e; exact ⟨e, hb⟩
    have bT : ∀ b o, B.get? b = some o → b ≠ ce.locals → B'.get? b = some o := fun b o e hb => by rw [b1 b (decide_eq_true hb)]; exact e
    have bN : ∀ b, B.get? b = none → B'.get? b = none := fun b e => by
      cases q : B'.get? b with
      | none => rfl
      | some o => rw [(bB b o q).1] at e; cases e
    obtain ⟨kB, ka, kfr, oe, vs, T, oT, ts, he, hz, hd, h1', hnT, hTe, hT, hdT, h3⟩ := hh1
    have naC : a ≠ ce.locals := fun z => by rw [z, hBC] at ka; cases ka
    have nTC : T ≠ ce.locals := fun z => by rw [z, hBC] at hnT; cases hnT
    have st2 : B'.StaysIn h2 := fun b o e => by
      obtain ⟨e1, e2⟩ := bB b o e
      rw [sb.2 b e2]
      exact k1 b o e1
    have ff1 : h1.FunFrames B X.stack := by rw [hs]; exact kfr
    have ff2 : h2.FunFrames B' X.stack := by
      have g1 : h1.FunFrames B' X.stack := funFrames_none ff1 fun L hL => bN L (ff1.mem hL).1
      have gg : ∀ {l : List Env}, (∀ b ∈ frs l, b ≠ ce.locals) → h1.FunFrames B' l → h2.FunFrames B' l := fun {l} => by
        induction l with
        | nil => exact fun _ _ => trivial
        | cons e l ih =>
          intro hn h
          obtain ⟨hk, ⟨L, o, hfL, hnL, hoL, hdL⟩, hrL⟩ := h
          have hL : L ∈ frs (e :: l) := List.mem_filterMap.mpr ⟨e, List.mem_cons_self, hfL⟩
          exact ⟨hk, ⟨L, o, hfL, hnL, by rw [sb.2 L (hn L hL)]; exact hoL, hdL⟩, ih (fun b hb => hn b (by obtain ⟨e', he', q⟩ := List.mem_filterMap.mp hb; exact List.mem_filterMap.mpr ⟨e', List.mem_cons_of_mem _ he', q⟩)) hrL⟩
      exact gg (fun b hb z => nCf (z ▸ hb)) g1
    have tr2 : HandSPX.TracedZ h2 B' a (Zc cls d) (rawInt X.env.locals) := ⟨oe, vs, T, oT, ts, by rw [sb.2 a naC]; exact he, hz, hd, h1', bN T hnT, hTe, by rw [sb.2 T nTC]; exact hT, hdT, h3⟩
    unfold PySem.passOn
    refine wpAny_bind (wpAny_field (by rw [sb.2 a naC]; exact he) hd h1' ?_)
    rw [if_neg (show ¬ ((Value.ref T == Value.none) = true) from by simp)]
    have fin : wpAny (model X.prog X.w) X.A (setFlight (.ref a) ce.frame) (fun _ s4 => wpAny (model X.prog X.w) X.A (throw (.ref a) : Sem Value) (fun _ _ => False) X.xe s4) X.xe { s' with heap := h2 } := by
      rw [hfr, hf]
      refine HandSPX.setFlight_anyZ st2 ff2 tr2 fun h4 st4 ff4 tr4 up4 => wpAny_throw (tk _ _ ?_)
      obtain ⟨G, g1, g2⟩ := restrict h4 fun b => (B'.get? b).isSome || decide (b ∈ frs X.stack)
      have gB : ∀ b o, B'.get? b = some o → G.get? b = some o := fun b o e => by
        rw [g1 b (by simp [e])]
        exact st4 b o e
      have gF : ∀ b, b ∈ frs X.stack → G.get? b = h4.get? b := fun b hb => g1 b (by simp [hb])
      have og : ∀ b o, G.get? b = some o → h4.get? b = some o ∧ ((B'.get? b).isSome = true ∨ b ∈ frs X.stack) := fun b o e => by
        cases q : ((B'.get? b).isSome || decide (b ∈ frs X.stack)) with
        | false => rw [g2 b q] at e; cases e
        | true =>
          rw [g1 b q] at e
          exact ⟨e, by simpa [Bool.or_eq_true] using q⟩
      have ltC : ∀ b o, s3.heap.get? b = some o → b ≠ ce.locals := fun b o e z => by
        have := Heap.lt_size e
        rw [z] at this
        exact absurd this (Nat.not_lt.mpr hC)
      have hslot : ∀ b o, s3.heap.get? b = some o → H3 b = none → b ∈ frs X.stack → b ∉ fp → ∃ sl, h4.get? b = some { o with slots := sl } := fun b o e n hb hx => by
        obtain ⟨_, o₀, e₀, hnf⟩ := funs.mem hb
        rw [e] at e₀; cases e₀
        obtain ⟨sl1, e1⟩ := I.base.slot b o e n hb hx
        obtain ⟨sl2, e2⟩ := ub.slot b _ e1 hb
        obtain ⟨sl3, e3⟩ := up1 b _ e2 hnf
        have e3' : h2.get? b = some { o with slots := sl3 } := by rw [sb.2 b (ltC b o e)]; exact e3
        obtain ⟨sl4, e4⟩ := up4 b _ e3' hnf
        exact ⟨sl4, e4⟩
      have J : Inv X pins σ H2 { s3 with heap := G, gens := s'.gens, drawn := s'.drawn, toks := s'.toks } := by
        refine I3.call (ch := fp) ⟨fun b o e n hb hx => ?_, fun b o e n hb hx => ?_, fun b o e n hx => ?_, fun b o e hx => ?_, fun b xs e => ub.tups _ _ (I.base.tups _ _ e), fun b o xs e => ub.frzs _ _ _ (I.base.frzs _ _ _ e), fun b ps e => ?_⟩ (fun b o q => ?_) ag fun b hb => ⟨(f3 b hb).2.2.2.1, (f3 b hb).2.1, (f3 b hb).2.2.2.2.1, (f3 b hb).2.2.2.2.2⟩
        · exact gB b o (bT b o (ub.keep b o (I.base.keep b o e n hb hx) (I.base.free b o e n hx) hb) (ltC b o e))
        · obtain ⟨sl, q⟩ := hslot b o e n hb hx
          exact ⟨sl, by rw [gF b hb]; exact q⟩
        · obtain ⟨sl, q⟩ := I.base.any e n hx
          exact ub.free b _ q (I.base.free b o e n hx)
        · by_cases hb : b ∈ frs X.stack
          · obtain ⟨sl, q⟩ := hslot b o e (I3.stkFree b hb) hb hx
            exact ⟨_, by rw [gF b hb]; exact q⟩
          · obtain ⟨o1, q1⟩ := I.base.there b o e hx
            obtain ⟨o2, q2⟩ := ub.there b o1 q1 hb
            exact ⟨o2, gB b o2 (bT b o2 q2 (ltC b o e))⟩
        · obtain ⟨m1, q1⟩ := I.base.tbls b ps e
          obtain ⟨m2, q2⟩ := ub.tbls b _ q1
          exact ⟨m1 ++ m2, by rw [q2]; simp⟩
        · refine (hok b o q).stay (fun c w hc e => gB c w (bT c w e fun z => ?_)) (fun _ r => r) fun _ _ r => r
          rcases hc with hc | hc
          · rw [← hc, z, nH2C] at q; cases q
          · rw [z, nH2C] at hc; cases hc
      refine ⟨a, B', _, pins, σ, H2, cls, d, rfl, J, fun b o e hb => ?_, Heap.UpToSlots.of_keeps fun b o e => (og b o e).1, .inr (.inr ⟨st4, bN a ka, ff4, tr4⟩), na, ?_, ag, hE⟩
      · obtain ⟨e', h⟩ := og b o e
        rcases h with h | h
        · obtain ⟨o', q⟩ := Option.isSome_iff_exists.mp h
          have z := st4 b o' q
          rw [e'] at z; cases z
          exact q
        · exact absurd h hb
      · show s'.os = s3.os
        exact os.trans I.os
    exact wpAny_bind fin
  cases use <;> exact hF
end
section
variable {X : Cx}
/-- [elt for target in iter if ..], as a value; what elt lets out leaves the def -/
theorem pe_lcX {E : XK} {elt tg iter : Expr} {ifs : List Expr} {scope : Scope} {own : List (Str × Nat)} {pos : Pos} {wi : TI} {g : TG} {tt : TT} {te : TE} (hst : X.stack = X.env :: X.outer) (hfx : X.env.frame = some X.env.locals) (tk : Takes X (fun cls d _ H => E cls d H)) (hc : X.calm = true) (hN : X.N.Nodup) (hi : PI X tg iter wi) (ok : BlkOk X.N X.env.scope scope own)
    (hg : ∀ (s : Shared) (H : Hp) (C : Addr) (cl : List (Str × Addr)) (fp : List Addr), PG (X.blk s H scope (compEnvC scope cl C X.env) fp) tg g) (ht : ∀ (s : Shared) (H : Hp) (C : Addr) (cl : List (Str × Addr)) (fp : List Addr), PTs (X.blk s H scope (compEnvC scope cl C X.env) fp) ifs tt)
    (he : ∀ (s : Shared) (H : Hp) (C : Addr) (cl : List (Str × Addr)) (fp : List Addr) (xe : Value → Shared → Prop), Passes (L2.CX X.prog X.w) ((X.blk s H scope (compEnvC scope cl C X.env) fp).wish xe) E → PE ((X.blk s H scope (compEnvC scope cl C X.env) fp).wish xe) elt te) (hs : ∀ x, foldedSetIterable iter X.env x = pure x := by intro _; rfl) :
    PE X (.ListComp elt [⟨tg, iter, ifs, 0⟩] scope pos) (tLc wi g tt te (own.map (·.2))) := by
  refine ⟨fun pins s σ H Q I h => ?_⟩
  rw [eval_ListComp]
  have hfree : ∀ y ∈ scope.names, y.2 = .free → ∃ c, X.env.cells.lookup y.1 = some c := fun y hy e => by
    rcases ok.free y hy e with k | k
    · exact I.ok.has _ (.inl k)
    · exact I.ok.has _ (.inr k)
  refine comprehension_at (use := none) rfl hs (closure_ok hfree) ok.kind (fun y hy e => by rw [ok.uniq y hy, e])
    (thn (hi.run pins s σ H _ I h) fun xv s1 hx => thn hx fun itv s2 h2 => ?_)
  obtain ⟨it, fp, tn, J, H2, e, I2, T, st2, f2, q⟩ := h2
  subst e
  refine wpAny_newObj_type (newEnv_comp ?_) (by show 0 ≤ sizeLine; decide)
  generalize hD : s2.heap.objs.size = D
  have hDn : H2 D = none := I2.hok.fresh (Nat.le_of_eq hD)
  obtain ⟨W, ⟨m0, w0⟩, turn⟩ := q D hDn
  generalize hs3 : ({ s2 with heap := s2.heap.push { cls := .type "list", data := .seq ([] : List Value).toArray } } : Shared) = s3
  have I3 : Inv X pins σ (upd H2 D (.lst [])) s3 := by
    rw [← hs3]
    refine I2.laid (t' := s2.toks) (fun b o e => Heap.get?_push_of_some _ e) (Nat.le_of_eq hD) ⟨Nat.zero_le _, [], 0, .nil, ?_⟩
    rw [← hD]
    exact Heap.get?_push_size _ rfl
  have h3 : s3.heap = s2.heap.push { cls := .type "list", data := .seq ([] : List Value).toArray } := by rw [← hs3]
  have sz : ∀ b ∈ fp, b < s2.heap.objs.size := fun b hb => by
    obtain ⟨o, e, _⟩ := T.obj _ _ st2 b hb
    exact Heap.lt_size e
  have f3 : ∀ b ∈ fp, FpOk X pins (upd H2 D (.lst [])) b ∧ b < s3.heap.objs.size := fun b hb => by
    have hlt := sz b hb
    refine ⟨⟨?_, (f2 b hb).2⟩, by rw [h3, Heap.size_push]; exact Nat.lt_succ_of_lt hlt⟩
    rw [upd_ne (by rw [← hD]; exact Nat.ne_of_lt hlt)]
    exact (f2 b hb).1
  have st3 : tn 0 s3.heap := T.keep _ _ _ st2 fun b _ o e => by rw [h3]; exact Heap.get?_push_of_some _ e
  have I4 := block_start I3 ok hN f3
  have pg := hg s3 (upd H2 D (.lst [])) s3.heap.objs.size (cellsFrom (s3.heap.objs.size + 1) scope.names (cloFrom X.env.cells scope.names [])) fp
  have pt := ht s3 (upd H2 D (.lst [])) s3.heap.objs.size (cellsFrom (s3.heap.objs.size + 1) scope.names (cloFrom X.env.cells scope.names [])) fp
  have pe := he s3 (upd H2 D (.lst [])) s3.heap.objs.size (cellsFrom (s3.heap.objs.size + 1) scope.names (cloFrom X.env.cells scope.names [])) fp
  show codeAny _ _ (.compStart (.ListComp elt [⟨tg, iter, ifs, 0⟩] scope pos) 0 (.ref it) (.ref D) (compEnvC scope (cellsFrom (s3.heap.objs.size + 1) scope.names (cloFrom X.env.cells scope.names [])) s3.heap.objs.size X.env)) (compEnds (model X.prog X.w) X.A X.xe none (EP X pins σ Q) (.ref D) (compEnvC scope (cellsFrom (s3.heap.objs.size + 1) scope.names (cloFrom X.env.cells scope.names [])) s3.heap.objs.size X.env)) { s3 with heap := pushCells (s3.heap.push { cls := .type "dict", data := .dict #[] }) scope.names }
  have nfp : ∀ b ∈ fp, (upd H2 D (.lst [])) b = none := fun b hb => (f3 b hb).1.1
  generalize hce : compEnvC scope (cellsFrom (s3.heap.objs.size + 1) scope.names (cloFrom X.env.cells scope.names [])) s3.heap.objs.size X.env = ce at I4 pg pt pe ⊢
  have cL : ce.locals = s3.heap.objs.size := by subst hce; rfl
  have cF : ce.frame = X.env.frame := by subst hce; rfl
  generalize hH3 : upd H2 D (.lst []) = H3 at I3 I4 pg pt pe w0 nfp f3
  generalize hs4 : ({ s3 with heap := pushCells (s3.heap.push { cls := .type "dict", data := .dict #[] }) scope.names } : Shared) = s4 at I4 ⊢
  have st4 : tn 0 s4.heap := T.keep _ _ _ st3 fun b _ o e => by rw [← hs4]; exact pushCells_keeps _ _ _ _ (Heap.get?_push_of_some _ e)
  have stat : ∀ {σ' : L2.St} {H' : Hp} {s' : Shared}, Inv (X.blk s3 H3 scope ce fp) [] σ' H' s' → (∀ b ∈ fp, H' b = none) → ∀ b ∈ fp, FpOk (X.blk s3 H3 scope ce fp) [] H' b := fun {σ' H' s'} I' hn b hb =>
    ⟨hn b hb, (I'.ok.exf b hb).1, I'.ok.exfs b hb, .inl hb, fun x c e => (I'.ok.exf b hb).2 x c e, fun p hp => absurd (show p ∈ ([] : List (Addr × Obj)) ++ [] from hp) (by simp)⟩
  have pe2 := pe (fun e s' => notedBy (model X.prog X.w) X.A ce (fun e s'' => compEnds (model X.prog X.w) X.A X.xe none (EP X pins σ Q) (.ref D) ce (.error e) s'') e s') (fun pins' σ' H' s5 e s' I5 c => out_blk hst hfx tk I3 (by rw [cL]; exact Nat.le_refl _) cF (fun b hb => (f3 b hb).1) I5.unwish c)
  have loop : codeAny (model X.prog X.w) X.A (.compLoop (.ListComp elt [⟨tg, iter, ifs, 0⟩] scope pos) 0 (.ref it) (.ref D) ce) (compEnds (model X.prog X.w) X.A X.xe none (EP X pins σ Q) (.ref D) ce) s4 := by
    refine compLoop_any (fun n s' => ∃ i H', Inv (X.blk s3 H3 scope ce fp) [] (wipe σ (own.map (·.2))) H' s' ∧ tn i s'.heap ∧ (∀ b ∈ fp, H' b = none) ∧ W i n H') ?_ m0 ⟨0, H3, I4, st4, nfp, w0⟩
    rintro n s5 ⟨i, H5, I5, st5, n5, w5⟩
    rcases turn i n H5 w5 with ⟨stop, qq⟩ | ⟨go, Nx, hNx, step⟩
    · have td := T.done (X.blk s3 H3 scope ce fp) rfl rfl rfl hc i [] s5 _ H5 (fun _ _ => False) I5 (stat I5 n5) st5 stop
      refine thnF td fun r s6 ⟨hr, I6⟩ => ?_
      subst hr
      have I7 : Inv X pins σ H5 s6 := I3.call' (ch := fp) I6.os I6.base I6.hok I6.bare fun b hb => ⟨(f3 b hb).1.2.2.2.1, (f3 b hb).1.2.1, (f3 b hb).1.2.2.2.2.1, (f3 b hb).1.2.2.2.2.2⟩
      have nC : H5 s3.heap.objs.size = none := by
        have z : H5 ce.locals = none := I6.free
        rw [cL] at z
        exact z
      obtain ⟨m, hn, _⟩ := I6.loc
      have hn : s6.heap.Ns ce.locals m := hn
      obtain ⟨f0, f1, f2', f3', f4, f5⟩ := I3.fpOk (Nat.le_refl _) nC
      refine ⟨m, hn, fun h'' sb => ⟨.ref D, H5, I7.turned (t' := s6.toks) (fun b o hb e => (sb.2 b (by rw [cL]; exact hb)).trans e) f0 f1 f3' f4 f5, rfl, qq⟩⟩
    · have ti := T.item (X.blk s3 H3 scope ce fp) rfl rfl rfl hc i [] s5 _ H5 (fun _ _ => False) I5 (stat I5 n5) st5 go
      refine thnF ti fun r s6 ⟨u, hr, h6⟩ => ?_
      subst hr
      refine thnF h6 fun _ s7 ⟨x, H7, I7, r7, y7, st7, n7⟩ => ?_
      have I7' := I7.pinned (stat I7 n7) (T.obj _ _ st7)
      refine thnF (pg.run _ s7 _ H7 x u _ I7' r7 (step x H7 y7)) fun _ s8 ⟨σ8, H8, I8, hw8, q8⟩ => ?_
      refine thnF (pt.run _ s8 σ8 H8 _ I8 q8) fun b s9 ⟨H9, I9, q9⟩ => ?_
      have fin : ∀ {s' : Shared} {H' : Hp}, Inv (X.blk s3 H3 scope ce fp) ([] ++ pinsAt fp s7.heap) σ8 H' s' → Nx H' → ∃ m, m < n ∧ ∃ i H', Inv (X.blk s3 H3 scope ce fp) [] (wipe σ (own.map (·.2))) H' s' ∧ tn i s'.heap ∧ (∀ b ∈ fp, H' b = none) ∧ W i m H' := fun {s' H'} I' nx => by
        obtain ⟨m', hm, w'⟩ := hNx H' nx
        have pin' : ∀ b ∈ fp, ∀ o, s7.heap.get? b = some o → s'.heap.get? b = some o ∧ H' b = none := fun b hb o e =>
          let z := I'.pin (b, o) (List.mem_append_right _ (List.mem_append_right _ (mem_pinsAt hb e)))
          ⟨z.1, z.2.1⟩
        have hl : (wipe σ (own.map (·.2))).length = σ8.length := by rw [← hw8, wipe_length]
        refine ⟨m', hm, i + 1, H', (I'.unpinned (pins := [])).weak hl (fun j v e => ?_), T.keep _ _ _ st7 fun b hb o e => (pin' b hb o e).1, fun b hb => ?_, w'⟩
        · rw [← hw8] at e
          exact (wipe_some e).1
        · obtain ⟨o, e, _⟩ := T.obj _ _ st7 b hb
          exact (pin' b hb o e).2
      cases b with
      | false =>
        simp only [Bool.false_eq_true, if_false] at q9 ⊢
        exact fin I9 q9
      | true =>
        simp only [if_true] at q9 ⊢
        refine wpAny_mono (pe2.run _ s9 σ8 H9 _ (I9.wish _) q9) (fun z s10 ⟨yv, H10, I10, r10, acc, hD10, hz10, nx⟩ => ?_) (fun _ _ z => z)
        exact app_ok (X := X.blk s3 H3 scope ce fp) I10.unwish hD10 hz10 r10 fun s11 I11 => fin I11 nx
  exact codeAny_compStart_list loop (T.self X.A 0 _ _ _ st4 loop)
end
end Wn

namespace Wn
open PySem L2
/-! ### backward steps over heaps: used by the macros of tools/auto.txt -/
section
variable {K : PySem.W.Frag} {H H' G : Hp} {a b : Addr} {o u : HO} {M : List Addr}
theorem g_same (s : Same H H') (h : H a = some o) : H' a = some o := s _ _ h
theorem g_kp (k : Kp M H H') (n : a ∉ M) (h : H a = some o) : H' a = some o := k _ _ n h
theorem g_tk {xs : List V} (t : TK H H') (h : H a = some (.tup xs)) : H' a = some (.tup xs) := t.1 _ _ h
theorem g_upd (n : b ≠ a) (h : H b = some u) : upd H a o b = some u := (upd_ne n).trans h
theorem n_same (s : Same H H') (h : H' a = none) : H a = none := by
  cases e : H a with
  | none => rfl
  | some o =>
    rw [s _ _ e] at h
    cases h
theorem n_kp (k : Kp M H H') (n : a ∉ M) (h : H' a = none) : H a = none := by
  cases e : H a with
  | none => rfl
  | some o =>
    rw [k _ _ n e] at h
    cases h
theorem n_upd (h : upd H a o b = none) : H b = none := by
  unfold upd at h
  split at h
  · cases h
  · exact h
theorem ne_fr (h : H b = none) (h' : H a = some o) : a ≠ b := ne_of_none h' h
theorem ne_fr' (h : H a = none) (h' : H b = some o) : a ≠ b := (ne_of_none h' h).symm
theorem ne_kd (h : H a = some o) (h' : H b = some u) (d : o ≠ u) : a ≠ b := ne_of h h' d
theorem ne_upd (h : upd H a o b = none) : b ≠ a := by
  intro e
  subst e
  rw [upd_same] at h
  cases h
theorem t_tk (b : TK G H') (a : TK H G) : TK H H' := a.trans b
theorem t_same (b : Same G H') (a : TK H G) : TK H H' := a.trans (TK.of b)
theorem t_new (hp : G a = none) (t : TK H G) : TK H (upd G a o) := t.new hp
theorem t_wr (hp : G a = some u) (hu : Wrt u = true) (t : TK H G) : TK H (upd G a o) := t.wr hp hu
theorem s_same (b : Same G H') (a : Same H G) : Same H H' := a.trans b
theorem s_new (hp : G a = none) (s : Same H G) : Same H (upd G a o) := s.new hp
theorem s_wrn (hp : H a = none) (s : Same H G) : Same H (upd G a o) := s.wrn hp
theorem k_kp (b : Kp M G H') (a : Kp M H G) : Kp M H H' := a.trans b
theorem k_kpm {M' : List Addr} (b : Kp M' G H') (h : ∀ x ∈ M', x ∈ M ∨ H x = none) (a : Kp M H G) : Kp M H H' := fun c o hc e => b c o (fun z => (h c z).elim hc fun n => by rw [n] at e; cases e) (a c o hc e)
theorem k_same (b : Same G H') (a : Kp M H G) : Kp M H H' := a.trans (Kp.of b)
theorem k_new (hp : G a = none) (s : Kp M H G) : Kp M H (upd G a o) := s.new hp
theorem k_wr (hp : a ∈ M) (s : Kp M H G) : Kp M H (upd G a o) := s.wr hp
theorem k_wrn (hp : H a = none) (s : Kp M H G) : Kp M H (upd G a o) := s.wrn hp
theorem am0 : ∀ x ∈ ([] : List Addr), x ∈ M ∨ H x = none := fun x h => by cases h
theorem am1 {N : List Addr} (h : a ∈ M ∨ H a = none) (r : ∀ x ∈ N, x ∈ M ∨ H x = none) : ∀ x ∈ a :: N, x ∈ M ∨ H x = none := fun x z => by
  rcases List.mem_cons.mp z with rfl | z
  · exact h
  · exact r x z
theorem Rp.tk' {d : PyData} {v : V} (h : Rp K H d v) (e : TK H H') : Rp K H' d v := Rp.tk e d v h
theorem RpL.tk' {ds : List PyData} {xs : List V} (h : RpL K H ds xs) (e : TK H H') : RpL K H' ds xs := RpL.tk e ds xs h
theorem nin0 : a ∉ ([] : List Addr) := fun z => by cases z
theorem ninc {N : List Addr} (h : a ≠ b) (r : a ∉ N) : a ∉ b :: N := fun z => by
  rcases List.mem_cons.mp z with z | z
  · exact h z
  · exact r z
/-! ### tests -/
theorem iteP {p : Prop} [Decidable p] {A B : Prop} (h1 : p → A) (h2 : ¬ p → B) : if decide p = true then A else B := by
  by_cases h : p
  · rw [if_pos (decide_eq_true h)]
    exact h1 h
  · rw [if_neg (by rw [decide_eq_false h]; exact Bool.false_ne_true)]
    exact h2 h
theorem iteNP {p : Prop} [Decidable p] {A B : Prop} (h1 : ¬ p → A) (h2 : p → B) : if (!decide p) = true then A else B := by
  by_cases h : p
  · rw [decide_eq_true h]
    exact h2 h
  · rw [decide_eq_false h]
    exact h1 h
theorem iteI {i j : Int} {A B : Prop} (h1 : i = j → A) (h2 : i ≠ j → B) : if decide (V.int i = V.int j) = true then A else B :=
  iteP (fun h => h1 (by injection h)) fun h => h2 fun z => h (by rw [z])
theorem iteNI {i j : Int} {A B : Prop} (h1 : i ≠ j → A) (h2 : i = j → B) : if (!decide (V.int i = V.int j)) = true then A else B :=
  iteNP (fun h => h1 fun z => h (by rw [z])) fun h => h2 (by injection h)
theorem iteS {i j : Str} {A B : Prop} (h1 : i = j → A) (h2 : i ≠ j → B) : if decide (V.str i = V.str j) = true then A else B :=
  iteP (fun h => h1 (by injection h)) fun h => h2 fun z => h (by rw [z])
theorem iteNS' {i j : Str} {A B : Prop} (h1 : i ≠ j → A) (h2 : i = j → B) : if (!decide (V.str i = V.str j)) = true then A else B :=
  iteNP (fun h => h1 fun z => h (by rw [z])) fun h => h2 (by injection h)
theorem iteB {b : Bool} {A B : Prop} (h1 : b = true → A) (h2 : b = false → B) : if b = true then A else B := by
  cases b with
  | true => exact h1 rfl
  | false => exact h2 rfl
theorem dV_int {i j : Int} : decide (V.int i = V.int j) = decide (i = j) := decide_eq_decide.mpr ⟨fun h => by injection h, fun h => by rw [h]⟩
theorem dV_str {i j : Str} : decide (V.str i = V.str j) = decide (i = j) := decide_eq_decide.mpr ⟨fun h => by injection h, fun h => by rw [h]⟩
/-- the item of a list at a number that was drawn -/
theorem at_of {xs : List V} {r : Int} (h0 : 0 ≤ r) (h1 : r < xs.length) : ∃ v, atI xs r = some v ∧ xs[r.toNat]? = some v := by
  have hj : r.toNat < xs.length := by omega
  have e : ((r.toNat : Nat) : Int) = r := by omega
  refine ⟨xs[r.toNat], ?_, List.getElem?_eq_getElem hj⟩
  have := atI_nat (xs := xs) (j := r.toNat) (v := xs[r.toNat]) (List.getElem?_eq_getElem hj)
  rw [e] at this
  exact this
end
end Wn
namespace Wn
open PySem L2
/-- a new thing: the heap behind it by a letter -/
theorem new_any {H : Hp} {p : Addr} {o : HO} (np : H p = none) : ∃ H', H' = upd H p o ∧ Same H H' ∧ H' p = some o := ⟨_, rfl, (L2.Same.refl _).new np, upd_same⟩
/-- a thing is written -/
theorem wr_any {H : Hp} {a : Addr} {o u : HO} (h : H a = some u) (hu : Wrt u = true) : ∃ H', H' = upd H a o ∧ Kp [a] H H' ∧ TK H H' ∧ H' a = some o := ⟨_, rfl, (Kp.refl _ _).wr (List.mem_singleton.mpr rfl), (TK.refl _).wr h hu, upd_same⟩
end Wn
namespace Wn
open PySem L2
/-- if a or b: the body once -/
theorem seq_or {c : TT} {t1 t2 u : TS} {D : Ends} {σ : L2.St} {H : Hp} (R : Hp → Prop) (body : ∀ H', R H' → t1 { D with nx := u D } σ H')
    (h1 : (∀ H', R H' → t1 { D with nx := u D } σ H') → c σ H fun b H1 => if b = true then t1 { D with nx := u D } σ H1 else t2 { D with nx := u D } σ H1) : tSeq (tIfS c t1 t2) u D σ H := h1 body
theorem new_tup {K : PySem.W.Frag} {H H' : Hp} {p : Addr} {vs : List V} {ds : List PyData} (np : H p = none) (e : upd H p (.tup vs) = H') (r : RpL K H ds vs) : Same H H' ∧ Rp K H' (.tuple ds) (.ref p) :=
  have s : Same H (upd H p (.tup vs)) := (L2.Same.refl _).new np
  e ▸ ⟨s, Rp.tup upd_same (RpL.tk (TK.of s) _ _ r)⟩
end Wn
namespace Wn
open PySem L2
/-! the same words under names that the macros' searches don't take -/
def SmB (H H' : Hp) : Prop := Same H H'
def TKB (H H' : Hp) : Prop := TK H H'
def KpB (M : List Addr) (H H' : Hp) : Prop := Kp M H H'
end Wn
namespace Wn
open PySem L2
theorem seq_set {te : TE} {g : TG} {u : TS} {D : Ends} {σ : L2.St} {H : Hp} (h : te σ H fun x H1 => g x σ H1 (u D)) : tSeq (tAsg te g) u D σ H := h
end Wn
namespace Wn
theorem iteYes {p : Prop} [Decidable p] {A B : Prop} (h : p) (a : A) : if decide p = true then A else B := by
  rw [if_pos (decide_eq_true h)]
  exact a
theorem iteNo {p : Prop} [Decidable p] {A B : Prop} (h : ¬ p) (b : B) : if decide p = true then A else B := by
  rw [if_neg (by rw [decide_eq_false h]; exact Bool.false_ne_true)]
  exact b
end Wn
namespace Wn
open PySem L2
theorem while_w {c : TT} {tb : TS} {D : Ends} {σ : L2.St} {H : Hp} (W : Nat → L2.St → Hp → Prop) (h0 : ∃ m, W m σ H)
    (hs : ∀ m σ H, W m σ H → c σ H fun b H1 => if b = true then ∃ N : L2.St → Hp → Prop, (∀ σ' H', N σ' H' → ∃ m', m' < m ∧ W m' σ' H') ∧ tb { D with nx := N, ct := N, bk := D.nx } σ H1 else D.nx σ H1) : tWhile c tb D σ H := ⟨W, h0, hs⟩
end Wn

namespace Wn
open PySem L2 PySem.Spec PyProof.Rows
/-! ### repr of data asks that no repr is under way: a promise of the law's own def, called as the claim calls it -/
section
variable {X : Cx} {K : PySem.W.Frag}
def rReprD (K : PySem.W.Frag) : List V → Hp → VK → Prop := fun xs H Q => ∃ (x : V) (d : PyData), xs = [x] ∧ Dp K H x d ∧ d.showable = true ∧ d.hasDict = false ∧ d.depth ≤ 60 ∧ d.shown.length ≤ sizeLine ∧ Q (.str d.shown) H
theorem call_reprD (hg : X.A.guards = some []) (hu : X.A.units + 64 < cLine) : CallR X (.builtin "repr") (rReprD X.K) := by
  intro pins s σ H xs us Q I r h
  obtain ⟨x, d, rfl, hd, hs, hno, hdep, hsz, q⟩ := h
  obtain ⟨u, rfl, rx⟩ := vals1 r
  have fin : ∀ (h' : Heap) (t tk : Tok), (∀ b o, s.heap.get? b = some o → h'.get? b = some o) → EP X pins σ Q (.str d.shown t) { s with heap := h', toks := tk } := fun h' t tk hk => ⟨.str d.shown, H, I.kept hk, ⟨t, rfl⟩, q⟩
  obtain ⟨as, rd⟩ := Dp.reads I d x u hd rx
  have same : ∀ b o, s.heap.get? b = some o → s.heap.get? b = some o := fun _ _ e => e
  cases rd with
  | none => exact PySem.P.repr_of_none (fin s.heap _ _ same)
  | bool b => exact PySem.P.repr_of_bool (fin s.heap _ _ same)
  | int i t =>
    have hi : i.natAbs.log2 < 1920 := by simpa [PyData.showable] using hs
    exact PySem.P.repr_of_int hi (fin s.heap _ _ same)
  | str x t => exact PySem.P.repr_of_str (fin s.heap _ _ same) (hsz := hsz)
  | list h1 h2 h3 h4 => exact repr_of_reads' (.list h1 h2 h3 h4) hs (fun z => by rw [hno] at z; cases z) hg (by omega) same (fun h' t tk hk => fin h' t tk hk) (hsz := hsz)
  | tuple h1 h2 h3 h4 => exact repr_of_reads' (.tuple h1 h2 h3 h4) hs (fun z => by rw [hno] at z; cases z) hg (by omega) same (fun h' t tk hk => fin h' t tk hk) (hsz := hsz)
  | dict h1 h2 h3 h4 h5 => cases hno
theorem reprDK (hK : X.K = K) (hg : X.A.guards = some []) (hu : X.A.units + 64 < cLine) : CallR X (.builtin "repr") (rReprD K) := hK ▸ call_reprD hg hu
end
/-- the promise of the law's def where the claim's caller calls it -/
def LawOk (P : Program) (w : World) (K : PySem.W.Frag) (mg : Str → Option Value) (base : Heap) (f : Addr) (fd : FuncData) (ps : List Str) (sp : Sp) : Prop :=
  ∀ (s : Shared) (H : Hp) (args : Args) (us : List Value) (vs : List V) (Q : VK), Env0 P w K mg base callerA [] s H → BindsTo s fd args (ps.zip us) → Vals vs us → sp vs H Q E0 →
    codeAny (model P w) callerA (.call (.ref f) args) (CR CX0 [] P w H s Q E0) s
section
variable {P : Program} {w : World} {K : PySem.W.Frag} {mg : Str → Option Value} {base : Heap}
theorem law_ok {x qual : Str} {st : Stmt} {f : Addr} {fd : FuncData} {N ps : List Str} {k : Nat} {sp : Sp} (F : Fun K x qual st f fd) (S : FnScope N ps (defScope st)) (len : ∀ vs H Q E, sp vs H Q E → vs.length = ps.length) (hr : Room (k + 1) callerA)
    (hbody : ∀ (cdv : Value) (A : Around) (s : Shared) (H : Hp) (vs : List V) (Q : VK), A = callerA → Room k (A.deeper (envOfC qual (defScope st) s.heap.objs.size f cdv)) → sp vs H Q E0 →
      ∃ t, PSs (cxOf CX0 P w K mg base N qual (defScope st) f cdv A [] s H E0).nox (defBody st) t ∧ t { nx := fun _ H' => Q .non H', rt := Q } (start N vs) H) : LawOk P w K mg base f fd ps sp := by
  obtain ⟨oc, od, kV, doc, pm, an, cdv, ct, osl, rfl, lk, hcd⟩ := F.ex
  intro s H args us vs Q e0 hb r hsp
  have hl := len _ _ _ _ hsp
  obtain ⟨t, ht, hq⟩ := hbody cdv callerA s H vs Q rfl (hr.deeper _) hsp
  have kin : K.In s.heap := e0.mod.kin.keeps fun b o e => (e0.bs b o e).1
  have nolim : s.heap.NoLimit := e0.mod.nolimit.keeps fun b o e => (e0.bs b o e).1
  have knd : ∀ y ∈ ps.zip us, (defScope st).names.lookup y.1 = some .local ∨ ((defScope st).names.lookup y.1 = some .cell ∧ ((cellsFrom (s.heap.objs.size + 1) (defScope st).names []).lookup y.1).isSome = true) := by
    rintro ⟨n, v⟩ hy
    refine (S.par n (List.of_mem_zip hy).1).imp id fun q => ⟨q, PySem.W.cellsFrom_some _ _ _ (.inl q)⟩
  refine codeAny_call_function hr.depth (kin _ _ lk) rfl S.co S.gen rfl (PySem.W.codeRec_of kin hcd) (hb _ _ _ _ (wpAny_newFunctionEnv_cells S.kind knd fun env he s1 x => ?_))
  subst he
  refine ⟨nolim.keeps x.toInCall.keep, codeAny_func ?_⟩
  have I := inv_start (CX := CX0) (E := E0) S hr.hd e0 hl r x
  refine wpAny_mono (ht.nox.run [] s1 (start N vs) H _ I hq) (fun fl s' hs => ?_) fun e s' hs => hs
  cases fl with
  | ret u =>
    obtain ⟨v, σ', H', J, rv, q⟩ := hs
    exact ⟨v, H', J.os, J.bare, J.base, J.hok, rv, q⟩
  | next =>
    obtain ⟨σ', H', J, q⟩ := hs
    exact ⟨.non, H', J.os, J.bare, J.base, J.hok, rfl, q⟩
  | brk => exact False.elim hs.choose_spec.choose_spec.2
  | cont => exact False.elim hs.choose_spec.choose_spec.2
/-- the law's call, by such a promise: only the script is tracked, as it is -/
theorem law_callG {mb : Str → Option Value} {fa a : Addr} {fd : FuncData} {x : Str} {sp : Sp} {s₁ : Shared} {vs : List Value} {ns : List Int}
    (KX : K.In s₁.heap) (hns : s₁.heap.Ns mainGlobals mg) (hb : s₁.heap.Ns builtinsNs mb) (hbb : ∀ x : Str, x ≠ "__name__" → mb x = bootBuiltins x) (hlim : s₁.heap.NoLimit) (hg : s₁.gens = #[])
    (ha : s₁.heap.get? a = some { cls := .type "list", data := .seq vs.toArray }) (hi : IntsAre vs ns) (hl : ns.length ≤ sizeLine)
    (F : ∀ base : Heap, K.In base → base.Ns mainGlobals mg → LawOk P w K mg base fa fd [x] sp) (hbind : ∀ (s : Shared) (u : Value), BindsTo s fd ⟨[u], []⟩ [(x, u)])
    (hsp : ∀ H : Hp, SqL K H a (ns.map V.int) → sp [.ref a] H (fun v _ => v = .bl true) E0) :
    codeAny (model P w) callerA (.call (.ref fa) ⟨[.ref a], []⟩) (fun r s' => r = .ok (.ret (.bool true)) ∧ OldK s₁.heap s'.heap ∧ s'.os = s₁.os ∧ AllBare s'.gens) s₁ := by
  have rv : Vals (ns.map V.int) vs := vals_ints hi
  have hlen := hi.length
  obtain ⟨H, hS, hok, hT⟩ : ∃ H : Hp, SqL K H a (ns.map V.int) ∧ HOk P w H s₁.heap ∧ ∀ b u, H b = some u → b = a ∧ K.lookup a = none ∧ u = .frz { cls := .type "list", data := .seq vs.toArray } (.lst (ns.map V.int)) := by
    cases hk : K.lookup a with
    | some o =>
      have e := KX a o hk
      rw [ha] at e
      cases e
      exact ⟨fun _ => none, .inr ⟨_, vs.toArray, _, hk, rfl, rfl, rfl, by rw [List.size_toArray, hlen]; exact hl, by simpa using rv⟩, (fun b u z => by have z' : (none : Option HO) = some u := z; cases z'), (fun b u z => by have z' : (none : Option HO) = some u := z; cases z')⟩
    | none =>
      refine ⟨upd (fun _ => none) a (.frz { cls := .type "list", data := .seq vs.toArray } (.lst (ns.map V.int))), .inl (.inr ⟨_, upd_same⟩), fun b u z => ?_, fun b u z => ?_⟩
      · by_cases e : b = a
        · subst e
          rw [upd_same] at z
          cases z
          exact ⟨ha, by rw [List.length_map]; exact hl, vs, _, rv, ha⟩
        · rw [upd_ne e] at z
          cases z
      · by_cases e : b = a
        · subst e
          rw [upd_same] at z
          exact ⟨rfl, rfl, (Option.some.inj z).symm⟩
        · rw [upd_ne e] at z
          cases z
  have free : ∀ {b : Addr} {o : Obj} {es : Array DictEntry} {ep : Nat}, s₁.heap.get? b = some o → o.data = .dict es ep → H b = none := fun {b o es ep} e d => by
    cases q : H b with
    | none => rfl
    | some u =>
      obtain ⟨rfl, _, _⟩ := hT b u q
      rw [ha] at e
      cases e
      exact nomatch (show Data.seq vs.toArray _ = Data.dict es ep from d)
  have ns' : ∀ {b : Addr} {m : Str → Option Value}, s₁.heap.Ns b m → (hidT s₁.heap H).Ns b m := fun {b m} ⟨o, es, ep, e, d, r⟩ => ⟨o, es, ep, hidT_get e (free e d), d, r⟩
  have kin : K.In (hidT s₁.heap H) := fun b o e => hidT_get (KX b o e) (by
    cases q : H b with
    | none => rfl
    | some u =>
      obtain ⟨rfl, z, _⟩ := hT b u q
      rw [z] at e
      cases e)
  obtain ⟨mc, c1, c2⟩ := hlim
  have e0 : Env0 P w K mg (hidT s₁.heap H) callerA [] s₁ H := ⟨rfl, ⟨kin, ns' hns, ⟨mb, ns' hb, hbb⟩, ⟨mc, ns' c1, c2⟩⟩, fun b o e => of_hidT e, Nat.le_of_eq (hidT_size _ _), trivial, fun b hb => absurd hb (List.not_mem_nil), hok, .of_eq hg⟩
  refine codeAny_mono (F _ kin (ns' hns) s₁ H ⟨[.ref a], []⟩ [.ref a] [.ref a] _ e0 (hbind s₁ (.ref a)) (.cons rfl .nil) (hsp H hS)) fun r s' h => ?_
  rcases r with e | fl
  · exact h.elim
  · cases fl with
    | next => exact h.elim
    | brk => exact h.elim
    | cont => exact h.elim
    | ret u =>
      obtain ⟨v, H', os, bare, un, hok', r', rfl⟩ := h
      obtain rfl : u = Value.bool true := r'
      refine ⟨rfl, OldK.of_keep fun b o e => ?_, os, bare⟩
      cases q : H b with
      | none => exact un.keep b o e q (fun z => absurd z (List.not_mem_nil)) (List.not_mem_nil)
      | some u =>
        obtain ⟨rfl, _, rfl⟩ := hT b u q
        have z := (hok' _ _ (un.frzs _ _ _ q)).1
        rw [ha] at e
        cases e
        exact z
end
theorem walkG {l : PySem.W.OpenLaw} {n : Nat} {q : Program} {loose : List Str} {XP : (Str → Option Value) → Heap → Prop} {YP : World → Heap → Prop} {d : DefRec} {K : Params → PySem.W.Frag} {sp : World → Sp} {x : Str}
    (hn : l.most = some n) (hn2 : n ≤ sizeLine) (hdf : d.params.defaults = []) (hY : ∀ (w : World) (h : Heap), YP w h → (K w.params).In h)
    (F : ∀ (w : World) (mg : Str → Option Value) (fa : Addr) (h : Heap), (K w.params).In h → h.Ns mainGlobals mg → mg d.name = some (.ref fa) →
      ∃ fd : FuncData, (∀ (s : Shared) (u : Value), BindsTo s fd ⟨[u], []⟩ [(x, u)]) ∧ ∀ base : Heap, (K w.params).In base → base.Ns mainGlobals mg → LawOk l.prog w (K w.params) mg base fa fd [x] (sp w))
    (hsp : ∀ (w : World) (H : Hp) (a : Addr) (ns : List Int), ns.length ≤ n → SqL (K w.params) H a (ns.map V.int) → sp w [.ref a] H (fun v _ => v = .bl true) E0) :
    PySem.W.WalkO q loose XP YP l.row.toRowW d [] (fun f vs => PySem.call f vs) := by
  refine Att.attach_call hn hdf fun w s₀ s₁ mg mb fa o pm cd doc a vs ns G Y ho hd hcd hmg hobj hints hlen hg => ?_
  obtain ⟨fd, hb, hF⟩ := F w mg fa _ (hY w _ Y) G.T.g hmg
  exact law_callG (hY w _ Y) G.T.g G.T.b G.T.builtins G.T.nolimit hg hobj hints (Nat.le_trans hlen hn2) hF hb fun H hS => hsp w H a ns hlen hS
end Wn

namespace Wn
open PySem L2 PySem.Spec PyProof.Rows
/-! ### things of any kind: data with lists, and the empty dict -/
theorem SqL.sm' {K : PySem.W.Frag} {H H' : Hp} {a : Addr} {xs : List V} (h : SqL K H a xs) (e : Same H H') : SqL K H' a xs := by
  rcases h with (h | ⟨o, h⟩) | h
  · exact .inl (.inl (e _ _ h))
  · exact .inl (.inr ⟨o, e _ _ h⟩)
  · exact .inr h
mutual
theorem Dp.sm {K : PySem.W.Frag} {H H' : Hp} (e : Same H H') : ∀ {v : V} {d : PyData}, Dp K H v d → Dp K H' v d
  | _, _, .non => .non
  | _, _, .bl b => .bl b
  | _, _, .int i => .int i
  | _, _, .str x => .str x
  | _, _, .lst h1 h2 => .lst (SqL.sm' h1 e) (DpAll.sm e h2)
  | _, _, .tup h1 h2 => .tup (SqT.tk h1 (TK.of e)) (DpAll.sm e h2)
theorem DpAll.sm {K : PySem.W.Frag} {H H' : Hp} (e : Same H H') : ∀ {vs : List V} {ds : List PyData}, DpAll K H vs ds → DpAll K H' vs ds
  | _, _, .nil => .nil
  | _, _, .cons h1 h2 => .cons (Dp.sm e h1) (DpAll.sm e h2)
end
theorem DpAll.len {K : PySem.W.Frag} {H : Hp} : ∀ {vs : List V} {ds : List PyData}, DpAll K H vs ds → vs.length = ds.length
  | _, _, .nil => rfl
  | _, _, .cons _ h => by rw [List.length_cons, List.length_cons, DpAll.len h]
theorem DpAll.get {K : PySem.W.Frag} {H : Hp} : ∀ {vs : List V} {ds : List PyData}, DpAll K H vs ds → ∀ {i : Nat} {v : V}, vs[i]? = some v → ∃ d, ds[i]? = some d ∧ Dp K H v d
  | _, _, .cons h1 h2, 0, v, e => by
    have : _ = v := Option.some.inj e
    subst this
    exact ⟨_, rfl, h1⟩
  | _, _, .cons h1 h2, i + 1, v, e => DpAll.get h2 (i := i) (by simpa using e)
/-- the name of a thing's type -/
def tyN : PyData → String
  | .none => "NoneType"
  | .bool _ => "bool"
  | .int _ => "int"
  | .str _ => "str"
  | .list _ => "list"
  | .tuple _ => "tuple"
  | .dict _ => "dict"
theorem Dp.ty {K : PySem.W.Frag} {H : Hp} {v : V} {d : PyData} (h : Dp K H v d) : TyX K H v (.type (tyN d)) := by
  cases h with
  | non => exact .base .non
  | bl b => exact .base (.bl b)
  | int i => exact .base (.int i)
  | str x => exact .base (.str x)
  | lst h1 h2 =>
    rcases h1 with (h | ⟨o, h⟩) | ⟨o, its, n, h, c, _⟩
    · exact .base (.lst h)
    · exact .base (.frz h)
    · exact .kList h c
  | tup h1 h2 => exact ty_tup h1
def AnyAt (K : PySem.W.Frag) (H : Hp) (v : V) (d : PyData) : Prop := Dp K H v d ∨ (d = .dict [] ∧ ∃ a, v = .ref a ∧ H a = some (.dK []))
theorem AnyAt.sm {K : PySem.W.Frag} {H H' : Hp} {v : V} {d : PyData} (h : AnyAt K H v d) (e : Same H H') : AnyAt K H' v d := by
  rcases h with h | ⟨rfl, a, rfl, h⟩
  · exact .inl (Dp.sm e h)
  · exact .inr ⟨rfl, a, rfl, e _ _ h⟩
theorem AnyAt.ty {K : PySem.W.Frag} {H : Hp} {v : V} {d : PyData} (h : AnyAt K H v d) : TyX K H v (.type (tyN d)) := by
  rcases h with h | ⟨rfl, a, rfl, h⟩
  · exact Wn.Dp.ty h
  · exact .base (.dK h)
abbrev tyNames : List String := ["NoneType", "bool", "int", "str", "list", "tuple", "dict"]
theorem tyN_mem (d : PyData) : tyN d ∈ tyNames := by
  cases d <;> simp [tyN, tyNames]
theorem kitB_tuple : ∀ t ∈ tyNames, kitB t "tuple" = some (decide (t = "tuple")) := by decide +kernel
theorem kitB_str : ∀ t ∈ tyNames, kitB t "str" = some (decide (t = "str")) := by decide +kernel
theorem kitB_list : ∀ t ∈ tyNames, kitB t "list" = some (decide (t = "list")) := by decide +kernel
theorem kitB_int : ∀ t ∈ tyNames, kitB t "int" = some (decide (t = "int" ∨ t = "bool")) := by decide +kernel
theorem kitB_bool : ∀ t ∈ tyNames, kitB t "bool" = some (decide (t = "bool")) := by decide +kernel
theorem kit_tuple {K : PySem.W.Frag} (d : PyData) : PySem.W.kitOne K (.type (tyN d)) (.type "tuple") = some (decide (tyN d = "tuple")) := kit_ty (kitB_tuple _ (tyN_mem d))
theorem kit_str {K : PySem.W.Frag} (d : PyData) : PySem.W.kitOne K (.type (tyN d)) (.type "str") = some (decide (tyN d = "str")) := kit_ty (kitB_str _ (tyN_mem d))
theorem kit_list {K : PySem.W.Frag} (d : PyData) : PySem.W.kitOne K (.type (tyN d)) (.type "list") = some (decide (tyN d = "list")) := kit_ty (kitB_list _ (tyN_mem d))
theorem kit_int {K : PySem.W.Frag} (d : PyData) : PySem.W.kitOne K (.type (tyN d)) (.type "int") = some (decide (tyN d = "int" ∨ tyN d = "bool")) := kit_ty (kitB_int _ (tyN_mem d))
theorem kit_bool {K : PySem.W.Frag} (d : PyData) : PySem.W.kitOne K (.type (tyN d)) (.type "bool") = some (decide (tyN d = "bool")) := kit_ty (kitB_bool _ (tyN_mem d))
section
variable {X : Cx} {K : PySem.W.Frag}
def rReprA (K : PySem.W.Frag) : List V → Hp → VK → Prop := fun xs H Q => ∃ (x : V) (d : PyData), xs = [x] ∧ AnyAt K H x d ∧ d.showable = true ∧ (d = .dict [] ∨ d.hasDict = false) ∧ d.depth ≤ 60 ∧ d.shown.length ≤ sizeLine ∧ Q (.str d.shown) H
theorem call_reprA (hg : X.A.guards = some []) (hu : X.A.units + 64 < cLine) : CallR X (.builtin "repr") (rReprA X.K) := by
  intro pins s σ H xs us Q I r h
  obtain ⟨x, d, rfl, hd, hs, hno, hdep, hsz, q⟩ := h
  rcases hd with hd | ⟨rfl, a, rfl, hd⟩
  · have hno : d.hasDict = false := by
      rcases hno with rfl | h
      · cases hd
      · exact h
    exact call_reprD hg hu pins s σ H _ us Q I r ⟨x, d, rfl, hd, hs, hno, hdep, hsz, q⟩
  · obtain ⟨u, rfl, rx⟩ := vals1 r
    cases rx
    obtain ⟨z, lo, vs, rel, o, es, ep, h1, h2, h3, _, h4, _⟩ := (show ObjOk X.prog X.w H s.heap a (.dK []) from I.hok a _ hd)
    cases rel
    have e0 : es.toList = [] := by
      generalize es.toList = l at h4
      cases h4
      rfl
    refine repr_of_reads' (.dict (kvs := []) (as := []) (bs := []) h1 h2.1 h3 (by rw [e0]; exact .nil) (by rw [e0]; exact .nil)) hs (fun _ => ?_) hg (by show X.A.units + 2 < cLine; omega) (fun _ _ e => e) (fun h' t tk hk => ⟨.str _, H, I.kept hk, ⟨t, rfl⟩, q⟩) (hsz := hsz)
    simp only [List.append_nil, List.mem_singleton]
    exact fun z => (beq_eq_false_iff_ne.mp lo) z.symm
theorem reprAK (hK : X.K = K) (hg : X.A.guards = some []) (hu : X.A.units + 64 < cLine) : CallR X (.builtin "repr") (rReprA K) := hK ▸ call_reprA hg hu
end
end Wn

namespace Wn
open PySem L2
/-! ### things of any kind and depth that the law made itself: lists, tuples, dicts of texts -/
mutual
inductive Dk (K : PySem.W.Frag) (H : Hp) : V → PyData → Prop
  | non : Dk K H .non .none
  | bl (b : Bool) : Dk K H (.bl b) (.bool b)
  | int (i : Int) : Dk K H (.int i) (.int i)
  | str (x : Str) : Dk K H (.str x) (.str x)
  | lst {a : Addr} {xs : List V} {ds : List PyData} : SqL K H a xs → DkAll K H xs ds → Dk K H (.ref a) (.list ds)
  | tup {a : Addr} {xs : List V} {ds : List PyData} : SqT K H a xs → DkAll K H xs ds → Dk K H (.ref a) (.tuple ds)
  | dct {a : Addr} {kvs : List (Key × V)} {ds : List (PyData × PyData)} : H a = some (.dK kvs) → DkKV K H kvs ds → Dk K H (.ref a) (.dict ds)
inductive DkAll (K : PySem.W.Frag) (H : Hp) : List V → List PyData → Prop
  | nil : DkAll K H [] []
  | cons {v : V} {vs : List V} {d : PyData} {ds : List PyData} : Dk K H v d → DkAll K H vs ds → DkAll K H (v :: vs) (d :: ds)
inductive DkKV (K : PySem.W.Frag) (H : Hp) : List (Key × V) → List (PyData × PyData) → Prop
  | nil : DkKV K H [] []
  | cons {k : Str} {v : V} {kvs : List (Key × V)} {d : PyData} {ds : List (PyData × PyData)} : Dk K H v d → DkKV K H kvs ds → DkKV K H ((.inr k, v) :: kvs) ((.str k, d) :: ds)
end
mutual
theorem Dk.sm {K : PySem.W.Frag} {H H' : Hp} (e : Same H H') : ∀ {v : V} {d : PyData}, Dk K H v d → Dk K H' v d
  | _, _, .non => .non
  | _, _, .bl b => .bl b
  | _, _, .int i => .int i
  | _, _, .str x => .str x
  | _, _, .lst h1 h2 => .lst (SqL.sm' h1 e) (DkAll.sm e h2)
  | _, _, .tup h1 h2 => .tup (SqT.tk h1 (TK.of e)) (DkAll.sm e h2)
  | _, _, .dct h1 h2 => .dct (e _ _ h1) (DkKV.sm e h2)
theorem DkAll.sm {K : PySem.W.Frag} {H H' : Hp} (e : Same H H') : ∀ {vs : List V} {ds : List PyData}, DkAll K H vs ds → DkAll K H' vs ds
  | _, _, .nil => .nil
  | _, _, .cons h1 h2 => .cons (Dk.sm e h1) (DkAll.sm e h2)
theorem DkKV.sm {K : PySem.W.Frag} {H H' : Hp} (e : Same H H') : ∀ {vs : List (Key × V)} {ds : List (PyData × PyData)}, DkKV K H vs ds → DkKV K H' vs ds
  | _, _, .nil => .nil
  | _, _, .cons h1 h2 => .cons (Dk.sm e h1) (DkKV.sm e h2)
end
theorem DkAll.len {K : PySem.W.Frag} {H : Hp} : ∀ {vs : List V} {ds : List PyData}, DkAll K H vs ds → vs.length = ds.length
  | _, _, .nil => rfl
  | _, _, .cons _ h => by rw [List.length_cons, List.length_cons, DkAll.len h]
theorem DkAll.get {K : PySem.W.Frag} {H : Hp} : ∀ {vs : List V} {ds : List PyData}, DkAll K H vs ds → ∀ {i : Nat} {d : PyData}, ds[i]? = some d → ∃ v, vs[i]? = some v ∧ Dk K H v d
  | _, _, .cons h1 h2, 0, d, e => by
    have : _ = d := Option.some.inj e
    subst this
    exact ⟨_, rfl, h1⟩
  | _, _, .cons h1 h2, i + 1, d, e => DkAll.get h2 (i := i) (by simpa using e)
theorem DkAll.getV {K : PySem.W.Frag} {H : Hp} : ∀ {vs : List V} {ds : List PyData}, DkAll K H vs ds → ∀ {i : Nat} {v : V}, vs[i]? = some v → ∃ d, ds[i]? = some d ∧ Dk K H v d
  | _, _, .cons h1 h2, 0, d, e => by
    have : _ = d := Option.some.inj e
    subst this
    exact ⟨_, rfl, h1⟩
  | _, _, .cons h1 h2, i + 1, d, e => DkAll.getV h2 (i := i) (by simpa using e)
theorem DkAll.app {K : PySem.W.Frag} {H : Hp} : ∀ {xs : List V} {ds : List PyData}, DkAll K H xs ds → ∀ {ys : List V} {es : List PyData}, DkAll K H ys es → DkAll K H (xs ++ ys) (ds ++ es)
  | _, _, .nil, _, _, h => h
  | _, _, .cons h1 h2, _, _, h => .cons h1 (DkAll.app h2 h)
theorem DkAll.take {K : PySem.W.Frag} {H : Hp} : ∀ (k : Nat) {xs : List V} {ds : List PyData}, DkAll K H xs ds → DkAll K H (xs.take k) (ds.take k)
  | 0, _, _, _ => by rw [List.take_zero, List.take_zero]; exact .nil
  | k + 1, _, _, .nil => .nil
  | k + 1, _, _, .cons h1 h2 => .cons h1 (DkAll.take k h2)
theorem DkAll.drop {K : PySem.W.Frag} {H : Hp} : ∀ (k : Nat) {xs : List V} {ds : List PyData}, DkAll K H xs ds → DkAll K H (xs.drop k) (ds.drop k)
  | 0, _, _, h => h
  | k + 1, _, _, .nil => .nil
  | k + 1, _, _, .cons h1 h2 => DkAll.drop k h2
theorem Dk.ty {K : PySem.W.Frag} {H : Hp} {v : V} {d : PyData} (h : Dk K H v d) : TyX K H v (.type (tyN d)) := by
  cases h with
  | non => exact .base .non
  | bl b => exact .base (.bl b)
  | int i => exact .base (.int i)
  | str x => exact .base (.str x)
  | lst h1 h2 =>
    rcases h1 with (h | ⟨o, h⟩) | ⟨o, its, n, h, c, _⟩
    · exact .base (.lst h)
    · exact .base (.frz h)
    · exact .kList h c
  | tup h1 h2 => exact ty_tup h1
  | dct h1 h2 => exact .base (.dK h1)
theorem Dk.inv_tup {K : PySem.W.Frag} {H : Hp} {v : V} {ds : List PyData} (h : Dk K H v (.tuple ds)) : ∃ a xs, v = .ref a ∧ SqT K H a xs ∧ DkAll K H xs ds := by
  cases h with
  | tup h1 h2 => exact ⟨_, _, rfl, h1, h2⟩
theorem Dk.inv_lst {K : PySem.W.Frag} {H : Hp} {v : V} {ds : List PyData} (h : Dk K H v (.list ds)) : ∃ a xs, v = .ref a ∧ SqL K H a xs ∧ DkAll K H xs ds := by
  cases h with
  | lst h1 h2 => exact ⟨_, _, rfl, h1, h2⟩
theorem Dk.inv_str {K : PySem.W.Frag} {H : Hp} {v : V} {x : Str} (h : Dk K H v (.str x)) : v = .str x := by cases h; rfl
theorem Dk.inv_int {K : PySem.W.Frag} {H : Hp} {v : V} {x : Int} (h : Dk K H v (.int x)) : v = .int x := by cases h; rfl
theorem Dk.inv_none {K : PySem.W.Frag} {H : Hp} {v : V} (h : Dk K H v .none) : v = .non := by cases h; rfl
theorem Dk.inv_bool {K : PySem.W.Frag} {H : Hp} {v : V} {b : Bool} (h : Dk K H v (.bool b)) : v = .bl b := by cases h; rfl
theorem DkAll.inv_cons {K : PySem.W.Frag} {H : Hp} {vs : List V} {d : PyData} {ds : List PyData} (h : DkAll K H vs (d :: ds)) : ∃ v r, vs = v :: r ∧ Dk K H v d ∧ DkAll K H r ds := by
  cases h with
  | cons h1 h2 => exact ⟨_, _, rfl, h1, h2⟩
theorem DkAll.inv_nil {K : PySem.W.Frag} {H : Hp} {vs : List V} (h : DkAll K H vs []) : vs = [] := by cases h; rfl
end Wn

namespace Wn
open PySem L2
/-! ### a thing of a known type; whether it is a whole number -/
def isI : V → Option Int
  | .int i => some i
  | _ => none
/-- data, or a dict -/
def Th (K : PySem.W.Frag) (H : Hp) (v : V) : Prop := (∃ d, Dp K H v d) ∨ ∃ a kvs, v = .ref a ∧ H a = some (.dK kvs)
theorem Th.ty {K : PySem.W.Frag} {H : Hp} {v : V} (h : Th K H v) : ∃ t ∈ tyNames, TyX K H v (.type t) ∧ (t = "int" ↔ (isI v).isSome = true) := by
  rcases h with ⟨d, h⟩ | ⟨a, kvs, rfl, h⟩
  · refine ⟨tyN d, tyN_mem d, Wn.Dp.ty h, ?_⟩
    cases h <;> simp [tyN, isI]
  · exact ⟨"dict", by decide, .base (.dK h), by simp [isI]⟩
theorem Th.sm {K : PySem.W.Frag} {H H' : Hp} {v : V} (h : Th K H v) (s : Same H H') : Th K H' v := by
  rcases h with ⟨d, h⟩ | ⟨a, kvs, rfl, h⟩
  · exact .inl ⟨d, Wn.Dp.sm s h⟩
  · exact .inr ⟨a, kvs, rfl, s _ _ h⟩
theorem Th.dp {K : PySem.W.Frag} {H : Hp} {v : V} {d : PyData} (h : Dp K H v d) : Th K H v := .inl ⟨d, h⟩
theorem Th.any {K : PySem.W.Frag} {H : Hp} {v : V} {d : PyData} (h : AnyAt K H v d) : Th K H v := by
  rcases h with h | ⟨rfl, a, rfl, h⟩
  · exact .inl ⟨d, h⟩
  · exact .inr ⟨a, [], rfl, h⟩
theorem Th.rp {K : PySem.W.Frag} {H : Hp} {v : V} {d : PyData} (h : Rp K H d v) : Th K H v := Th.dp (Rp.dp d v h)
theorem Th.int {K : PySem.W.Frag} {H : Hp} {i : Int} : Th K H (.int i) := .inl ⟨_, .int i⟩
theorem kit_intT {K : PySem.W.Frag} {t : String} (h : t ∈ tyNames) : PySem.W.kitOne K (.type t) (.type "int") = some (decide (t = "int" ∨ t = "bool")) := kit_ty (kitB_int _ h)
theorem kit_boolT {K : PySem.W.Frag} {t : String} (h : t ∈ tyNames) : PySem.W.kitOne K (.type t) (.type "bool") = some (decide (t = "bool")) := kit_ty (kitB_bool _ h)
def fromV (v : V) (lo hi : Int) : Bool := match isI v with
  | some i => decide (lo ≤ i) && decide (i ≤ hi)
  | none => false
theorem isI_some {v : V} (h : (isI v).isSome = true) : ∃ i, v = .int i := by
  cases v <;> simp [isI] at h
  exact ⟨_, rfl⟩
def spWholeT (K : PySem.W.Frag) : Sp := fun vs H Q _ => ∃ v, vs = [v] ∧ Th K H v ∧ Q (.bl (isI v).isSome) H
def spFromT (K : PySem.W.Frag) : Sp := fun vs H Q _ => ∃ (v : V) (lo hi : Int), vs = [v, .int lo, .int hi] ∧ Th K H v ∧ Q (.bl (fromV v lo hi)) H
end Wn

set_option maxHeartbeats 800000
namespace Wn
open PySem L2
set_option pp.maxSteps 700
set_option pp.deepTerms false
local macro_rules | `(tactic| walk_at "h") => `(tactic| first | with_reducible assumption | (with_reducible exact upd_same) | (with_reducible apply g_upd; (walk_at "neq"); (walk_at "h")) | (with_reducible apply g_same; (with_reducible assumption); (walk_at "h")) | (with_reducible apply g_kp; (with_reducible assumption); (walk_at "nin"); (walk_at "h")) | (with_reducible apply g_tk; (with_reducible assumption); (walk_at "h")))
local macro_rules | `(tactic| walk_at "neq") => `(tactic| first | with_reducible assumption | (with_reducible apply Ne.symm; with_reducible assumption) | (with_reducible apply ne_upd; (with_reducible assumption)) | (with_reducible apply Ne.symm; with_reducible apply ne_upd; with_reducible assumption) | (with_reducible apply ne_fr; (with_reducible assumption); (walk_at "h")) | (with_reducible apply ne_fr'; (with_reducible assumption); (walk_at "h")) | (with_reducible apply ne_kd; (walk_at "h"); (walk_at "h"); (with_unfolding_all (intro z; cases z))))
local macro_rules | `(tactic| walk_at "nin") => `(tactic| first | (with_reducible exact nin0) | with_reducible assumption | (with_reducible apply ninc; (walk_at "neq"); (walk_at "nin")))
local macro_rules | `(tactic| walk_at "none") => `(tactic| first | with_reducible assumption | (with_reducible apply n_upd; (with_reducible assumption)) | (with_reducible apply n_same; (with_reducible assumption); (walk_at "none")) | (with_reducible apply n_kp; (with_reducible assumption); (walk_at "nin"); (walk_at "none")))
local macro_rules | `(tactic| walk_at "mem") => `(tactic| first | (with_reducible exact List.mem_cons_self) | (with_reducible apply List.mem_cons_of_mem; (walk_at "mem")))
local macro_rules | `(tactic| walk_at "am") => `(tactic| first | (with_reducible exact am0) | (with_reducible apply am1; (first | (apply Or.inl; walk_at "mem") | (apply Or.inr; walk_at "none")); (walk_at "am")))
local macro_rules | `(tactic| walk_at "tk") => `(tactic| first | (with_reducible exact TK.refl _) | with_reducible assumption | (with_reducible apply t_tk; (with_reducible assumption); (walk_at "tk")) | (with_reducible apply t_same; (with_reducible assumption); (walk_at "tk")) | (with_reducible apply t_new; (with_reducible assumption); (walk_at "tk")) | (with_reducible apply t_wr; (walk_at "h"); (with_unfolding_all rfl); (walk_at "tk")))
local macro_rules | `(tactic| walk_at "same") => `(tactic| first | (with_reducible exact L2.Same.refl _) | with_reducible assumption | (with_reducible apply s_same; (with_reducible assumption); (walk_at "same")) | (with_reducible apply s_new; (with_reducible assumption); (walk_at "same")) | (with_reducible apply s_wrn; (walk_at "none"); (walk_at "same")))
local macro_rules | `(tactic| walk_at "kp") => `(tactic| first | (with_reducible exact Kp.refl _ _) | with_reducible assumption | (with_reducible apply k_same; (with_reducible assumption); (walk_at "kp")) | (with_reducible apply k_kp; (with_reducible assumption); (walk_at "kp")) | (with_reducible apply k_kpm; (with_reducible assumption); (walk_at "am"); (walk_at "kp")) | (with_reducible apply k_new; (with_reducible assumption); (walk_at "kp")) | (with_reducible apply k_wr; (walk_at "mem"); (walk_at "kp")) | (with_reducible apply k_wrn; (walk_at "none"); (walk_at "kp")))
local macro_rules | `(tactic| walk_at "rp") => `(tactic| first | with_reducible assumption | (with_reducible exact Rp.int) | (with_reducible exact Rp.str) | (with_reducible exact Rp.none) | (with_reducible exact Rp.bool) | (with_reducible apply Rp.tk'; (with_reducible assumption); (walk_at "tk")) | (with_reducible apply Rp.tup; (walk_at "h"); (walk_at "rpl")))
local macro_rules | `(tactic| walk_at "rpl") => `(tactic| first | with_reducible assumption | (with_reducible exact RpL.nil) | (with_reducible apply RpL.tk'; (with_reducible assumption); (walk_at "tk")) | (with_reducible apply RpL.cons; (walk_at "rp"); (walk_at "rpl")))
local macro_rules | `(tactic| walk_at "g") => `(tactic| repeat (first | refine ⟨_, rfl, ?_⟩ | refine ⟨_, _, rfl, rfl, ?_⟩ | refine ⟨rfl, _, rfl, ?_⟩ | refine ⟨_, _, rfl, rfl, (by first | decide | omega), ?_⟩))
abbrev sWhole : Stmt := top 1
abbrev sFrom : Stmt := top 2
structure IB (mg : Str → Option Value) : Prop where
  isinstance : mg "isinstance" = none
  int : mg "int" = none
  bool : mg "bool" = none

section
variable {P : Program} {w : World} {K : PySem.W.Frag} {mg : Str → Option Value} {base : Heap}
theorem scWhole : FnScope ["thing"] ["thing"] (defScope sWhole) := ⟨rfl, rfl, rfl, by decide +kernel, rfl, by decide +kernel, by decide +kernel⟩
theorem ok_whole {f : Addr} {fd : FuncData} (F : Fun K "is_whole" "is_whole" sWhole f fd) (B : IB mg) : FnOk P w K mg base CX0 1 f fd ["thing"] (spWholeT K) := by
  refine F.ok scWhole (fun vs H Q E h => ?_) (fun cdv A outer s H vs Q E hr h => ?_)
  · obtain ⟨v, rfl, _⟩ := h
    rfl
  · obtain ⟨v, rfl, hth, k⟩ := h
    obtain ⟨t, ht, ty, hi⟩ := hth.ty
    refine ⟨_, (pss_one (ps_ret (pe_and (pe_callB (isiK (K := K) rfl) (by rfl) B.isinstance (by decide +kernel) (pa_cons (pv 0) (pa_cons (pe_bltn (v := .ty "int") (by rfl) B.int PyProof.Rows.boot_int rfl) pa_nil))) (pe_one (pe_not (pe_callB (isiK (K := K) rfl) (by rfl) B.isinstance (by decide +kernel) (pa_cons (pv 0) (pa_cons (pe_bltn (v := .ty "bool") (by rfl) B.bool PyProof.Rows.boot_bool rfl) pa_nil)))))))), ?_⟩
    have e : decide (t = "int") = (isI v).isSome := by
      rw [Bool.eq_iff_iff, decide_eq_true_eq]
      exact hi
    rw [← e] at k
    refine ⟨_, rfl, _, _, _, _, _, rfl, .ty _, ty, kit_intT ht, _, rfl, iteP (fun c => ?_) (fun c => ?_)⟩
    · refine ⟨_, rfl, _, _, _, _, _, rfl, .ty _, ty, kit_boolT ht, _, rfl, ?_⟩
      have e2 : (!decide (t = "bool")) = decide (t = "int") := by
        rcases c with rfl | rfl <;> rfl
      rw [e2]
      exact k
    · rw [decide_eq_false (fun z => c (.inl z))] at k
      exact k
theorem scFrom : FnScope ["thing", "low", "high"] ["thing", "low", "high"] (defScope sFrom) := ⟨rfl, rfl, rfl, by decide +kernel, rfl, by decide +kernel, by decide +kernel⟩
theorem ok_from {f : Addr} {fd : FuncData} (F : Fun K "is_from" "is_from" sFrom f fd) (cW : Cd P w K mg base 1 "is_whole" ["thing"] (spWholeT K)) : FnOk P w K mg base CX0 2 f fd ["thing", "low", "high"] (spFromT K) := by
  obtain ⟨fW, fdW, GW, mW, kW, bW⟩ := cW
  refine F.ok scFrom (fun vs H Q E h => ?_) (fun cdv A outer s H vs Q E hr h => ?_)
  · obtain ⟨v, lo, hi, rfl, _⟩ := h
    rfl
  · obtain ⟨v, lo, hi, rfl, ht, k⟩ := h
    have hr1 : Room 1 _ := hr
    refine ⟨_, (pss_one (ps_ret (pe_and (pe_call GW hr1 rfl mW kW bW .nil pass0 (pa_cons (pv 0) pa_nil)) (pe_one (pe_chain op_le op_le (pv 1) (pv 0) (pv 2)))))), ?_⟩
    refine ⟨_, rfl, v, rfl, ht, _, rfl, iteB (fun c => ?_) (fun c => ?_)⟩
    · obtain ⟨i, rfl⟩ := isI_some c
      have k : Q (.bl (decide (lo ≤ i) && decide (i ≤ hi))) H := k
      refine ⟨_, rfl, _, rfl, _, _, rfl, rfl, _, rfl, iteP (fun c1 => ?_) (fun c1 => ?_)⟩
      · rw [decide_eq_true c1, Bool.true_and] at k
        exact ⟨_, rfl, _, _, rfl, rfl, k⟩
      · rw [decide_eq_false c1, Bool.false_and] at k
        exact k
    · have e : fromV v lo hi = false := by
        cases v <;> first | rfl | cases c
      rw [e] at k
      exact k
end
end Wn

set_option maxHeartbeats 800000
namespace Wn
open PySem L2
set_option pp.maxSteps 700
set_option pp.deepTerms false
local macro_rules | `(tactic| walk_at "h") => `(tactic| first | with_reducible assumption | (with_reducible exact upd_same) | (with_reducible apply g_upd; (walk_at "neq"); (walk_at "h")) | (with_reducible apply g_same; (with_reducible assumption); (walk_at "h")) | (with_reducible apply g_kp; (with_reducible assumption); (walk_at "nin"); (walk_at "h")) | (with_reducible apply g_tk; (with_reducible assumption); (walk_at "h")))
local macro_rules | `(tactic| walk_at "neq") => `(tactic| first | with_reducible assumption | (with_reducible apply Ne.symm; with_reducible assumption) | (with_reducible apply ne_upd; (with_reducible assumption)) | (with_reducible apply Ne.symm; with_reducible apply ne_upd; with_reducible assumption) | (with_reducible apply ne_fr; (with_reducible assumption); (walk_at "h")) | (with_reducible apply ne_fr'; (with_reducible assumption); (walk_at "h")) | (with_reducible apply ne_kd; (walk_at "h"); (walk_at "h"); (with_unfolding_all (intro z; cases z))))
local macro_rules | `(tactic| walk_at "nin") => `(tactic| first | (with_reducible exact nin0) | with_reducible assumption | (with_reducible apply ninc; (walk_at "neq"); (walk_at "nin")))
local macro_rules | `(tactic| walk_at "none") => `(tactic| first | with_reducible assumption | (with_reducible apply n_upd; (with_reducible assumption)) | (with_reducible apply n_same; (with_reducible assumption); (walk_at "none")) | (with_reducible apply n_kp; (with_reducible assumption); (walk_at "nin"); (walk_at "none")))
local macro_rules | `(tactic| walk_at "mem") => `(tactic| first | (with_reducible exact List.mem_cons_self) | (with_reducible apply List.mem_cons_of_mem; (walk_at "mem")))
local macro_rules | `(tactic| walk_at "am") => `(tactic| first | (with_reducible exact am0) | (with_reducible apply am1; (first | (apply Or.inl; walk_at "mem") | (apply Or.inr; walk_at "none")); (walk_at "am")))
local macro_rules | `(tactic| walk_at "tk") => `(tactic| first | (with_reducible exact TK.refl _) | with_reducible assumption | (with_reducible apply t_tk; (with_reducible assumption); (walk_at "tk")) | (with_reducible apply t_same; (with_reducible assumption); (walk_at "tk")) | (with_reducible apply t_new; (with_reducible assumption); (walk_at "tk")) | (with_reducible apply t_wr; (walk_at "h"); (with_unfolding_all rfl); (walk_at "tk")))
local macro_rules | `(tactic| walk_at "same") => `(tactic| first | (with_reducible exact L2.Same.refl _) | with_reducible assumption | (with_reducible apply s_same; (with_reducible assumption); (walk_at "same")) | (with_reducible apply s_new; (with_reducible assumption); (walk_at "same")) | (with_reducible apply s_wrn; (walk_at "none"); (walk_at "same")))
local macro_rules | `(tactic| walk_at "kp") => `(tactic| first | (with_reducible exact Kp.refl _ _) | with_reducible assumption | (with_reducible apply k_same; (with_reducible assumption); (walk_at "kp")) | (with_reducible apply k_kp; (with_reducible assumption); (walk_at "kp")) | (with_reducible apply k_kpm; (with_reducible assumption); (walk_at "am"); (walk_at "kp")) | (with_reducible apply k_new; (with_reducible assumption); (walk_at "kp")) | (with_reducible apply k_wr; (walk_at "mem"); (walk_at "kp")) | (with_reducible apply k_wrn; (walk_at "none"); (walk_at "kp")))
local macro_rules | `(tactic| walk_at "rp") => `(tactic| first | with_reducible assumption | (with_reducible exact Rp.int) | (with_reducible exact Rp.str) | (with_reducible exact Rp.none) | (with_reducible exact Rp.bool) | (with_reducible apply Rp.tk'; (with_reducible assumption); (walk_at "tk")) | (with_reducible apply Rp.tup; (walk_at "h"); (walk_at "rpl")))
local macro_rules | `(tactic| walk_at "rpl") => `(tactic| first | with_reducible assumption | (with_reducible exact RpL.nil) | (with_reducible apply RpL.tk'; (with_reducible assumption); (walk_at "tk")) | (with_reducible apply RpL.cons; (walk_at "rp"); (walk_at "rpl")))
local macro_rules | `(tactic| walk_at "g") => `(tactic| repeat (first | refine ⟨_, rfl, ?_⟩ | refine ⟨_, _, rfl, rfl, ?_⟩ | refine ⟨rfl, _, rfl, ?_⟩ | refine ⟨_, _, rfl, rfl, (by first | decide | omega), ?_⟩))
def isIntD : PyData → Option Int
  | .int i => some i
  | _ => none
def fromD (d : PyData) (lo hi : Int) : Bool := match isIntD d with
  | some i => decide (lo ≤ i) && decide (i ≤ hi)
  | none => false
theorem isIntD_some {d : PyData} (h : (isIntD d).isSome = true) : ∃ i, d = .int i := by
  cases d <;> simp [isIntD] at h
  exact ⟨_, rfl⟩
theorem isIntD_ty (d : PyData) : (isIntD d).isSome = decide (tyN d = "int") := by
  cases d <;> rfl
def spWholeK (K : PySem.W.Frag) : Sp := fun vs H Q _ => ∃ v d, vs = [v] ∧ Dk K H v d ∧ Q (.bl (isIntD d).isSome) H
def spFromK (K : PySem.W.Frag) : Sp := fun vs H Q _ => ∃ (v : V) (d : PyData) (lo hi : Int), vs = [v, .int lo, .int hi] ∧ Dk K H v d ∧ Q (.bl (fromD d lo hi)) H

section
variable {P : Program} {w : World} {K : PySem.W.Frag} {mg : Str → Option Value} {base : Heap}
theorem scWholeK : FnScope ["thing"] ["thing"] (defScope sWhole) := ⟨rfl, rfl, rfl, by decide +kernel, rfl, by decide +kernel, by decide +kernel⟩
theorem ok_wholeK {f : Addr} {fd : FuncData} (F : Fun K "is_whole" "is_whole" sWhole f fd) (B : IB mg) : FnOk P w K mg base CX0 1 f fd ["thing"] (spWholeK K) := by
  refine F.ok scWholeK (fun vs H Q E h => ?_) (fun cdv A outer s H vs Q E hr h => ?_)
  · obtain ⟨v, d, rfl, _⟩ := h
    rfl
  · obtain ⟨v, d, rfl, hd, k⟩ := h
    refine ⟨_, (pss_one (ps_ret (pe_and (pe_callB (isiK (K := K) rfl) (by rfl) B.isinstance (by decide +kernel) (pa_cons (pv 0) (pa_cons (pe_bltn (v := .ty "int") (by rfl) B.int PyProof.Rows.boot_int rfl) pa_nil))) (pe_one (pe_not (pe_callB (isiK (K := K) rfl) (by rfl) B.isinstance (by decide +kernel) (pa_cons (pv 0) (pa_cons (pe_bltn (v := .ty "bool") (by rfl) B.bool PyProof.Rows.boot_bool rfl) pa_nil)))))))), ?_⟩
    rw [isIntD_ty] at k
    refine ⟨_, rfl, _, _, _, _, _, rfl, .ty _, hd.ty, kit_int d, _, rfl, iteP (fun c => ?_) (fun c => ?_)⟩
    · refine ⟨_, rfl, _, _, _, _, _, rfl, .ty _, hd.ty, kit_bool d, _, rfl, ?_⟩
      have e2 : (!decide (tyN d = "bool")) = decide (tyN d = "int") := by
        rcases c with c | c <;> rw [c] <;> rfl
      rw [e2]
      exact k
    · rw [decide_eq_false (fun z => c (.inl z))] at k
      exact k
theorem scFromK : FnScope ["thing", "low", "high"] ["thing", "low", "high"] (defScope sFrom) := ⟨rfl, rfl, rfl, by decide +kernel, rfl, by decide +kernel, by decide +kernel⟩
theorem ok_fromK {f : Addr} {fd : FuncData} (F : Fun K "is_from" "is_from" sFrom f fd) (cW : Cd P w K mg base 1 "is_whole" ["thing"] (spWholeK K)) : FnOk P w K mg base CX0 2 f fd ["thing", "low", "high"] (spFromK K) := by
  obtain ⟨fW, fdW, GW, mW, kW, bW⟩ := cW
  refine F.ok scFromK (fun vs H Q E h => ?_) (fun cdv A outer s H vs Q E hr h => ?_)
  · obtain ⟨v, d, lo, hi, rfl, _⟩ := h
    rfl
  · obtain ⟨v, d, lo, hi, rfl, hd, k⟩ := h
    have hr1 : Room 1 _ := hr
    refine ⟨_, (pss_one (ps_ret (pe_and (pe_call GW hr1 rfl mW kW bW .nil pass0 (pa_cons (pv 0) pa_nil)) (pe_one (pe_chain op_le op_le (pv 1) (pv 0) (pv 2)))))), ?_⟩
    refine ⟨_, rfl, v, d, rfl, hd, _, rfl, iteB (fun c => ?_) (fun c => ?_)⟩
    · obtain ⟨i, rfl⟩ := isIntD_some c
      have := hd.inv_int
      subst this
      have k : Q (.bl (decide (lo ≤ i) && decide (i ≤ hi))) H := k
      refine ⟨_, rfl, _, rfl, _, _, rfl, rfl, _, rfl, iteP (fun c1 => ?_) (fun c1 => ?_)⟩
      · rw [decide_eq_true c1, Bool.true_and] at k
        exact ⟨_, rfl, _, _, rfl, rfl, k⟩
      · rw [decide_eq_false c1, Bool.false_and] at k
        exact k
    · have e : fromD d lo hi = false := by
        unfold fromD
        cases hi' : isIntD d with
        | none => rfl
        | some i => rw [hi'] at c; cases c
      rw [e] at k
      exact k
end
end Wn

namespace Wn
open PySem PySem.Spec PyProof.Rows L2
/-! isinstance of a caught error, with or without a dict of its own -/
section
open PySem.W
variable {prog : Program} {w : World} {A : Around} {E : Value → Shared → Prop} {s : Shared} {K : Frag} {x D : Addr} {ox : Obj} {od : Option Obj}
theorem findObj_dataO {C : Addr} {name : Str} {a g : Value} (hc : (clsIn K C).isSome = true) (ha : findIn K (.ref C) name = some (some a)) (hg : specialIn K a "__get__" = some (some g)) (ht : takesIn K a = some true) : findObj K C od name = some (.bind g a) := by
  obtain ⟨cd, hc⟩ := Option.isSome_iff_exists.mp hc
  unfold findObj
  rw [hc, Option.bind_some, ha, Option.bind_some]
  simp [hg, ht]
theorem kin_classO {Q : Option Value → Shared → Prop} (T : ExcC K D) (X : K.In s.heap) (I : InstAt s.heap x ox D od) (h : Q (some (.ref D)) { s with toks := s.toks + 1 }) : wpAny (model prog w) A (getAttr? (.ref x) "__class__") Q E s := by
  have hf : findObj K D od "__class__" = some (.bind (.builtin "getset_descriptor.__get__") (.builtin "object.__class__")) := findObj_dataO (by obtain ⟨cd, hc, _⟩ := any_some T.hd; rw [hc]; rfl) T.ha T.hn T.ht
  obtain ⟨hp, g, d, t, os⟩ := s
  have L0 := I.type (M := model prog w)
  have L1 := looks_findIn (M := model prog w) X T.hg
  have L2 := looks_findIn (M := model prog w) X T.hk
  have L3 := looks_find (M := model prog w) X I hf
  have sub : Looks (model prog w) hp (isInstance (.ref x) (.type "BaseException")) true := L0.andThen (looks_subIn X T.hs)
  have hx0 : (false && onTheHeap (Value.builtin "BaseException.__getattribute__")) = false := rfl
  have hx2 : (Value.builtin "BaseException.__getattribute__" == Value.builtin "object.__getattribute__") = false := by decide +kernel
  have hx1 : (onTheHeap (Value.ref D) && Value.builtin "BaseException.__getattribute__" == Value.builtin "object.__getattribute__") = false := by rw [hx2]; rfl
  unfold getAttr? getAttrBy? getAttrBy
  refine wpAny_bind (wpAny_mkText (wpAny_bind (wpAny_attempt (wpAny_holding (wpAny_bind (L0.at (wpAny_bind (L1.at ?_))))))))
  show wpAny _ _ (if (onTheHeap (Value.ref D) && Value.builtin "BaseException.__getattribute__" == Value.builtin "object.__getattribute__") = true then _ else _) _ _ _
  rw [hx1, if_neg Bool.false_ne_true]
  unfold getAttrByItsOwn hookBefore
  refine wpAny_bind ?_
  rw [if_pos (show onTheHeap (Value.ref D) = true from rfl)]
  refine L2.at ?_
  refine wpAny_bind (wpAny_attempt (wpAny_holding ?_))
  unfold callGetattribute
  rw [hx0, if_neg Bool.false_ne_true]
  unfold boundAndCalled
  rw [PySem.F.excAttr_ValueError.ga.bind (.ref x)]
  refine wpAny_bind (wpAny_pure ?_)
  show wpAny _ _ (call (.builtin "BaseException.__getattribute__") [.ref x, .str "__class__" t]) _ _ _
  refine wpAny_call (codeAny_call_builtin PySem.F.excAttr_ValueError.ga.plain PySem.F.entry_bexc_ga ?_)
  refine @check_slot (model prog w) _ _ ⟨hp, g, d, t + 1, os⟩ "BaseException.__getattribute__" "BaseException" "__getattribute__" (.ref x) [.str "__class__" t] [] _ (by decide +kernel) (by decide +kernel) sub (PySem.F.args_bexc_ga (.ref x) (.str "__class__" t)) ?_
  unfold Builtin.«object.__getattribute__»
  refine wpAny_bind (wpAny_of_eq (a := ((Value.ref x : Value), [Value.str "__class__" t])) (by first | rfl | (simp only [slotArgs]; rfl)) ?_)
  refine wpAny_bind (wpAny_pure (wpAny_bind (L0.at (wpAny_bind (L3.at ?_)))))
  show wpAny _ _ (holding [Value.builtin "object.__class__"] (call (.builtin "getset_descriptor.__get__") [.builtin "object.__class__", .ref x, .ref D]) >>= ret) _ _ _
  refine wpAny_bind (wpAny_holding (wpAny_call (class_get (s := ⟨hp, g, d, t + 1, os⟩) (ox := ox) (od := od) X I T.hm ?_)))
  refine wpAny_pure ?_
  show wpAny _ _ (handedOut (.ref D)) _ _ _
  rw [handedOut_of (v := .ref D) rfl]
  first
    | exact wpAny_pure (wpAny_pure h)
    | exact wpAny_pure h
    | exact wpAny_pure (wpAny_bind (wpAny_pure (wpAny_pure h)))
theorem kitx_excO (T : ExcC K D) : KitX K (.ref x) (.ref D) (fun h => InstAt h x ox D od) where
  ty := fun _ _ _ I => I.type
  it := fun _ _ X _ => by
    obtain ⟨cdD, hcD, _⟩ := any_some T.hd
    unfold clsIn at hcD
    split at hcD
    · rename_i c' d' cd' sl' ho
      intro A' Q' E' s' k q
      unfold isType loadHead
      exact wpAny_bind (wpAny_loadPart (k _ _ (X _ _ ho)) (wpAny_pure q))
    · cases hcD
  ne := fun h tp dd its n sl X htp => by
    obtain ⟨cdD, hcD, _⟩ := any_some T.hd
    refine Bool.eq_false_iff.mpr fun q => ?_
    have e : D = tp := Value.ref.inj (beq_iff_eq.mp q)
    subst e
    unfold clsIn at hcD
    split at hcD
    · rename_i c' d' cd' sl' ho
      have z := (X _ _ ho).symm.trans htp
      cases z
    · cases hcD
  ca := fun X I k => kin_classO T X I k
end
/-- the dict of a caught error: none, or one that stands -/
def XdAt (H : Hp) (d : Option Addr) : Prop := d = none ∨ ∃ (dd : Addr) (fs : List (Str × V)), d = some dd ∧ H dd = some (.xd fs)
/-- isinstance(e, c) or isinstance(e, (c, ..)), e the exception that the suite holds at a -/
def rIsX (K : PySem.W.Frag) (a : Addr) (cls : Value) (d : Option Addr) : List V → Hp → VK → Prop := fun xs H Q => ∃ D : Addr, cls = .ref D ∧ ExcC K D ∧ XdAt H d ∧
  ((∃ (c : V) (cv : Value) (b : Bool), xs = [.ref a, c] ∧ ClsV c cv ∧ PySem.W.kitOne K (.ref D) cv = some b ∧ Q (.bl b) H) ∨
   (∃ (tp : Addr) (cs : List V) (us : List Value) (b : Bool), xs = [.ref a, .ref tp] ∧ H tp = some (.tup cs) ∧ Paired ClsV cs us ∧ PySem.W.kitAny K (.ref D) us = some b ∧ Q (.bl b) H))
theorem call_isX {X : Cx} {a : Addr} {cls : Value} {d : Option Addr} {oe : Obj} {pn : List (Addr × Obj)} (hz : Zc cls d oe) (hf : ∃ vs, oe.data = .fields vs) : CallR (X.suite a ((a, oe) :: pn)) (.builtin "isinstance") (rIsX X.K a cls d) := by
  intro pins s σ H xs us Q I r h
  obtain ⟨D, rfl, C, hd, h⟩ := h
  obtain ⟨hget, _⟩ := I.pin (a, oe) (List.mem_append.mpr (.inl List.mem_cons_self))
  obtain ⟨vs, hv⟩ := hf
  have J : ∃ od, PySem.W.InstAt s.heap a oe D od := by
    obtain ⟨oc, oD, oda, osl⟩ := oe
    obtain ⟨h1, h2⟩ := hz
    dsimp only at h1 h2 hv
    subst h1 h2 hv
    rcases hd with rfl | ⟨dd, fs, rfl, ed⟩
    · exact ⟨none, hget, rfl, rfl, trivial⟩
    · have hx : ObjOk X.prog X.w H s.heap dd (.xd fs) := I.hok dd _ ed
      obtain ⟨mA, hns, hr⟩ := hx
      obtain ⟨od, ho, hl⟩ := lookIn_ns hns
      exact ⟨some od, hget, rfl, rfl, ho⟩
  obtain ⟨od, J⟩ := J
  rcases h with ⟨c, cv, b, rfl, hcv, e, q⟩ | ⟨tp, cs, ws, b, rfl, hT, k, e, q⟩
  · obtain ⟨u1, u2, rfl, r1, r2⟩ := vals2 r
    cases (show u1 = Value.ref a from r1)
    have ec := hcv.eq r2
    subst ec
    exact PySem.W.kia_one (kitx_excO C) I.kIn J e (fun z => nomatch z) fun tk => ⟨.bl b, H, I.tok tk, rfl, q⟩
  · obtain ⟨u1, u2, rfl, r1, r2⟩ := vals2 r
    cases (show u1 = Value.ref a from r1)
    cases (show u2 = Value.ref tp from r2)
    obtain ⟨_, its, rv, o, h1, h2, n, h3⟩ := (show ObjOk X.prog X.w H s.heap tp (.tup cs) from I.hok tp _ hT)
    have e3 := ClsV.all k rv
    subst e3
    obtain ⟨oc, od', dt, sl⟩ := o
    simp only at h2 h3
    subst h2 h3
    exact PySem.W.kia_tup (kitx_excO C) I.kIn J h1 e (fun z => nomatch z) fun tk => ⟨.bl b, H, I.tok tk, rfl, q⟩
/-! the promises of the errors' makers -/
/-- C.__init__(self, v): one field -/
def spX1 (C : Addr) (f : Str) : Sp := fun vs H Q _ => ∃ (a : Addr) (v : V), vs = [.ref a, v] ∧ H a = some (exo a C none) ∧ ∀ dx, H dx = none → dx ≠ a → Q .non (upd (upd H dx (exd dx [(f, v)])) a (exo a C (some dx)))
/-- two fields -/
def spX2 (C : Addr) (f g : Str) : Sp := fun vs H Q _ => ∃ (a : Addr) (v u : V), vs = [.ref a, v, u] ∧ H a = some (exo a C none) ∧ ∀ dx, H dx = none → dx ≠ a → Q .non (upd (upd H dx (exd dx [(g, u), (f, v)])) a (exo a C (some dx)))
/-- none -/
def spX0 (C : Addr) : Sp := fun vs H Q _ => ∃ (a : Addr), vs = [.ref a] ∧ H a = some (exo a C none) ∧ Q .non H
theorem upd_del {H : Hp} {a dx : Addr} {o1 o2 o3 o4 : HO} (ha : H a = none) (hd : dx ≠ a) : upd (del (upd (upd (upd H a o1) dx o2) a o3) a) dx o4 = upd H dx o4 := by
  funext b
  by_cases h : b = dx
  · rw [h, upd_same, upd_same]
  · rw [upd_ne h, upd_ne h]
    by_cases g : b = a
    · rw [g, del_same, ha]
    · rw [del_ne g, upd_ne g, upd_ne h, upd_ne g]
theorem del_upd {H : Hp} {a : Addr} {o : HO} (ha : H a = none) : del (upd H a o) a = H := by
  funext b
  by_cases g : b = a
  · rw [g, del_same, ha]
  · rw [del_ne g, upd_ne g]
/-- the end of C(): the exception is let go; it has no dict -/
theorem mk_endN {X : Cx} {pins : List (Addr × Obj)} {σ : L2.St} {H1 H2 : Hp} {Q : XK} {hp hp2 h2 : Heap} {g1 g2 : Array GenState} {d1 d2 : Drawn} {t1 t2 : Nat} {os1 os2 : OsState} {a C : Addr} (T : Raises X (.ref C)) (I1 : Inv X pins σ H1 ⟨hp, g1, d1, t1, os1⟩)
    (ha : hp.objs.size ≤ a) (k : ∀ b o, hp.get? b = some o → hp2.get? b = some o) (un : Un (frs X.stack) [] (upd H1 a (exo a C none)) H2 hp2 h2) (hok : HOk X.prog X.w H2 h2) (ho : os2 = os1) (hb : AllBare g2)
    (ea : H2 a = some (exo a C none)) (q : Q (.ref C) none (del H2 a)) : MkP X pins σ Q (.ref a) ⟨h2, g2, d2, t2, os2⟩ := by
  obtain ⟨t0, hoe⟩ := exo_at hok ea
  have hn : H1 a = none := I1.hok.fresh ha
  obtain ⟨G, g1', g2'⟩ := restrict h2 fun b => decide (b ≠ a)
  have gk : ∀ b, b ≠ a → G.get? b = h2.get? b := fun b hb => g1' b (decide_eq_true hb)
  have ge : G.get? a = none := g2' a (by simp)
  have nha : ∀ {b : Addr} {o : Obj}, hp.get? b = some o → b ≠ a := fun {b o} z => Nat.ne_of_lt (Nat.lt_of_lt_of_le (Heap.lt_size z) ha)
  have up : ∀ {b : Addr}, b ≠ a → H1 b = none → upd H1 a (exo a C none) b = none := fun {b} hb n => by rw [upd_ne hb]; exact n
  have U : Un (frs X.stack) [] H1 (del H2 a) hp G := {
    keep := fun b o z n hf hx => by
      rw [gk b (nha z)]
      exact un.keep b o (k b o z) (up (nha z) n) hf hx
    slot := fun b o z n hf hx => by
      rw [gk b (nha z)]
      exact un.slot b o (k b o z) (up (nha z) n) hf hx
    free := fun b o z n hx => by
      rw [del_ne (nha z)]
      exact un.free b o (k b o z) (up (nha z) n) hx
    there := fun b o z hx => by
      rw [gk b (nha z)]
      exact un.there b o (k b o z) hx
    tups := fun b xs z => by
      rw [del_ne (ne_of_none z hn)]
      exact un.tups b xs (by rw [upd_ne (ne_of_none z hn)]; exact z)
    frzs := fun b o v z => by
      rw [del_ne (ne_of_none z hn)]
      exact un.frzs b o v (by rw [upd_ne (ne_of_none z hn)]; exact z)
    tbls := fun b ps z => by
      rw [del_ne (ne_of_none z hn)]
      exact un.tbls b ps (by rw [upd_ne (ne_of_none z hn)]; exact z) }
  have hok3 : HOk X.prog X.w (del H2 a) G := fun b o z => by
    have hba : b ≠ a := fun e => by
      rw [e, del_same] at z
      cases z
    rw [del_ne hba] at z
    have noa : ∀ {c : Addr}, H2 c = some (.own b) → c ≠ a := fun {c} hc => at_ne ea hc exo_own
    exact (hok b o z).stay (fun c v hc y => by
        have hca : c ≠ a := by
          rcases hc with hc | hc
          · rw [hc]
            exact hba
          · exact noa hc
        rw [gk c hca]
        exact y)
      (fun c hc => by rw [del_ne (noa hc)]; exact hc) (fun c xs hc => by rw [del_ne (at_ne ea hc exo_tup)]; exact hc)
  have J : Inv X pins σ (del H2 a) ⟨G, g2, d2, t2, os2⟩ := I1.call' (ch := []) ho U hok3 hb (fun b z => absurd z (by simp))
  refine ⟨a, _, _, ⟨G, g2, d2, t2, os2⟩, _, .ref C, none, rfl, J, fun b o z => ?_, ge, hoe, ⟨rfl, rfl⟩, rfl, rfl, del_same, rfl, hb, T, q⟩
  by_cases hba : b = a
  · rw [hba] at z
    rw [show G.get? a = none from ge] at z
    cases z
  · exact (gk b hba).symm.trans z
/-- C(), C's own __init__ keeping sp -/
def tMkN (C : Addr) (sp : Sp)   : L2.St → Hp → XK → Prop := fun σ H Q => ∀ a, H a = none → sp [.ref a] (upd H a (exo a C none)) (fun v H2 => v = .non ∧ H2 a = some (exo a C none) ∧ Q (.ref C) none (del H2 a)) (fun _ _ _ => False)
section
variable {X : Cx} {p pos : Pos}
theorem pmk_oexN {CX : CXT} {x : Str} {C fI : Addr} {k : Nat} {fd : FuncData} {ps : List Str} {sp : Sp} (T : OexC X.K C) (iC : PySem.W.findIn X.K (.ref C) "__init__" = some (some (.ref fI))) (tI : PySem.W.typeIn X.K (.ref fI) = some (.type "function"))
    (F1 : FnOk X.prog X.w X.K X.mg X.base CX k fI fd ps sp) (hr : Room (k + 1) X.A) (hb : Binds X.K fd ps []) (hx : Passes CX X (fun _ _ _ => False)) (hg : Gl X x) (hm : X.mg x = some (.ref C))
    (hdb : (x == ("__debug__" : Str)) = false := by decide) :
    PMk X (.Call (.Name x p) [] [] pos) (tMkN C sp) := by
  intro pins s σ H1 Q I1 q1
  obtain ⟨nm, q, N, bs, bm, sn, sub, ab, col, dd, k0, k1, k2, k3, k5, hC, hbm⟩ := T.cls
  refine wpAny_Call_Name_kw (ld_glob I1 hg hm ?_ hdb)
  refine PySem.W.callWith_K0 I1.kIn T.kC ?_
  show wpAny _ _ (call (.ref C) []) _ _ _
  obtain ⟨hp, g, dr, tk, os⟩ := s
  have hsz : hp.objs.size ≤ hp.objs.size + 1 := Nat.le_succ _
  have hn : H1 (hp.objs.size + 1) = none := I1.hok.fresh hsz
  have hq : sp _ _ _ _ := q1 (hp.objs.size + 1) hn
  have kk : ∀ b o, hp.get? b = some o → ((hp.push (PySem.W.kdv_tup [])).push (PySem.HandSPX.excO C hp.objs.size)).get? b = some o := fun b o e => Heap.get?_push_of_some _ (Heap.get?_push_of_some _ e)
  have hget : ((hp.push (PySem.W.kdv_tup [])).push (PySem.HandSPX.excO C hp.objs.size)).get? (hp.objs.size + 1) = some (PySem.HandSPX.excO C hp.objs.size) := by heap_get
  have I2 : Inv X pins σ (upd H1 (hp.objs.size + 1) (exo (hp.objs.size + 1) C none)) ⟨(hp.push (PySem.W.kdv_tup [])).push (PySem.HandSPX.excO C hp.objs.size), g, dr, tk, os⟩ :=
    I1.laid (t' := tk) (a := hp.objs.size + 1) (o := exo (hp.objs.size + 1) C none) (h' := (hp.push (PySem.W.kdv_tup [])).push (PySem.HandSPX.excO C hp.objs.size)) kk hsz (exo_ok hget)
  have r2 : Vals [V.ref (hp.objs.size + 1)] [Value.ref (hp.objs.size + 1)] := .cons rfl .nil
  have hl : ([Value.ref (hp.objs.size + 1)] ++ []).length = ps.length := by
    have e := F1.len _ _ _ _ hq
    exact e
  refine wpAny_call (PySem.HandSPX.call_own F.excBase_ValueError (fun Y => PySem.HandSPX.refsVE_contains Y bm hbm) (I1.kIn _ _ hC) (PySem.W.looks_findIn I1.kIn iC) (fun self => PySem.W.bind_fn I1.kIn self tI) (Nat.zero_le _)
    (codeAny_mono (F1.run _ X.stack _ _ ⟨[Value.ref (hp.objs.size + 1)], []⟩ [Value.ref (hp.objs.size + 1)] _ _ (fun _ _ _ => False) (hr.make C [] []) (I2.env0.make C [] []) (by have b := hb _ [Value.ref (hp.objs.size + 1)] I2.kIn hl; exact b) r2 hq) fun r s' hq' => ?_))
  cases r with
  | error er => exact hx pins σ _ _ er s' I2 hq'
  | ok fl =>
    cases fl with
    | ret u =>
      obtain ⟨v, H2, os2, bare2, un2, hok2, rv, ev, ea, q2⟩ := hq'
      subst ev
      obtain ⟨h2, g2, d2, t2, os'⟩ := s'
      exact ⟨rv, mk_endN (raises_own T.exC T.tyC) I1 hsz kk un2 hok2 os2 bare2 ea q2⟩
    | next => exact False.elim hq'
    | brk => exact False.elim hq'
    | cont => exact False.elim hq'
theorem PMk.imp {X : Cx} {e : Expr} {t t'   : L2.St → Hp → XK → Prop} (h : PMk X e t) (i : ∀ σ H Q, t' σ H Q → t σ H Q) : PMk X e t' := fun pins s σ H Q I q => h pins s σ H Q I (i _ _ _ q)
/-- the class over all of them: NetError at N, over ValueError, without an __init__ of its own -/
structure NetE (K : PySem.W.Frag) (mg : Str → Option Value) (N : Addr) : Prop where
  g : mg "NetError" = some (.ref N)
  sp : PySem.W.specialIn K (.ref N) "__getattribute__" = some (some (.builtin "type.__getattribute__"))
  rd : PySem.W.readsIn K N (.type "type") = true
  v : PySem.W.findCls K (.ref N) (.type "type") "__init__" = some (.val (.builtin "ValueError.__init__"))
theorem upd_upd {H : Hp} {a : Addr} {o u : HO} : upd (upd H a o) a u = upd H a u := by
  funext b
  by_cases g : b = a
  · rw [g, upd_same, upd_same]
  · rw [upd_ne g, upd_ne g, upd_ne g]
theorem upd_swap {H : Hp} {a b : Addr} {o u : HO} (n : a ≠ b) : upd (upd H b o) a u = upd (upd H a u) b o := by
  funext c
  by_cases g : c = a
  · rw [g, upd_same, upd_ne n, upd_same]
  · rw [upd_ne g]
    by_cases g' : c = b
    · rw [g', upd_same, upd_same]
    · rw [upd_ne g', upd_ne g', upd_ne g]
/-- an own error class x at C, as the law's callers need it: its maker keeps sp -/
structure Err (P : Program) (w : World) (K : PySem.W.Frag) (mg : Str → Option Value) (base : Heap) (x : Str) (C : Addr) (ps : List Str) (sp : Sp) : Prop where
  t : OexC K C
  g : mg x = some (.ref C)
  mkr : ∃ (fI : Addr) (fd : FuncData), PySem.W.findIn K (.ref C) "__init__" = some (some (.ref fI)) ∧ PySem.W.typeIn K (.ref fI) = some (.type "function") ∧ FnOk P w K mg base CX0 1 fI fd ps sp ∧ Binds K fd ps []
theorem err1_ok {H : Hp} {C : Addr} {f : Str} {v : V} {Q : XK} (q : ∀ d, H d = none → Q (.ref C) (some d) (upd H d (.xd [(f, v)]))) :
    ([v] : List V).length ≤ 1000 ∧ ∀ a, H a = none → spX1 C f (.ref a :: ([v] ++ [])) (upd H a (exo a C none))
      (fun v H2 => v = .non ∧ ∃ (d : Addr) (fs : List (Str × V)), H2 a = some (exo a C (some d)) ∧ H2 d = some (exd d fs) ∧ H d = none ∧ Q (.ref C) (some d) (upd (del H2 a) d (.xd fs))) (fun _ _ _ => False) := by
  refine ⟨(by simp), fun a ha => ⟨a, v, rfl, upd_same, fun dx hd ne => ⟨rfl, dx, [(f, v)], upd_same, ?_, ?_, ?_⟩⟩⟩
  · rw [upd_ne ne, upd_same]
  · rw [upd_ne ne] at hd
    exact hd
  · rw [upd_del ha ne]
    rw [upd_ne ne] at hd
    exact q dx hd
theorem err2_ok {H : Hp} {C : Addr} {f g : Str} {v u : V} {Q : XK} (q : ∀ d, H d = none → Q (.ref C) (some d) (upd H d (.xd [(g, u), (f, v)]))) :
    ([v, u] : List V).length ≤ 1000 ∧ ∀ a, H a = none → spX2 C f g (.ref a :: ([v, u] ++ [])) (upd H a (exo a C none))
      (fun v H2 => v = .non ∧ ∃ (d : Addr) (fs : List (Str × V)), H2 a = some (exo a C (some d)) ∧ H2 d = some (exd d fs) ∧ H d = none ∧ Q (.ref C) (some d) (upd (del H2 a) d (.xd fs))) (fun _ _ _ => False) := by
  refine ⟨(by simp), fun a ha => ⟨a, v, u, rfl, upd_same, fun dx hd ne => ⟨rfl, dx, [(g, u), (f, v)], upd_same, ?_, ?_, ?_⟩⟩⟩
  · rw [upd_ne ne, upd_same]
  · rw [upd_ne ne] at hd
    exact hd
  · rw [upd_del ha ne]
    rw [upd_ne ne] at hd
    exact q dx hd
theorem err0_ok {H : Hp} {C : Addr} {σ : L2.St} {Q : XK} (q : Q (.ref C) none H) : tMkN C (spX0 C) σ H Q := fun a ha => by
  refine ⟨a, rfl, upd_same, rfl, upd_same, ?_⟩
  rw [del_upd ha]
  exact q
theorem pmk_err0 {x : Str} {C : Addr} {ps : List Str} {sp : Sp} (T : Err X.prog X.w X.K X.mg X.base x C ps sp) (hr : Room 2 X.A) (hg : Gl X x) (hdb : (x == ("__debug__" : Str)) = false := by decide) : PMk X (.Call (.Name x p) [] [] pos) (tMkN C sp) := by
  obtain ⟨fI, fd, iC, tI, F1, hb⟩ := T.mkr
  exact pmk_oexN T.t iC tI F1 hr hb (fun _ _ _ _ _ _ _ h => h.elim) hg T.g hdb
theorem pmk_err {x : Str} {C : Addr} {ps : List Str} {sp : Sp} {e : Expr} {es : List Expr} {ta : TA} (T : Err X.prog X.w X.K X.mg X.base x C ps sp) (hr : Room 2 X.A) (hg : Gl X x) (ha : PA X (e :: es) ta) (hdb : (x == ("__debug__" : Str)) = false := by decide)
    (he : starEach (e :: es) X.env = (false, eval e X.env) :: starEach es X.env := by rfl) (hpl : (backTo pos (starEach es X.env)).any (·.1) = false := by rfl) :
    PMk X (.Call (.Name x p) (e :: es) [] pos) (tMkO C sp [] ta) := by
  obtain ⟨fI, fd, iC, tI, F1, hb⟩ := T.mkr
  exact pmk_oex T.t iC tI F1 hr hb .nil (fun _ _ _ _ _ _ _ h => h.elim) hg T.g ha hdb he hpl
theorem passF : Passes (L2.CX X.prog X.w) X (fun _ _ _ => False) := passes_call takes0 (fun _ _ _ _ h => h)
end
end Wn

namespace Wn
open PySem L2 PySem.Spec PyProof.Rows
section
variable {X : Cx} {K : PySem.W.Frag}
theorem slA (hK : X.K = K) : SlR X (rSlA K) := hK ▸ sl_tupA
theorem opCatA (hK : X.K = K) : OpR X (binaryOp .Add) (rCatA K) := hK ▸ op_catA
/-- x in a tuple of data -/
def rInDT (K : PySem.W.Frag) : R2 := fun x y H Q => ∃ d ds, Dp K H x d ∧ Dp K H y (.tuple ds) ∧ SeqAt.shaped d = true ∧ SeqAt.shaped (.tuple ds) = true ∧ Q (.bl (ds.any fun z => PyData.eqv z d)) H
def rNotInDT (K : PySem.W.Frag) : R2 := fun x y H Q => ∃ d ds, Dp K H x d ∧ Dp K H y (.tuple ds) ∧ SeqAt.shaped d = true ∧ SeqAt.shaped (.tuple ds) = true ∧ Q (.bl (!ds.any fun z => PyData.eqv z d)) H
theorem room_inT {A : Around} {d : PyData} {xs : List PyData} (h : SeqAt.shaped d = true) (hu : A.units + 65 < cLine) : A.units + 1 + min (PyData.depthAll xs) d.depth < cLine := by
  have h1 := SeqAt.depth_of_shaped h
  have h2 : min (PyData.depthAll xs) d.depth ≤ d.depth := Nat.min_le_right _ _
  omega
theorem op_inDT (hu : X.A.units + 65 < cLine) : OpR X (compareOp .In) (rInDT X.K) := by
  intro pins s σ H x y v u Q I rx ry h
  obtain ⟨d, ds, hd, he, sd, se, q⟩ := h
  obtain ⟨as, r1⟩ := Dp.reads I d x v hd rx
  obtain ⟨bs, r2⟩ := Dp.reads I (.tuple ds) y u he ry
  exact SeqAt.in_tuple_reads r2 r1 (SeqAt.canLay_of_shaped se) (SeqAt.canLay_of_shaped sd) (room_inT sd hu) ⟨.bl _, H, I, rfl, q⟩
theorem op_notInDT (hu : X.A.units + 65 < cLine) : OpR X (compareOp .NotIn) (rNotInDT X.K) := by
  intro pins s σ H x y v u Q I rx ry h
  obtain ⟨d, ds, hd, he, sd, se, q⟩ := h
  obtain ⟨as, r1⟩ := Dp.reads I d x v hd rx
  obtain ⟨bs, r2⟩ := Dp.reads I (.tuple ds) y u he ry
  exact SeqAt.notIn_tuple_reads r2 r1 (SeqAt.canLay_of_shaped se) (SeqAt.canLay_of_shaped sd) (room_inT sd hu) ⟨.bl _, H, I, rfl, q⟩
theorem inDTK (hK : X.K = K) (hu : X.A.units + 65 < cLine) : OpR X (compareOp .In) (rInDT K) := hK ▸ op_inDT hu
theorem notInDTK (hK : X.K = K) (hu : X.A.units + 65 < cLine) : OpR X (compareOp .NotIn) (rNotInDT K) := hK ▸ op_notInDT hu
theorem room65 {k : Nat} {A : Around} (r : Room k A) : A.units + 65 < cLine := by have := r.un; omega
end
end Wn

namespace Wn
open PySem L2 PySem.Spec PyProof.Rows HT
/-! ### t[::-1], t[i::-1] of a tuple -/
def revLen (n : Nat) : Option Int → Nat
  | none => n
  | some v => ((if v < 0 then max (v + (n : Int)) (-1) else min v ((n : Int) - 1)) + 1).toNat
theorem revLen_le (n : Nat) (lo : Option Int) : revLen n lo ≤ n := by
  cases lo with
  | none => exact Nat.le_refl _
  | some v =>
    show ((if v < 0 then max (v + (n : Int)) (-1) else min v ((n : Int) - 1)) + 1).toNat ≤ n
    split <;> omega
theorem fm_congr {α β : Type} {f g : α → Option β} : ∀ {l : List α}, (∀ x ∈ l, f x = g x) → l.filterMap f = l.filterMap g
  | [], _ => rfl
  | x :: l, h => by
    rw [List.filterMap_cons, List.filterMap_cons, h x List.mem_cons_self, fm_congr fun y hy => h y (List.mem_cons_of_mem _ hy)]
section
variable {prog : Program} {w : World} {A : Around} {E : Value → Shared → Prop} {s : Shared}
theorem rev_adjust (lo : Option Int) (n : Nat) : Builtin.Slice.sliceAdjust lo none (-1) (n : Int) = (((revLen n lo : Nat) : Int) - 1, -1) := by
  have h1 : ((-1 : Int) < 0) := by omega
  unfold Builtin.Slice.sliceAdjust
  simp only [h1, if_true]
  refine Prod.ext ?_ rfl
  cases lo with
  | none => rfl
  | some v =>
    show (if v < 0 then max (v + (n : Int)) (-1) else min v ((n : Int) - 1)) = (((((if v < 0 then max (v + (n : Int)) (-1) else min v ((n : Int) - 1)) + 1).toNat : Nat) : Int)) - 1
    split <;> omega
theorem rev_places (k : Nat) : Builtin.Slice.slicePlaces ((k : Int) - 1) (-1) (-1) = k := by
  unfold Builtin.Slice.slicePlaces
  have h1 : ¬ ((-1 : Int) > 0) := by omega
  rw [if_neg h1, show (- -1 : Int) = 1 by decide]
  simp only [Int.ediv_one]
  split <;> omega
theorem rev_applied {sl : Addr} {vl vs : Value} {lo : Option Int} {n : Nat} {Q : Int × Int × Nat → Shared → Prop} (hs : s.heap.IsSliceOf sl vl .none vs) (pl : IsPart vl lo) (ps : IsPart vs (some (-1)))
    (h : Q (((revLen n lo : Nat) : Int) - 1, -1, revLen n lo) s) : wpAny (model prog w) A (Builtin.Slice.sliceApplied (.ref sl) (pure (n : Int))) Q E s := by
  obtain ⟨os, hos, hcs, hds⟩ := id hs
  unfold Builtin.Slice.sliceApplied Builtin.Slice.sliceFields
  refine wpAny_bind (wpAny_bind (wpAny_field hos hds (x := vl) rfl (wpAny_bind (wpAny_field hos hds (x := .none) rfl (wpAny_bind (wpAny_field hos hds (x := vs) rfl (wpAny_pure ?_)))))))
  refine wpAny_bind (slicePart_ ps ?_)
  show wpAny _ _ (if ((-1 : Int) == 0) = true then _ else _) _ _ s
  rw [if_neg (by decide)]
  refine wpAny_bind (slicePart_ pl (wpAny_bind (slicePart_ .none (wpAny_bind (wpAny_pure ?_)))))
  show wpAny _ _ (match Builtin.Slice.sliceAdjust lo none (-1) (n : Int) with | (lo, hi) => pure (lo, (-1 : Int), Builtin.Slice.slicePlaces lo hi (-1))) _ _ s
  rw [rev_adjust lo n]
  show wpAny _ _ (pure (((revLen n lo : Nat) : Int) - 1, (-1 : Int), Builtin.Slice.slicePlaces (((revLen n lo : Nat) : Int) - 1) (-1) (-1))) _ _ s
  rw [rev_places]
  exact wpAny_pure h
theorem rev_pick (xs : Array Value) (k : Nat) (hk : k ≤ xs.size) : ((List.range k).filterMap fun (m : Nat) => xs[(((k : Int) - 1) + (m : Int) * (-1)).toNat]?).toArray = (xs.toList.take k).reverse.toArray := by
  congr 1
  have e : (List.range k).filterMap (fun (m : Nat) => xs[(((k : Int) - 1) + (m : Int) * (-1)).toNat]?) = ((List.range k).map fun m => k - 1 - m).filterMap (xs[·]?) := by
    rw [List.filterMap_map]
    refine fm_congr fun m hm => ?_
    have hm := List.mem_range.mp hm
    show xs[_]? = xs[k - 1 - m]?
    congr 1
    omega
  rw [e, PySem.W.krv_range, List.filterMap_reverse]
  congr 1
  have := pick_run xs 0 k
  rw [List.filterMap_map] at this
  have e2 : ((fun x => xs[x]?) ∘ fun x => 0 + x) = fun m => xs[m]? := by
    funext m
    show xs[0 + m]? = xs[m]?
    rw [Nat.zero_add]
  rw [e2, List.drop_zero] at this
  exact this
theorem getItem_tuple_rev {t sl : Addr} {items : Array Value} {vl vs : Value} {lo : Option Int} {Q : Value → Shared → Prop} (ht : IsTup s.heap t items) (hs : s.heap.IsSliceOf sl vl .none vs) (pl : IsPart vl lo) (ps : IsPart vs (some (-1)))
    (h : Q (.ref s.heap.objs.size) { s with heap := s.heap.push { cls := .type "tuple", data := .seq (items.toList.take (revLen items.size lo)).reverse.toArray } })
    (hsz : items.size ≤ sizeLine) : wpAny (model prog w) A (getItem (.ref t) (.ref sl)) Q E s := by
  have hk := revLen_le items.size lo
  have htake : sizeOk (.seq (items.toList.take (revLen items.size lo)).reverse.toArray) := by
    show (items.toList.take (revLen items.size lo)).reverse.toArray.size ≤ sizeLine
    rw [List.size_toArray, List.length_reverse, List.length_take, Array.length_toList]
    omega
  obtain ⟨os, hos, hcs, hds⟩ := id hs
  have hTs : s.TypeIs (.ref sl) "slice" := ⟨os, hos, hcs⟩
  unfold getItem
  try with_reducible refine wpAny_holding ?_
  first | refine wpAny_bind (wpAny_pure ?_) | skip
  refine wpAny_bind (wpAny_sequenceKey ht.typeIs (by decide) ?_)
  refine wpAny_bind (wpAny_callSpecial?_slot (name := Str.ofString "__getitem__") ht.typeIs PyProof.Rows.slot_tuple_getitem
    (wpAny_call_entry PyProof.Rows.slot_tuple_getitem ht.typeIs entry_tuple_getitem ?_ (args_tuple_getitem _ _)))
  show wpAny _ _ (Builtin.Tuple.tupleItemsOf (.ref t) >>= _) _ _ s
  refine wpAny_bind (tupleItemsOf_ ht ?_)
  refine wpAny_bind (wpAny_typeOf hTs ?_)
  rw [if_pos (by decide)]
  refine wpAny_bind (rev_applied hs pl ps ?_)
  have hno : ¬ (((((revLen items.size lo : Nat) : Int) - 1) == 0 && (-1 : Int) == 1 && (revLen items.size lo) == items.size) = true) := by
    rw [show ((-1 : Int) == 1) = false by decide, Bool.and_false, Bool.false_and]
    exact Bool.false_ne_true
  show wpAny _ _ (if ((((revLen items.size lo : Nat) : Int) - 1) == 0 && (-1 : Int) == 1 && (revLen items.size lo) == items.size) = true then _ else _) _ _ s
  rw [if_neg hno, rev_pick _ _ hk]
  first
    | exact wpAny_bind (m := Builtin.Tuple.tupleExact _) (wpAny_newObj_type (wpAny_pure ⟨_, rfl, wpAny_pure h⟩) htake)
    | exact wpAny_bind (m := Builtin.Tuple.tupleExact _) (wpAny_newObj_type (wpAny_bind (wpAny_pure (wpAny_pure ⟨_, rfl, wpAny_pure h⟩))) htake)
    | exact wpAny_bind (wpAny_bind (m := Builtin.Tuple.tupleExact _) (wpAny_newObj_type (wpAny_pure (wpAny_pure ⟨_, rfl, wpAny_pure h⟩)) htake))
    | exact wpAny_bind (wpAny_bind (m := Builtin.Tuple.tupleExact _) (wpAny_newObj_type (wpAny_pure ⟨_, rfl, wpAny_pure h⟩) htake))
end
section
variable {X : Cx} {K : PySem.W.Frag}
def tRevT (K : PySem.W.Frag) (te : TE) (tl : TO) : TE := fun σ H Q => te σ H fun x H1 => tl σ H1 fun lo H2 => ∃ a xs, x = .ref a ∧ SqT K H2 a xs ∧ ∀ p, H2 p = none → Q (.ref p) (upd H2 p (.tup (xs.take (revLen xs.length lo)).reverse))
theorem pe_revT {e : Expr} {lo : Option Expr} {te : TE} {tl : TO} {k : Nat} {p1 p2 p3 pos : Pos} (hK : X.K = K) (he : PE X e te) (hl : PO X lo tl) : PE X (.Subscript e (.Slice lo none (some (.UnaryOp .USub (.Constant (.int 1) k p1) p2)) p3) pos) (tRevT K te tl) := by
  subst hK
  refine ⟨fun pins s σ H Q I h => ?_⟩
  refine Subscript_ (thn (he.run pins s σ H _ I h) fun v s1 ⟨x, H1, I1, r1, q1⟩ => ?_)
  have hst : PO X (some (.UnaryOp .USub (.Constant (.int 1) k p1) p2)) (tPart (tUn (rU fun i => .int (-i)) (tC (.int 1)))) := po_some (pe_un un_neg pe_int)
  refine wpAny_Slice (thn (hl.run pins s1 σ H1 _ I1 q1) fun vl s2 ⟨l, H2, I2, pl, q2⟩ => ?_)
  obtain ⟨a, xs, ex, hx, q⟩ := q2
  subst ex
  cases r1
  refine thn (po_none.run pins s2 σ H2 (fun o H3 => o = none ∧ H3 = H2) I2 ⟨rfl, rfl⟩) fun vu s3 ⟨u, H3, I3, pu, eu, e3⟩ => ?_
  subst eu e3
  refine thn (hst.run pins s3 σ H3 (fun o H4 => o = some (-1) ∧ H4 = H3) I3 ⟨1, rfl, -1, rfl, rfl, rfl⟩) fun vs s4 ⟨o, H4, I4, ps, eo, e4⟩ => ?_
  subst eo e4
  cases pu
  have I5 : Inv X pins σ H4 { s4 with heap := s4.heap.push { cls := .type "slice", data := .fields #[vl, .none, vs] } } := I4.kept (t' := s4.toks) fun b ob q => Heap.get?_push_of_some _ q
  obtain ⟨its, r, ht, hz⟩ := I5.tuple hx
  have hlen : its.toArray.size = xs.length := by rw [List.size_toArray]; exact r.length.symm
  show wpAny (model X.prog X.w) X.A (subscriptTail e (.Slice lo none (some (.UnaryOp .USub (.Constant (.int 1) k p1) p2)) p3) (.ref a) (.ref s4.heap.objs.size)) (EP X pins σ Q) X.xe { s4 with heap := s4.heap.push { cls := .type "slice", data := .fields #[vl, .none, vs] } }
  refine tail_any (ops := [.ref a, .ref s4.heap.objs.size]) ht.typeIs (PyProof.Rows.slot_tuple_getitem.lookup) ?_ (by with_unfolding_all rfl)
  refine getItem_tuple_rev ht (Heap.IsSliceOf.new _ vl .none vs) pl ps ?_ (by rw [hlen]; exact hz)
  rw [hlen]
  refine ⟨.ref _, _, I5.laid (t' := s4.toks) (o := .tup (xs.take (revLen xs.length l)).reverse) (fun b ob q => Heap.get?_push_of_some _ q) (Nat.le_refl _) ?_, rfl, q _ (I5.hok.fresh (Nat.le_refl _))⟩
  refine ⟨by rw [List.length_reverse, List.length_take]; omega, _, ?_, IsTup.new _ _⟩
  have := r.take (revLen xs.length l)
  exact this.reverse
end
end Wn

namespace Wn
open PySem L2
/-! ### slices and sums of tuples, whatever they are -/
theorem SqT.sm {K : PySem.W.Frag} {H H' : Hp} {a : Addr} {xs : List V} (h : SqT K H a xs) (e : Same H H') : SqT K H' a xs := SqT.tk h (TK.of e)
section
variable {α : Type}
def cutL (xs : List α) (lo hi : Option Int) : List α := (xs.drop (HT.sIx xs.length 0 lo)).take (HT.sIx xs.length xs.length hi - HT.sIx xs.length 0 lo)
theorem cutL_all (xs : List α) : cutL xs none none = xs := by
  unfold cutL
  rw [HT.sIx_none, HT.sIx_none, List.drop_zero, Nat.sub_zero, List.take_length]
theorem cutL_to (xs : List α) (k : Nat) : cutL xs none (some (k : Int)) = xs.take k := by
  unfold cutL
  rw [HT.sIx_nat, HT.sIx_none, List.drop_zero, Nat.sub_zero]
  by_cases hk : k ≤ xs.length
  · rw [Nat.min_eq_left hk]
  · rw [Nat.min_eq_right (by omega), List.take_of_length_le (Nat.le_refl _), List.take_of_length_le (by omega)]
theorem cutL_from (xs : List α) (k : Nat) : cutL xs (some (k : Int)) none = xs.drop k := by
  unfold cutL
  rw [HT.sIx_nat, HT.sIx_none]
  by_cases hk : k ≤ xs.length
  · rw [Nat.min_eq_left hk, List.take_of_length_le (by rw [List.length_drop]; exact Nat.le_refl _)]
  · rw [Nat.min_eq_right (by omega), List.drop_of_length_le (Nat.le_refl _), List.drop_of_length_le (by omega), List.take_nil]
theorem cutL_mid (xs : List α) (a b : Nat) : cutL xs (some (a : Int)) (some (b : Int)) = (xs.drop a).take (b - a) := by
  unfold cutL
  rw [HT.sIx_nat, HT.sIx_nat]
  by_cases h : a ≤ xs.length
  · rw [Nat.min_eq_left h]
    by_cases h2 : b ≤ xs.length
    · rw [Nat.min_eq_left h2]
    · rw [Nat.min_eq_right (by omega), List.take_of_length_le (by rw [List.length_drop]; exact Nat.le_refl _), List.take_of_length_le (by rw [List.length_drop]; omega)]
  · rw [show min a xs.length = xs.length by omega, List.drop_of_length_le (Nat.le_refl _), List.drop_of_length_le (show xs.length ≤ a by omega), List.take_nil, List.take_nil]
theorem cutL_butlast (xs : List α) : cutL xs none (some (-1)) = xs.dropLast := by
  unfold cutL
  have e : HT.sIx xs.length xs.length (some (-1)) = xs.length - 1 := by
    unfold HT.sIx
    dsimp only
    rw [if_pos (show (-1 : Int) < 0 by decide)]
    omega
  rw [e, HT.sIx_none, List.drop_zero, Nat.sub_zero, List.dropLast_eq_take]
theorem cutL_last (xs : List α) : cutL xs (some (-1)) none = xs.drop (xs.length - 1) := by
  unfold cutL
  have e : HT.sIx xs.length 0 (some (-1)) = xs.length - 1 := by
    unfold HT.sIx
    dsimp only
    rw [if_pos (show (-1 : Int) < 0 by decide)]
    omega
  rw [e, HT.sIx_none, List.take_of_length_le (by rw [List.length_drop]; exact Nat.le_refl _)]
theorem cutL_map {β : Type} (f : α → β) (xs : List α) (lo hi : Option Int) : cutL (xs.map f) lo hi = (cutL xs lo hi).map f := by
  unfold cutL
  rw [List.length_map, List.map_take, List.map_drop]
theorem cutL_mem {xs : List α} {lo hi : Option Int} {x : α} (h : x ∈ cutL xs lo hi) : x ∈ xs := List.mem_of_mem_drop (List.mem_of_mem_take h)
theorem cutL_len (xs : List α) (lo hi : Option Int) : (cutL xs lo hi).length ≤ xs.length := by
  unfold cutL
  rw [List.length_take, List.length_drop]
  omega
end
theorem cutV_L (xs : List V) (lo hi : Option Int) : cutV xs lo hi = cutL xs lo hi := rfl
section
variable {K : PySem.W.Frag} {H H' : Hp} {a b : Addr} {xs ys : List V} {ds es : List PyData} {lo hi : Option Int} {Q : VK}
theorem slA_sq (h : SqT K H a xs) (q : ∀ (H' : Hp) (x : Addr), Same H H' → SqT K H' x (cutL xs lo hi) → Q (.ref x) H') : rSlA K (.ref a) lo hi H Q := by
  refine ⟨a, xs, rfl, h, fun hw => ?_, fun hw p hp => ?_⟩
  · refine q H a (L2.Same.refl _) ?_
    have e : cutL xs lo hi = xs := by
      unfold cutL
      rw [hw.1, hw.2, List.drop_zero, Nat.sub_zero, List.take_length]
    rw [e]
    exact h
  · exact q _ p ((L2.Same.refl _).new hp) (SqT.of upd_same)
theorem catA_sq (ha : SqT K H a xs) (hb : SqT K H b ys) (hl : xs.length + ys.length ≤ 16000000) (q : ∀ (H' : Hp) (x : Addr), Same H H' → SqT K H' x (xs ++ ys) → Q (.ref x) H') : rCatA K (.ref a) (.ref b) H Q := by
  refine ⟨a, b, xs, ys, rfl, rfl, ha, hb, Nat.le_trans hl (by decide), fun e => ?_, fun _ e => ?_, fun _ _ p hp => ?_⟩
  · subst e
    exact q H b (L2.Same.refl _) hb
  · subst e
    exact q H a (L2.Same.refl _) (by rw [List.append_nil]; exact ha)
  · exact q _ p ((L2.Same.refl _).new hp) (SqT.of upd_same)
/-- a tuple of data -/
def TupAt (K : PySem.W.Frag) (H : Hp) (a : Addr) (ds : List PyData) : Prop := Rp K H (.tuple ds) (.ref a)
theorem TupAt.inv (h : TupAt K H a ds) : ∃ xs, SqT K H a xs ∧ RpL K H ds xs := by
  unfold TupAt Rp at h
  obtain ⟨b, xs, e, h1, h2⟩ := h
  cases e
  exact ⟨xs, h1, h2⟩
theorem TupAt.sm (h : TupAt K H a ds) (s : Same H H') : TupAt K H' a ds := Rp.tk (TK.of s) _ _ h
theorem TupAt.tk (h : TupAt K H a ds) (s : TK H H') : TupAt K H' a ds := Rp.tk s _ _ h
theorem RpL.cut (h : RpL K H ds xs) : RpL K H (cutL ds lo hi) (cutL xs lo hi) := by
  unfold cutL
  rw [RpL.len _ _ h]
  exact RpL.take _ (RpL.drop _ h)
theorem slA_tup (h : TupAt K H a ds) (q : ∀ (H' : Hp) (x : Addr), Same H H' → TupAt K H' x (cutL ds lo hi) → Q (.ref x) H') : rSlA K (.ref a) lo hi H Q := by
  obtain ⟨xs, hx, rx⟩ := h.inv
  exact slA_sq hx fun H' x s h' => q H' x s (Rp.tupS h' (RpL.tk (TK.of s) _ _ rx.cut))
theorem catA_tup (ha : TupAt K H a ds) (hb : TupAt K H b es) (hl : ds.length + es.length ≤ 16000000) (q : ∀ (H' : Hp) (x : Addr), Same H H' → TupAt K H' x (ds ++ es) → Q (.ref x) H') : rCatA K (.ref a) (.ref b) H Q := by
  obtain ⟨xs, hx, rx⟩ := ha.inv
  obtain ⟨ys, hy, ry⟩ := hb.inv
  refine catA_sq hx hy (by rw [RpL.len _ _ rx, RpL.len _ _ ry]; exact hl) fun H' x s h' => q H' x s (Rp.tupS h' (RpL.tk (TK.of s) _ _ (RpL.app rx ry)))
/-! ### the same of things of any kind -/
theorem DpAll.app : ∀ {xs ys : List V} {ds es : List PyData}, DpAll K H xs ds → DpAll K H ys es → DpAll K H (xs ++ ys) (ds ++ es)
  | _, _, _, _, .nil, h => h
  | _, _, _, _, .cons h1 h2, h => .cons h1 (DpAll.app h2 h)
theorem DpAll.take : ∀ (k : Nat) {xs : List V} {ds : List PyData}, DpAll K H xs ds → DpAll K H (xs.take k) (ds.take k)
  | 0, _, _, _ => .nil
  | k + 1, _, _, .nil => .nil
  | k + 1, _, _, .cons h1 h2 => .cons h1 (DpAll.take k h2)
theorem DpAll.drop : ∀ (k : Nat) {xs : List V} {ds : List PyData}, DpAll K H xs ds → DpAll K H (xs.drop k) (ds.drop k)
  | 0, _, _, h => h
  | k + 1, _, _, .nil => .nil
  | k + 1, _, _, .cons h1 h2 => DpAll.drop k h2
theorem DpAll.len' : ∀ {vs : List V} {ds : List PyData}, DpAll K H vs ds → vs.length = ds.length
  | _, _, .nil => rfl
  | _, _, .cons _ h => by rw [List.length_cons, List.length_cons, DpAll.len' h]
theorem DpAll.cut (h : DpAll K H xs ds) : DpAll K H (cutL xs lo hi) (cutL ds lo hi) := by
  unfold cutL
  rw [DpAll.len' h]
  exact DpAll.take _ (DpAll.drop _ h)
theorem DpAll.rev : ∀ {xs : List V} {ds : List PyData}, DpAll K H xs ds → DpAll K H xs.reverse ds.reverse
  | _, _, .nil => .nil
  | _, _, .cons h1 h2 => by
    rw [List.reverse_cons, List.reverse_cons]
    exact DpAll.app (DpAll.rev h2) (.cons h1 .nil)
end
end Wn
namespace Wn
open PySem L2
/-- a part of a tuple that isn't the whole: a new one -/
theorem slA_new {K : PySem.W.Frag} {H : Hp} {a : Addr} {xs : List V} {lo hi : Option Int} {Q : VK} (h : SqT K H a xs) (hw : ¬ (HT.sIx xs.length 0 lo = 0 ∧ HT.sIx xs.length xs.length hi = xs.length))
    (q : ∀ (H' : Hp) (x : Addr), Same H H' → H x = none → H' x = some (.tup (cutL xs lo hi)) → Q (.ref x) H') : rSlA K (.ref a) lo hi H Q :=
  ⟨a, xs, rfl, h, fun z => absurd z hw, fun _ p hp => q _ p ((L2.Same.refl _).new hp) hp upd_same⟩
theorem slA_2of4 {K : PySem.W.Frag} {H : Hp} {a : Addr} {x1 x2 x3 x4 : V} {Q : VK} (h : SqT K H a [x1, x2, x3, x4])
    (q : ∀ (H' : Hp) (x : Addr), Same H H' → H x = none → H' x = some (.tup [x1, x2]) → Q (.ref x) H') : rSlA K (.ref a) none (some 2) H Q :=
  slA_new h (fun z => absurd z.2 (by show ¬ (2 : Nat) = 4; decide)) fun H' x s n e => q H' x s n (by
    have e2 : cutL [x1, x2, x3, x4] none (some 2) = [x1, x2] := cutL_to _ 2
    rw [e2] at e
    exact e)
end Wn

set_option maxHeartbeats 1600000
namespace Wn
open PySem L2
open SX (S S_len S_cat S_beq_eq join_S)
set_option pp.maxSteps 700
set_option pp.deepTerms false
local macro_rules | `(tactic| walk_at "h") => `(tactic| first | with_reducible assumption | (with_reducible exact upd_same) | (with_reducible apply g_upd; (walk_at "neq"); (walk_at "h")) | (with_reducible apply g_same; (with_reducible assumption); (walk_at "h")) | (with_reducible apply g_kp; (with_reducible assumption); (walk_at "nin"); (walk_at "h")) | (with_reducible apply g_tk; (with_reducible assumption); (walk_at "h")))
local macro_rules | `(tactic| walk_at "neq") => `(tactic| first | with_reducible assumption | (with_reducible apply Ne.symm; with_reducible assumption) | (with_reducible apply ne_upd; (with_reducible assumption)) | (with_reducible apply Ne.symm; with_reducible apply ne_upd; with_reducible assumption) | (with_reducible apply ne_fr; (with_reducible assumption); (walk_at "h")) | (with_reducible apply ne_fr'; (with_reducible assumption); (walk_at "h")) | (with_reducible apply ne_kd; (walk_at "h"); (walk_at "h"); (with_unfolding_all (intro z; cases z))))
local macro_rules | `(tactic| walk_at "nin") => `(tactic| first | (with_reducible exact nin0) | with_reducible assumption | (with_reducible apply ninc; (walk_at "neq"); (walk_at "nin")))
local macro_rules | `(tactic| walk_at "none") => `(tactic| first | with_reducible assumption | (with_reducible apply n_upd; (with_reducible assumption)) | (with_reducible apply n_same; (with_reducible assumption); (walk_at "none")) | (with_reducible apply n_kp; (with_reducible assumption); (walk_at "nin"); (walk_at "none")))
local macro_rules | `(tactic| walk_at "mem") => `(tactic| first | (with_reducible exact List.mem_cons_self) | (with_reducible apply List.mem_cons_of_mem; (walk_at "mem")))
local macro_rules | `(tactic| walk_at "am") => `(tactic| first | (with_reducible exact am0) | (with_reducible apply am1; (first | (apply Or.inl; walk_at "mem") | (apply Or.inr; walk_at "none")); (walk_at "am")))
local macro_rules | `(tactic| walk_at "tk") => `(tactic| first | (with_reducible exact TK.refl _) | with_reducible assumption | (with_reducible apply t_tk; (with_reducible assumption); (walk_at "tk")) | (with_reducible apply t_same; (with_reducible assumption); (walk_at "tk")) | (with_reducible apply t_new; (with_reducible assumption); (walk_at "tk")) | (with_reducible apply t_wr; (walk_at "h"); (with_unfolding_all rfl); (walk_at "tk")))
local macro_rules | `(tactic| walk_at "same") => `(tactic| first | (with_reducible exact L2.Same.refl _) | with_reducible assumption | (with_reducible apply s_same; (with_reducible assumption); (walk_at "same")) | (with_reducible apply s_new; (with_reducible assumption); (walk_at "same")) | (with_reducible apply s_wrn; (walk_at "none"); (walk_at "same")))
local macro_rules | `(tactic| walk_at "kp") => `(tactic| first | (with_reducible exact Kp.refl _ _) | with_reducible assumption | (with_reducible apply k_same; (with_reducible assumption); (walk_at "kp")) | (with_reducible apply k_kp; (with_reducible assumption); (walk_at "kp")) | (with_reducible apply k_kpm; (with_reducible assumption); (walk_at "am"); (walk_at "kp")) | (with_reducible apply k_new; (with_reducible assumption); (walk_at "kp")) | (with_reducible apply k_wr; (walk_at "mem"); (walk_at "kp")) | (with_reducible apply k_wrn; (walk_at "none"); (walk_at "kp")))
local macro_rules | `(tactic| walk_at "rp") => `(tactic| first | with_reducible assumption | (with_reducible exact Rp.int) | (with_reducible exact Rp.str) | (with_reducible exact Rp.none) | (with_reducible exact Rp.bool) | (with_reducible apply Rp.tk'; (with_reducible assumption); (walk_at "tk")) | (with_reducible apply Rp.tup; (walk_at "h"); (walk_at "rpl")))
local macro_rules | `(tactic| walk_at "rpl") => `(tactic| first | with_reducible assumption | (with_reducible exact RpL.nil) | (with_reducible apply RpL.tk'; (with_reducible assumption); (walk_at "tk")) | (with_reducible apply RpL.cons; (walk_at "rp"); (walk_at "rpl")))
local macro_rules | `(tactic| walk_at "g") => `(tactic| repeat (first | refine ⟨_, rfl, ?_⟩ | refine ⟨_, _, rfl, rfl, ?_⟩ | refine ⟨rfl, _, rfl, ?_⟩ | refine ⟨_, _, rfl, rfl, (by first | decide | omega), ?_⟩))
abbrev sNumber : Stmt := top 14
abbrev sRead : Stmt := top 15
structure HB (K : PySem.W.Frag) (mg : Str → Option Value) : Prop where
  isinstance : mg "isinstance" = none
  int : mg "int" = none
  bool : mg "bool" = none
  str : mg "str" = none
  tuple : mg "tuple" = none
  len : mg "len" = none
  all : mg "all" = none
  any : mg "any" = none
  many : ∃ t, mg "MANY" = some (.int 7 t)
  great : ∃ t, mg "GREATEST_NUMBER" = some (.int 1000000 t)
  long : ∃ t, mg "LONGEST" = some (.int 7 t)
  figs : ∃ t, mg "FIGURES" = some (.str (S figsL) t)
  kinds : ∃ a, mg "KIND_WORDS" = some (.ref a) ∧ ∀ H, SqT K H a kindsV
def spNumX (C : Addr) : Sp := fun vs H Q E => ∃ (w : List Nat), vs = [.str (S w)] ∧ w.length ≤ 1000 ∧ (∀ n, numB w = some n → ∀ H', Same H H' → Q (.int (n : Int)) H') ∧ (numB w = none → ∀ H', Same H H' → E (.ref C) none H')
def spReadX (K : PySem.W.Frag) (C : Addr) : Sp := fun vs H Q E => ∃ (v : V) (d : PyData), vs = [v] ∧ Dk K H v d ∧ (∀ cs, d = .str (S cs) → cs.length ≤ 1000 ∧ ∀ e, readB cs = some e → ∀ H' v', Same H H' → Rp K H' e v' → Q v' H') ∧
  ((∀ cs e, d = .str (S cs) → readB cs ≠ some e) → ∀ H', Same H H' → E (.ref C) none H')
theorem walk_strL {cs : List Nat} : Walk (Its (S cs)) (cs.map fun c => V.str (S [c])).length (fun _ => True) (YAt (cs.map fun c => V.str (S [c]))) := by
  have w := walk_str (z := S cs)
  have e : (S cs).cps.size = (cs.map fun c => V.str (S [c])).length := by simp
  rw [e] at w
  refine ⟨w.1, w.2, fun i H v H' hi g y => ?_⟩
  obtain ⟨e1, c, e2, e3⟩ := w.3 i H v H' hi g y
  refine ⟨e1, ?_⟩
  have e2 : cs[i]? = some c := by
    have : (cs.toArray)[i]? = some c := e2
    rw [List.getElem?_toArray] at this
    exact this
  rw [List.getElem?_map, e2, e3]
  rfl
theorem rpl_signs {K : PySem.W.Frag} {H : Hp} : ∀ cs : List Nat, RpL K H (cs.map fun c => PyData.str (S [c])) (cs.map fun c => V.str (S [c]))
  | [] => RpL.nil
  | c :: cs => RpL.cons Rp.str (rpl_signs cs)
theorem rpl_nats {K : PySem.W.Frag} {H : Hp} : ∀ ns : List Nat, RpL K H (ns.map fun n : Nat => PyData.int (n : Int)) (ns.map fun n : Nat => V.int (n : Int))
  | [] => RpL.nil
  | c :: cs => RpL.cons Rp.int (rpl_nats cs)
theorem kinds_flat : kindsV.all flatV = true := rfl

section
variable {P : Program} {w : World} {K : PySem.W.Frag} {mg : Str → Option Value} {base : Heap} {CN : Addr}
theorem scNumber : FnScope ["word", "sign"] ["word"] (defScope sNumber) := ⟨rfl, rfl, rfl, by decide +kernel, rfl, by decide +kernel, by decide +kernel⟩
theorem ok_numberX {f : Addr} {fd : FuncData} (F : Fun K "number_of" "number_of" sNumber f fd) (B : HB K mg) (EE : Err P w K mg base "NoHead" CN ["self"] (spX0 CN)) : FnOk P w K mg base (L2.CX P w) 3 f fd ["word"] (spNumX CN) := by
  obtain ⟨_, mLONG⟩ := B.long
  obtain ⟨_, mGREAT⟩ := B.great
  obtain ⟨_, mFIGS⟩ := B.figs
  refine F.okX scNumber (fun vs H Q E h => ?_) (fun cdv A outer s H vs Q E hr h => ?_)
  · obtain ⟨w, rfl, _⟩ := h
    rfl
  · obtain ⟨w, rfl, lw, k, kE⟩ := h
    have hr2 : Room 2 _ := hr
    have hu := hu_of hr
    refine ⟨_, (pss_cons (ps_if (PW.pt (pw_or (pt_cmpR op_eq (pv 0) pe_str (nomark _)) (pw_or (pt_cmpR op_gt (pe_callB (lenK (K := K) rfl) (by rfl) B.len PySem.boot_len (pa_cons (pv 0) pa_nil)) (pe_glob (v := .int 7) (by rfl) mLONG ⟨_, rfl⟩) (nomark _)) (pw_or1 (pt_val (pe_callB (crAnyK (K := K) rfl rfl) (by rfl) B.any (by decide +kernel) (pa_cons (pe_lc (own := [("sign", 1)]) (g := (gName 1)) (tt := tYes) rfl scNumber.nd (pi_str (pv 0)) (blkOk_by (N := ["word", "sign"]) (sc := defScope sNumber) (by decide +kernel))
       (fun _ _ _ _ _ => (pg_name (i := 1) scNumber.nd rfl (Or.inl rfl))) (fun _ _ _ _ _ => pts_nil) (fun _ _ _ _ _ => (pe_cmpR op_notin_str (pv 1) (pe_glob (v := .str (S figsL)) (by rfl) mFIGS ⟨_, rfl⟩) (by rfl)))) pa_nil)))))))
       (pss_one (ps_raise rfl (takes_of rfl rfl rfl rfl) (pmk_err0 EE hr2 rfl)))
       pss_nil)
       (pss_cons (ps_if (PW.pt (pw_or (PW.pt (pw_and (pt_cmpR op_gt (pe_callB (lenK (K := K) rfl) (by rfl) B.len PySem.boot_len (pa_cons (pv 0) pa_nil)) pe_int (nomark _)) (pw_and1 (pt_cmpR op_eq (pe_ix ix_str (pv 0) pe_int (fun _ _ => rfl)) pe_str (nomark _))))) (pw_or1 (pt_cmpR op_gt (pe_callTy call_int_str (by rfl) B.int PyProof.Rows.boot_int (pa_cons (pv 0) pa_nil)) (pe_glob (v := .int 1000000) (by rfl) mGREAT ⟨_, rfl⟩) (nomark _)))))
       (pss_one (ps_raise rfl (takes_of rfl rfl rfl rfl) (pmk_err0 EE hr2 rfl)))
       pss_nil)
       (pss_one (ps_ret (pe_callTy call_int_str (by rfl) B.int PyProof.Rows.boot_int (pa_cons (pv 0) pa_nil)))))), ?_⟩
    have hz : (S w).length ≤ sizeLine := by rw [S_len]; exact Nat.le_trans lw (by decide)
    have s0 := L2.Same.refl H
    refine ⟨_, rfl, rfl, _, rfl, ?_⟩
    by_cases w0 : w = []
    · rw [show decide (V.str (S w) = V.str (Str.ofString "")) = true from decide_eq_true (by rw [w0]; rfl)]
      have er := kE (by unfold numB; rw [if_neg (fun z => z.1 w0)]) _ s0
      first | exact err0_ok er | exact iteT (err0_ok er) | exact iteT (iteT (err0_ok er))
    rw [show decide (V.str (S w) = V.str (Str.ofString "")) = false from decide_eq_false fun z => w0 (SX.S_inj (b := []) (V.str.inj z))]
    refine iteF ?_
    refine ⟨_, rfl, _, w.length, rfl, ⟨hz, (S_len _).symm⟩, _, _, rfl, rfl, _, rfl, iteP (fun c7 => ?_) (fun c7 => ?_)⟩
    · have er := kE (by unfold numB; rw [if_neg (fun z => by have := z.2.1; omega)]) _ s0
      first | exact err0_ok er | exact iteT (err0_ok er) | exact iteT (iteT (err0_ok er))
    refine ⟨_, rfl, _, rfl, fun D hD => ?_⟩
    refine mapD_it (K := K) (walk_strL (cs := w)) (fun _ _ => trivial) (enc := fun c => .str (S [c])) (L := w) (fun c => .bool (!figB c)) ?_ hD (by omega) ?_ ?_
    · exact rpl_signs _
    · intro c x H' Q' hc rx sx kk
      obtain rfl := Rp.str_eq rx
      refine ⟨_, rfl, _, _, rfl, rfl, ?_⟩
      rw [SX.in_one]
      exact kk _ _ (L2.Same.refl _) Rp.bool
    · intro H1 ys s1 hD1 r1
      have ey := RpL.flat (g := fun c : Nat => V.bl (!figB c)) (fun b v r => Rp.bool_eq r) r1
      subst ey
      refine ⟨D, w.map fun c => !figB c, rfl, by rw [List.map_map]; exact SqL.of hD1, _, rfl, ?_⟩
      by_cases af : w.all figB = true
      · have : (w.map fun c => !figB c).any id = false := by
          rw [List.any_map]
          refine List.any_eq_false.mpr fun c hc => ?_
          have := List.all_eq_true.mp af c hc
          show ¬ (!figB c) = true
          rw [this]
          decide
        rw [this]
        refine iteF ?_
        have hint : intText? (S w) = some ((NumText.digitsVal w : Nat) : Int) := SX.int_S (by
          refine List.all_eq_true.mpr fun c hc => ?_
          have := List.all_eq_true.mp af c hc
          unfold figB figsL at this
          have := of_decide_eq_true this
          simp only [List.mem_cons, List.not_mem_nil, or_false] at this
          rw [Bool.and_eq_true, decide_eq_true_eq, decide_eq_true_eq]
          omega) w0 (by omega)
        refine ⟨_, rfl, _, w.length, rfl, ⟨hz, (S_len _).symm⟩, _, _, rfl, rfl, _, rfl, iteP (fun c1 => ?_) (fun c1 => ?_)⟩
        · cases hw : w with
          | nil => exact absurd hw w0
          | cons c r =>
            rw [hw] at hz hint
            refine ⟨_, rfl, _, _, c, rfl, rfl, hz, atI_nat (j := 0) (by simp), rfl, _, rfl, ?_⟩
            by_cases c48 : c = 48
            · rw [show decide (V.str ⟨#[c]⟩ = V.str (Str.ofString "0")) = true from decide_eq_true (by rw [c48]; rfl)]
              have er := kE (by unfold numB; rw [if_neg (fun z => z.2.2.2.1 ⟨by omega, by rw [hw, c48]; rfl⟩)]) _ s1
              first | exact err0_ok er | exact iteT (err0_ok er) | exact iteT (iteT (err0_ok er))
            · rw [show decide (V.str ⟨#[c]⟩ = V.str (Str.ofString "0")) = false from decide_eq_false fun z => c48 (by
                have := SX.S_inj (a := [c]) (b := [48]) (V.str.inj z)
                simpa using this)]
              refine iteF ?_
              refine ⟨_, rfl, _, _, rfl, hint, (by rw [S_len, ← hw]; omega), _, _, rfl, rfl, _, rfl, iteP (fun cg => ?_) (fun cg => ?_)⟩
              · have er := kE (by unfold numB; rw [if_neg (fun z => by have := z.2.2.2.2; rw [hw] at this; omega)]) _ s1
                first | exact err0_ok er | exact iteT (err0_ok er) | exact iteT (iteT (err0_ok er))
              · exact ⟨_, rfl, _, _, rfl, hint, (by rw [S_len, ← hw]; omega), k _ (by unfold numB; rw [if_pos ⟨w0, by omega, af, fun z => by rw [hw] at z; exact c48 (Option.some.inj z.2), by rw [hw]; omega⟩, hw]) _ s1⟩
        · refine ⟨_, rfl, _, _, rfl, hint, (by rw [S_len]; omega), _, _, rfl, rfl, _, rfl, iteP (fun cg => ?_) (fun cg => ?_)⟩
          · have er := kE (by unfold numB; rw [if_neg (fun z => by have := z.2.2.2.2; omega)]) _ s1
            first | exact err0_ok er | exact iteT (err0_ok er) | exact iteT (iteT (err0_ok er))
          · exact ⟨_, rfl, _, _, rfl, hint, (by rw [S_len]; omega), k _ (by unfold numB; rw [if_pos ⟨w0, by omega, af, fun z => by omega, by omega⟩]) _ s1⟩
      · have : (w.map fun c => !figB c).any id = true := by
          rw [List.any_map, List.any_eq_true]
          obtain ⟨c, hc, e⟩ : ∃ c ∈ w, figB c = false := by
            refine Classical.byContradiction fun z => af (List.all_eq_true.mpr fun c hc => ?_)
            cases e : figB c with
            | true => rfl
            | false => exact absurd ⟨c, hc, e⟩ z
          exact ⟨c, hc, by show (!figB c) = true; rw [e]; rfl⟩
        rw [this]
        have er := kE (by unfold numB; rw [if_neg (fun z => af z.2.2.1)]) _ s1
        first | exact err0_ok er | exact iteT (err0_ok er) | exact iteT (iteT (err0_ok er))
theorem scRead : FnScope ["text", "at", "words", "rest", "word"] ["text"] (defScope sRead) := ⟨rfl, rfl, rfl, by decide +kernel, rfl, by decide +kernel, by decide +kernel⟩
theorem ok_readX {f : Addr} {fd : FuncData} (F : Fun K "read" "read" sRead f fd) (B : HB K mg) (EE : Err P w K mg base "NoHead" CN ["self"] (spX0 CN)) (cN : ∃ fN fdN, FnOk P w K mg base (L2.CX P w) 3 fN fdN ["word"] (spNumX CN) ∧ mg "number_of" = some (.ref fN) ∧ PySem.W.keepIn K (.ref fN) = true ∧ Binds K fdN ["word"] []) : FnOk P w K mg base (L2.CX P w) 4 f fd ["text"] (spReadX K CN) := by
  obtain ⟨fN, fdN, GN, mN, kN, bN⟩ := cN
  obtain ⟨_, mMANY⟩ := B.many
  obtain ⟨aK, mKIND, hKIND⟩ := B.kinds
  refine F.okX scRead (fun vs H Q E h => ?_) (fun cdv A outer s H vs Q E hr h => ?_)
  · obtain ⟨v, d, rfl, _⟩ := h
    rfl
  · obtain ⟨v, d, rfl, hd, k, kE⟩ := h
    have hr3 : Room 3 _ := hr
    have hr2 : Room 2 _ := hr.mono (by decide)
    have hu := hu_of hr
    refine ⟨_, (pss_cons (ps_if (PW.pt (pw_or (pt_not (pt_val (pe_callB (isiK (K := K) rfl) (by rfl) B.isinstance (by decide +kernel) (pa_cons (pv 0) (pa_cons (pe_bltn (v := .ty "str") (by rfl) B.str PyProof.Rows.boot_str rfl) pa_nil))))) (pw_or1 (pt_cmpR op_notin_str pe_str (pv 0) (by rfl)))))
       (pss_one (ps_raise rfl (takes_of rfl rfl rfl rfl) (pmk_err0 EE hr2 rfl)))
       pss_nil)
       (pss_cons (ps_set (i := 1) scRead.nd rfl (Or.inl rfl) (pe_m1 PySem.F.slot_str_index PySem.F.type_str_index mt_sindex (pv 0) pe_str))
       (pss_cons (ps_set (i := 2) scRead.nd rfl (Or.inl rfl) (pe_split (pe_slice sl_str (pv 0) po_none (po_some (pv 1))) pe_str))
       (pss_cons (ps_if (PW.pt (pw_or (pt_cmpR op_ne (pe_callB (lenK (K := K) rfl) (by rfl) B.len PySem.boot_len (pa_cons (pv 2) pa_nil)) (pe_glob (v := .int 7) (by rfl) mMANY ⟨_, rfl⟩) (nomark _)) (pw_or1 (pt_cmpR (notInSeqK (K := K) rfl) (pe_ix (ixL (K := K) rfl) (pv 2) pe_int (fun _ _ => rfl)) (pe_glob (v := .ref aK) (by rfl) mKIND rfl) (by rfl)))))
       (pss_one (ps_raise rfl (takes_of rfl rfl rfl rfl) (pmk_err0 EE hr2 rfl)))
       pss_nil)
       (pss_cons (ps_set (i := 3) scRead.nd rfl (Or.inl rfl) (pe_callTy (tupOfK (K := K) rfl) (by rfl) B.tuple PyProof.Rows.boot_tuple (pa_cons (pe_lcX (E := E) (own := [("word", 4)]) (g := (gName 4)) (tt := tYes) rfl rfl (takes_of rfl rfl rfl rfl) rfl scRead.nd (pi_list (pe_slice (slL (K := K) rfl) (pv 2) (po_some pe_int) po_none)) (blkOk_by (N := ["text", "at", "words", "rest", "word"]) (sc := defScope sRead) (by decide +kernel)) (fun _ _ _ _ _ => (pg_name (i := 4) scRead.nd rfl (Or.inl rfl))) (fun _ _ _ _ _ => pts_nil) (fun _ _ _ _ _ _ hp => (pe_callS GN hr3 rfl mN kN bN (E := fun _ => E) (fun σ pins H s e s1 I c => hp pins σ H s e s1 I c) (pa_cons (pv 4) pa_nil)))) pa_nil)))
       (pss_one (ps_ret (pe_tup (pa_cons (pe_op (opCatA (K := K) rfl) (pe_tup (pa_cons (pe_callS GN hr3 rfl mN kN bN (fun σ => passAt (takes_of rfl rfl rfl rfl) σ) (pa_cons (pe_ix (ixL (K := K) rfl) (pv 2) pe_int (fun _ _ => rfl)) pa_nil)) (pa_cons (pe_ix (ixL (K := K) rfl) (pv 2) pe_int (fun _ _ => rfl)) pa_nil))) (pv 3)) (pa_cons (pe_slice sl_str (pv 0) (po_some (pe_op op_add (pv 1) pe_int)) po_none) pa_nil)))))))))), ?_⟩
    have s0 := L2.Same.refl H
    refine ⟨_, rfl, _, _, _, _, _, rfl, .ty _, hd.ty, kit_str d, _, rfl, ?_⟩
    by_cases ts : tyN d = "str"
    rotate_left
    · rw [decide_eq_false ts]
      have er := kE (fun cs e ed => absurd (by rw [ed]; rfl) ts) _ s0
      first | exact err0_ok er | exact iteT (err0_ok er) | exact iteT (iteT (err0_ok er))
    rw [decide_eq_true ts]
    obtain ⟨cs, rfl⟩ : ∃ cs : List Nat, d = .str (S cs) := by
      cases d with
      | str z => exact ⟨z.cps.toList, congrArg PyData.str (by cases z; rfl)⟩
      | none => exact absurd ts (by decide)
      | bool b => exact absurd ts (show ¬ ("bool" : String) = "str" by decide)
      | int b => exact absurd ts (show ¬ ("int" : String) = "str" by decide)
      | list b => exact absurd ts (show ¬ ("list" : String) = "str" by decide)
      | tuple b => exact absurd ts (show ¬ ("tuple" : String) = "str" by decide)
      | dict b => exact absurd ts (show ¬ ("dict" : String) = "str" by decide)
    obtain rfl := hd.inv_str
    obtain ⟨lc, k⟩ := k cs rfl
    have kE : readB cs = none → ∀ H', Same H H' → E (.ref CN) none H' := fun e => kE fun cs' e' ed => by
      have := SX.S_inj (PyData.str.inj ed)
      rw [← this, e]
      exact fun z => by cases z
    have hz : (S cs).length ≤ sizeLine := by rw [S_len]; exact Nat.le_trans lc (by decide)
    refine iteF ?_
    refine ⟨_, rfl, _, _, rfl, rfl, _, rfl, ?_⟩
    have hin : (!(Builtin.Str.occurrences (S cs) (Str.ofString ":") 0 (S cs).length 1).isEmpty) = decide (58 ∈ cs) := SX.in_one cs 58
    rw [hin]
    by_cases h58 : 58 ∈ cs
    rotate_left
    · rw [decide_eq_false h58]
      have er := kE (by unfold readB; rw [if_neg h58]) _ s0
      first | exact err0_ok er | exact iteT (err0_ok er) | exact iteT (iteT (err0_ok er))
    rw [decide_eq_true h58]
    refine iteF ?_
    obtain ⟨q, eq1, eq2, eq3⟩ := front_eq h58
    obtain ⟨more, hocc⟩ := occ_one (q := q) eq3
    rw [← eq1] at hocc
    have fl := front_len cs
    dsimp only [tNext]
    refine ⟨_, rfl, ⟨_, rfl⟩, _, _, (frontL cs).length, more, rfl, rfl, hocc, ?_⟩
    have c1 : cutS (S cs) none (some (((frontL cs).length : Nat) : Int)) = S (frontL cs) := by
      rw [C8.cutS_slice]
      have e : S cs = S (frontL cs ++ 58 :: q) := congrArg S eq1
      rw [e]
      exact SX.to_app (frontL cs) (58 :: q) rfl
    dsimp only [gName, List.set]
    refine ⟨_, rfl, _, rfl, _, rfl, _, rfl, hz, ?_⟩
    rw [c1]
    refine ⟨⟨_, rfl⟩, _, _, rfl, rfl, rfl, ?_, fun wl n_wl => ?_⟩
    · rw [S_len]
      exact Nat.le_trans (show (frontL cs).length + 2 ≤ 1002 by omega) (by decide)
    rw [show Txt.split (S (frontL cs)) (Str.ofString ".") = (wordsL cs).map S from SX.split_S (b := [46]) (by decide) (by decide)]
    obtain ⟨H1, e_H1, s1, hw⟩ := new_any n_wl
    rw [← e_H1]
    clear e_H1
    have wm := spl_many (frontL cs) []
    have wm : (wordsL cs).length ≤ (frontL cs).length + 1 := wm
    have wlen : ∀ w ∈ wordsL cs, w.length ≤ 1000 := fun w h => Nat.le_trans (words_len h) lc
    have hrd : readB cs = (readW (wordsL cs)).map fun d => .tuple [d, .str (S (cs.drop ((frontL cs).length + 1)))] := by unfold readB; rw [if_pos h58]
    generalize wordsL cs = ws at hw wm wlen hrd
    dsimp only [gName, List.set]
    refine ⟨_, rfl, _, ws.length, rfl, .inl ⟨_, SqL.of hw, by rw [List.length_map, List.length_map]⟩, rfl, _, rfl, iteNI (fun c7 => ?_) (fun c7 => ?_)⟩
    · have er := kE (by rw [hrd, readW_len (by omega)]; rfl) _ s1
      first | exact err0_ok er | exact iteT (err0_ok er) | exact iteT (iteT (err0_ok er))
    obtain ⟨w0, w1, rest, rfl, l5⟩ : ∃ w0 w1 rest, ws = w0 :: w1 :: rest ∧ rest.length = 5 := by
      cases ws with
      | nil => exact absurd c7 (by decide)
      | cons w0 ws =>
        cases ws with
        | nil => exact absurd c7 (by rw [List.length_singleton]; decide)
        | cons w1 rest =>
          rw [List.length_cons, List.length_cons] at c7
          exact ⟨w0, w1, rest, rfl, by omega⟩
    have hw' : H1 wl = some (.lst (.str (S w0) :: .str (S w1) :: rest.map fun w => V.str (S w))) := by rw [hw, List.map_cons, List.map_cons, List.map_cons, List.map_cons, List.map_map]; rfl
    clear hw
    refine ⟨_, rfl, wl, _, _, _, rfl, rfl, SqL.of hw', atI_nat (j := 1) rfl, ?_⟩
    refine ⟨aK, _, rfl, .inr (hKIND _), rfl, kinds_flat, _, rfl, ?_⟩
    show if (!kindB w1) = true then _ else _
    by_cases hk : kindB w1 = true
    rotate_left
    · have hk : kindB w1 = false := by cases e : kindB w1 with
        | true => exact absurd e hk
        | false => rfl
      rw [hk]
      have er := kE (by
        rw [hrd]
        refine congrArg _ (a₂ := none) ?_
        show (if rest.length = 5 ∧ kindB w1 = true then _ else none) = _
        exact if_neg (fun z => by rw [hk] at z; cases z.2)) _ s1
      first | exact err0_ok er | exact iteT (err0_ok er) | exact iteT (iteT (err0_ok er))
    rw [hk]
    refine iteF ?_
    dsimp only [tNext]
    refine ⟨_, rfl, _, rfl, wl, _, rfl, SqL.of hw', fun l2 n_l2 => ?_⟩
    have ec : cutV (.str (S w0) :: .str (S w1) :: rest.map fun w => V.str (S w)) (some 2) none = rest.map fun w => V.str (S w) := by
      show cutL _ (some ((2 : Nat) : Int)) none = _
      rw [cutL_from]
      rfl
    rw [ec]
    obtain ⟨H2, e_H2, s2, hl2⟩ := new_any n_l2
    rw [← e_H2]
    clear e_H2
    have hrd2 : readB cs = (match allN rest, numB w0 with
      | some ns, some n0 => some (headD n0 w1 ns)
      | _, _ => none).map fun d => .tuple [d, .str (S (cs.drop ((frontL cs).length + 1)))] := by
      rw [hrd]
      refine congrArg _ ?_
      show (if rest.length = 5 ∧ kindB w1 = true then _ else none) = _
      exact if_pos ⟨l5, hk⟩
    have bad1 : ∀ w ∈ rest, numB w = none → readB cs = none := fun w hw e => by
      rw [hrd2, allN_none ⟨w, hw, e⟩]
      rfl
    refine ⟨l2, rfl, ⟨_, SqL.of hl2⟩, fun D n_D => ?_⟩
    refine lc_it (walk_list (K := K) (a := l2) (xs := rest.map fun w => V.str (S w))) (fun i H' => Same H2 H' ∧ H' D = some (.lst ((rest.take i).map fun w => V.int (((numB w).getD 0 : Nat) : Int))) ∧ ∀ w ∈ rest.take i, numB w ≠ none) ⟨(L2.Same.refl H2).new n_D, upd_same, fun w hw => by cases hw⟩ (fun i H' _ ⟨s', _⟩ => SqL.of (s' _ _ hl2)) ?_ ?_
    · rintro i x H3 H3' hi ⟨s3, hD3, ok3⟩ ⟨rfl, ex⟩
      have hil : i < rest.length := by rw [List.length_map] at hi; exact hi
      rw [List.getElem?_map, List.getElem?_eq_getElem hil] at ex
      have ex : x = .str (S rest[i]) := (Option.some.inj ex).symm
      subst ex
      have hm : rest[i] ∈ rest := List.getElem_mem hil
      have et : rest.take (i + 1) = rest.take i ++ [rest[i]] := List.take_succ_eq_append_getElem hil
      rw [et]
      generalize rest[i] = w at hm
      refine ⟨rfl, tYes_t (iteT ?_)⟩
      refine ⟨_, rfl, w, rfl, wlen w (List.mem_cons_of_mem _ (List.mem_cons_of_mem _ hm)), fun n e H4 s4 => ?_, fun e H4 s4 => kE (bad1 w hm e) _ (s1.trans (s2.trans (s3.trans s4)))⟩
      refine ⟨_, s4 _ _ hD3, ?_, fun c o ec => ?_, ?_, fun w' hw' => ?_⟩
      · rw [List.length_map, List.length_take]
        exact Nat.lt_of_le_of_lt (show min i rest.length ≤ 5 by omega) (by decide)
      · rw [upd_ne (fun z => by rw [z, n_D] at ec; cases ec)]
        exact s4 _ _ (s3 _ _ ec)
      · rw [upd_same, List.map_append, List.map_singleton, e]
        rfl
      · rcases List.mem_append.mp hw' with hw' | hw'
        · exact ok3 w' hw'
        · rw [List.mem_singleton.mp hw', e]
          exact fun z => by cases z
    rintro H3 ⟨s3, hD3, ok3⟩
    rw [List.length_map, List.take_length] at hD3 ok3
    obtain ⟨ns, ens, ens2⟩ := allN_some ok3
    have hD3 : H3 D = some (.lst (ns.map fun n : Nat => V.int (n : Int))) := by rw [hD3, ens2, List.map_map]; rfl
    have lns : ns.length = 5 := by rw [ens2, List.length_map, l5]
    clear ens2
    refine ⟨D, _, rfl, .inl ⟨SqL.of hD3, fun rt n_rt => ?_⟩⟩
    obtain ⟨H4, e_H4, s4, hrt⟩ := new_any n_rt
    rw [← e_H4]
    clear e_H4
    have s14 := s2.trans (s3.trans s4)
    dsimp only [gName, List.set]
    refine ⟨_, rfl, wl, _, _, _, rfl, rfl, SqL.of (s14 _ _ hw'), atI_nat (j := 0) rfl, w0, rfl, wlen w0 List.mem_cons_self, fun n0 e0 H5 s5 => ?_, fun e0 H5 s5 => kE (by rw [hrd2, ens, e0]; rfl) _ (s1.trans (s14.trans s5))⟩
    have hrd3 : readB cs = some (.tuple [headD n0 w1 ns, .str (S (cs.drop ((frontL cs).length + 1)))]) := by
      rw [hrd2, ens, e0]
      rfl
    refine ⟨_, rfl, wl, _, _, _, rfl, rfl, SqL.of (s5 _ _ (s14 _ _ hw')), atI_nat (j := 1) rfl, (by show 2 ≤ sizeLine; decide), fun t2 n_t2 => ?_⟩
    obtain ⟨H6, e_H6, s6, ht2⟩ := new_any n_t2
    rw [← e_H6]
    clear e_H6
    refine ⟨_, rfl, catA_sq (SqT.of ht2) (SqT.of (s6 _ _ (s5 _ _ hrt))) (by rw [List.length_map, lns]; show 2 + 5 ≤ 16000000; decide) (fun H7 t7 s7 ht7 => ?_)⟩
    refine ⟨_, rfl, _, rfl, _, _, rfl, rfl, _, rfl, _, rfl, hz, (by show 2 ≤ sizeLine; decide), fun tt ntt => ?_⟩
    have c2 : cutS (S cs) (some ((((frontL cs).length : Nat) : Int) + 1)) none = S (cs.drop ((frontL cs).length + 1)) := by
      rw [C8.cutS_slice]
      have e : S cs = S ((frontL cs ++ [58]) ++ q) := congrArg S (by rw [List.append_assoc]; exact eq1)
      rw [e, ← eq2]
      exact SX.from_app (frontL cs ++ [58]) q (by rw [List.length_append, List.length_singleton]; rfl)
    rw [c2]
    refine k _ hrd3 _ _ (((s1.trans s14).trans (s5.trans (s6.trans s7))).new ntt) (Rp.tup upd_same (RpL.cons ?_ (RpL.cons Rp.str RpL.nil)))
    refine Rp.tupS (SqT.tk ht7 (TK.of ((L2.Same.refl _).new ntt))) (RpL.cons Rp.int (RpL.cons Rp.str ?_))
    exact rpl_nats ns
end
end Wn

set_option maxHeartbeats 1600000
namespace Wn
open PySem L2
open SX (S S_len S_cat S_beq_eq join_S)
set_option pp.maxSteps 700
set_option pp.deepTerms false
local macro_rules | `(tactic| walk_at "h") => `(tactic| first | with_reducible assumption | (with_reducible exact upd_same) | (with_reducible apply g_upd; (walk_at "neq"); (walk_at "h")) | (with_reducible apply g_same; (with_reducible assumption); (walk_at "h")) | (with_reducible apply g_kp; (with_reducible assumption); (walk_at "nin"); (walk_at "h")) | (with_reducible apply g_tk; (with_reducible assumption); (walk_at "h")))
local macro_rules | `(tactic| walk_at "neq") => `(tactic| first | with_reducible assumption | (with_reducible apply Ne.symm; with_reducible assumption) | (with_reducible apply ne_upd; (with_reducible assumption)) | (with_reducible apply Ne.symm; with_reducible apply ne_upd; with_reducible assumption) | (with_reducible apply ne_fr; (with_reducible assumption); (walk_at "h")) | (with_reducible apply ne_fr'; (with_reducible assumption); (walk_at "h")) | (with_reducible apply ne_kd; (walk_at "h"); (walk_at "h"); (with_unfolding_all (intro z; cases z))))
local macro_rules | `(tactic| walk_at "nin") => `(tactic| first | (with_reducible exact nin0) | with_reducible assumption | (with_reducible apply ninc; (walk_at "neq"); (walk_at "nin")))
local macro_rules | `(tactic| walk_at "none") => `(tactic| first | with_reducible assumption | (with_reducible apply n_upd; (with_reducible assumption)) | (with_reducible apply n_same; (with_reducible assumption); (walk_at "none")) | (with_reducible apply n_kp; (with_reducible assumption); (walk_at "nin"); (walk_at "none")))
local macro_rules | `(tactic| walk_at "mem") => `(tactic| first | (with_reducible exact List.mem_cons_self) | (with_reducible apply List.mem_cons_of_mem; (walk_at "mem")))
local macro_rules | `(tactic| walk_at "am") => `(tactic| first | (with_reducible exact am0) | (with_reducible apply am1; (first | (apply Or.inl; walk_at "mem") | (apply Or.inr; walk_at "none")); (walk_at "am")))
local macro_rules | `(tactic| walk_at "tk") => `(tactic| first | (with_reducible exact TK.refl _) | with_reducible assumption | (with_reducible apply t_tk; (with_reducible assumption); (walk_at "tk")) | (with_reducible apply t_same; (with_reducible assumption); (walk_at "tk")) | (with_reducible apply t_new; (with_reducible assumption); (walk_at "tk")) | (with_reducible apply t_wr; (walk_at "h"); (with_unfolding_all rfl); (walk_at "tk")))
local macro_rules | `(tactic| walk_at "same") => `(tactic| first | (with_reducible exact L2.Same.refl _) | with_reducible assumption | (with_reducible apply s_same; (with_reducible assumption); (walk_at "same")) | (with_reducible apply s_new; (with_reducible assumption); (walk_at "same")) | (with_reducible apply s_wrn; (walk_at "none"); (walk_at "same")))
local macro_rules | `(tactic| walk_at "kp") => `(tactic| first | (with_reducible exact Kp.refl _ _) | with_reducible assumption | (with_reducible apply k_same; (with_reducible assumption); (walk_at "kp")) | (with_reducible apply k_kp; (with_reducible assumption); (walk_at "kp")) | (with_reducible apply k_kpm; (with_reducible assumption); (walk_at "am"); (walk_at "kp")) | (with_reducible apply k_new; (with_reducible assumption); (walk_at "kp")) | (with_reducible apply k_wr; (walk_at "mem"); (walk_at "kp")) | (with_reducible apply k_wrn; (walk_at "none"); (walk_at "kp")))
local macro_rules | `(tactic| walk_at "rp") => `(tactic| first | with_reducible assumption | (with_reducible exact Rp.int) | (with_reducible exact Rp.str) | (with_reducible exact Rp.none) | (with_reducible exact Rp.bool) | (with_reducible apply Rp.tk'; (with_reducible assumption); (walk_at "tk")) | (with_reducible apply Rp.tup; (walk_at "h"); (walk_at "rpl")))
local macro_rules | `(tactic| walk_at "rpl") => `(tactic| first | with_reducible assumption | (with_reducible exact RpL.nil) | (with_reducible apply RpL.tk'; (with_reducible assumption); (walk_at "tk")) | (with_reducible apply RpL.cons; (walk_at "rp"); (walk_at "rpl")))
local macro_rules | `(tactic| walk_at "g") => `(tactic| repeat (first | refine ⟨_, rfl, ?_⟩ | refine ⟨_, _, rfl, rfl, ?_⟩ | refine ⟨rfl, _, rfl, ?_⟩ | refine ⟨_, _, rfl, rfl, (by first | decide | omega), ?_⟩))
abbrev sIsHead : Stmt := top 13
def kindD : PyData → Bool
  | .str z => inV (.str z) kindsV
  | _ => false
def headB : List PyData → Bool
  | d0 :: d1 :: rest => decide (rest.length = 5) && kindD d1 && (d0 :: rest).all fun d => fromD d 0 1000000
  | _ => false
theorem headB_len {ds : List PyData} (h : ds.length ≠ 7) : headB ds = false := by
  cases ds with
  | nil => rfl
  | cons d0 ds =>
    cases ds with
    | nil => rfl
    | cons d1 rest =>
      show (decide (rest.length = 5) && kindD d1 && _) = false
      rw [decide_eq_false (fun z => h (by rw [List.length_cons, List.length_cons, z]))]
      rfl
def isHeadD : PyData → Bool
  | .tuple ds => headB ds
  | _ => false
theorem isHeadD_ty {d : PyData} (h : tyN d ≠ "tuple") : isHeadD d = false := by
  cases d with
  | tuple b => exact absurd rfl h
  | _ => rfl
theorem kindD_ty {d : PyData} (h : tyN d ≠ "str") : kindD d = false := by
  cases d with
  | str b => exact absurd rfl h
  | _ => rfl
def spIsHeadK (K : PySem.W.Frag) : Sp := fun vs H Q _ => ∃ (v : V) (d : PyData), vs = [v] ∧ Dk K H v d ∧ ∀ H', Same H H' → Q (.bl (isHeadD d)) H'

section
variable {P : Program} {w : World} {K : PySem.W.Frag} {mg : Str → Option Value} {base : Heap}
theorem scIsHead : FnScope ["thing", "number"] ["thing"] (defScope sIsHead) := ⟨rfl, rfl, rfl, by decide +kernel, rfl, by decide +kernel, by decide +kernel⟩
theorem ok_isheadK {f : Addr} {fd : FuncData} (F : Fun K "is_head" "is_head" sIsHead f fd) (B : HB K mg) (cF : Cd P w K mg base 2 "is_from" ["thing", "low", "high"] (spFromK K)) : FnOk P w K mg base CX0 3 f fd ["thing"] (spIsHeadK K) := by
  obtain ⟨fF, fdF, GF, mF, kF, bF⟩ := cF
  obtain ⟨_, mMANY⟩ := B.many
  obtain ⟨_, mGREAT⟩ := B.great
  obtain ⟨aK, mKIND, hKIND⟩ := B.kinds
  refine F.ok scIsHead (fun vs H Q E h => ?_) (fun cdv A outer s H vs Q E hr h => ?_)
  · obtain ⟨v, d, rfl, _⟩ := h
    rfl
  · obtain ⟨v, d, rfl, hd, k⟩ := h
    have hr2 : Room 2 _ := hr
    refine ⟨_, (pss_cons (ps_if (PW.pt (pw_or (pt_not (pt_val (pe_callB (isiK (K := K) rfl) (by rfl) B.isinstance (by decide +kernel) (pa_cons (pv 0) (pa_cons (pe_bltn (v := .ty "tuple") (by rfl) B.tuple PyProof.Rows.boot_tuple rfl) pa_nil))))) (pw_or1 (pt_cmpR op_ne (pe_callB (lenK (K := K) rfl) (by rfl) B.len PySem.boot_len (pa_cons (pv 0) pa_nil)) (pe_glob (v := .int 7) (by rfl) mMANY ⟨_, rfl⟩) (nomark _)))))
       (pss_one (ps_ret pe_bl))
       pss_nil)
       (pss_cons (ps_if (PW.pt (pw_or (pt_not (pt_val (pe_callB (isiK (K := K) rfl) (by rfl) B.isinstance (by decide +kernel) (pa_cons (pe_ix (ixT (K := K) rfl) (pv 0) pe_int (fun _ _ => rfl)) (pa_cons (pe_bltn (v := .ty "str") (by rfl) B.str PyProof.Rows.boot_str rfl) pa_nil))))) (pw_or1 (pt_cmpR (notInSeqK (K := K) rfl) (pe_ix (ixT (K := K) rfl) (pv 0) pe_int (fun _ _ => rfl)) (pe_glob (v := .ref aK) (by rfl) mKIND rfl) (by rfl)))))
       (pss_one (ps_ret pe_bl))
       pss_nil)
       (pss_one (ps_ret (pe_callB (crAllK (K := K) rfl rfl) (by rfl) B.all (by decide +kernel) (pa_cons (pe_lc (own := [("number", 1)]) (g := (gName 1)) (tt := tYes) rfl scIsHead.nd (pi_tup (pe_op (opCatT (K := K) rfl) (pe_slice (slT (K := K) rfl) (pv 0) po_none (po_some pe_int)) (pe_slice (slT (K := K) rfl) (pv 0) (po_some pe_int) po_none))) (blkOk_by (N := ["thing", "number"]) (sc := defScope sIsHead) (by decide +kernel))
       (fun _ _ _ _ _ => (pg_name (i := 1) scIsHead.nd rfl (Or.inl rfl))) (fun _ _ _ _ _ => pts_nil) (fun _ _ _ _ _ => (pe_call GF hr2 rfl mF kF bF .nil pass0 (pa_cons (pv 1) (pa_cons pe_int (pa_cons (pe_glob (v := .int 1000000) (by rfl) mGREAT ⟨_, rfl⟩) pa_nil)))))) pa_nil)))))), ?_⟩
    refine ⟨_, rfl, _, _, _, _, _, rfl, .ty _, hd.ty, kit_tuple d, _, rfl, ?_⟩
    by_cases ts : tyN d = "tuple"
    rotate_left
    · rw [decide_eq_false ts]
      refine iteT ?_
      have := k H (L2.Same.refl _)
      rw [isHeadD_ty ts] at this
      exact this
    rw [decide_eq_true ts]
    refine iteF ?_
    obtain ⟨ds, rfl⟩ : ∃ ds, d = .tuple ds := by
      cases d with
      | tuple b => exact ⟨b, rfl⟩
      | none => exact absurd ts (by decide)
      | bool b => exact absurd ts (show ¬ ("bool" : String) = "tuple" by decide)
      | int b => exact absurd ts (show ¬ ("int" : String) = "tuple" by decide)
      | str b => exact absurd ts (show ¬ ("str" : String) = "tuple" by decide)
      | list b => exact absurd ts (show ¬ ("list" : String) = "tuple" by decide)
      | dict b => exact absurd ts (show ¬ ("dict" : String) = "tuple" by decide)
    obtain ⟨a, xs, rfl, ha, hx⟩ := hd.inv_tup
    have k : ∀ H', Same H H' → Q (.bl (headB ds)) H' := k
    refine ⟨_, rfl, _, xs.length, rfl, .inr ⟨_, ha, rfl⟩, rfl, _, rfl, iteNI (fun c7 => ?_) (fun c7 => ?_)⟩
    · have := k H (L2.Same.refl _)
      rw [headB_len (by rw [← hx.len]; omega)] at this
      exact this
    obtain ⟨v0, v1, vr, d0, d1, dr, rfl, rfl, h0, h1, hr', l5⟩ : ∃ v0 v1 vr d0 d1 dr, xs = v0 :: v1 :: vr ∧ ds = d0 :: d1 :: dr ∧ Dk K H v0 d0 ∧ Dk K H v1 d1 ∧ DkAll K H vr dr ∧ vr.length = 5 := by
      cases hx with
      | nil => exact absurd c7 (by decide)
      | cons h0 hx =>
        cases hx with
        | nil => exact absurd c7 (by rw [List.length_singleton]; decide)
        | cons h1 hx =>
          rw [List.length_cons, List.length_cons] at c7
          exact ⟨_, _, _, _, _, _, rfl, rfl, h0, h1, hx, by omega⟩
    have d5 : dr.length = 5 := by rw [← hr'.len, l5]
    have eh : headB (d0 :: d1 :: dr) = (kindD d1 && (d0 :: dr).all fun d => fromD d 0 1000000) := by
      show (decide (dr.length = 5) && kindD d1 && _) = _
      rw [decide_eq_true d5, Bool.true_and]
    rw [eh] at k
    clear eh
    refine ⟨_, rfl, a, _, _, _, rfl, rfl, ha, atI_nat (j := 1) rfl, _, _, _, _, _, rfl, .ty _, h1.ty, kit_str d1, _, rfl, ?_⟩
    by_cases t1 : tyN d1 = "str"
    rotate_left
    · rw [decide_eq_false t1]
      refine iteT ?_
      have := k H (L2.Same.refl _)
      rw [kindD_ty t1, Bool.false_and] at this
      exact this
    rw [decide_eq_true t1]
    refine iteF ?_
    obtain ⟨z, rfl⟩ : ∃ z, d1 = .str z := by
      cases d1 with
      | str b => exact ⟨b, rfl⟩
      | none => exact absurd t1 (by decide)
      | bool b => exact absurd t1 (show ¬ ("bool" : String) = "str" by decide)
      | int b => exact absurd t1 (show ¬ ("int" : String) = "str" by decide)
      | tuple b => exact absurd t1 (show ¬ ("tuple" : String) = "str" by decide)
      | list b => exact absurd t1 (show ¬ ("list" : String) = "str" by decide)
      | dict b => exact absurd t1 (show ¬ ("dict" : String) = "str" by decide)
    obtain rfl := h1.inv_str
    refine ⟨_, rfl, a, _, _, _, rfl, rfl, ha, atI_nat (j := 1) rfl, aK, _, rfl, .inr (hKIND _), rfl, kinds_flat, _, rfl, ?_⟩
    have k : ∀ H', Same H H' → Q (.bl (inV (.str z) kindsV && (d0 :: dr).all fun d => fromD d 0 1000000)) H' := k
    show if (!inV (.str z) kindsV) = true then _ else _
    cases hk : inV (.str z) kindsV with
    | false =>
      rw [hk] at k
      exact k H (L2.Same.refl _)
    | true =>
    rw [hk] at k
    have k : ∀ H', Same H H' → Q (.bl ((d0 :: dr).all fun d => fromD d 0 1000000)) H' := k
    refine iteF ?_
    have le7 : (v0 :: V.str z :: vr).length = 7 := by rw [List.length_cons, List.length_cons, l5]
    have e1 : cutV (v0 :: .str z :: vr) none (some 1) = [v0] := by
      show cutL _ none (some ((1 : Nat) : Int)) = _
      rw [cutL_to]
      rfl
    have e2 : cutV (v0 :: .str z :: vr) (some 2) none = vr := by
      show cutL _ (some ((2 : Nat) : Int)) none = _
      rw [cutL_from]
      rfl
    refine ⟨_, rfl, _, rfl, a, _, rfl, ha, (by rw [le7]; show ¬ (HT.sIx 7 0 none = 0 ∧ HT.sIx 7 7 (some 1) = 7); decide +kernel), fun t1 n_t1 => ?_⟩
    rw [e1]
    obtain ⟨H1, e_H1, s1, ht1⟩ := new_any n_t1
    rw [← e_H1]
    clear e_H1
    refine ⟨_, rfl, _, rfl, a, _, rfl, SqT.tk ha (TK.of s1), (by rw [le7]; show ¬ (HT.sIx 7 0 (some 2) = 0 ∧ HT.sIx 7 7 none = 7); decide +kernel), fun t2 n_t2 => ?_⟩
    rw [e2]
    obtain ⟨H2, e_H2, s2, ht2⟩ := new_any n_t2
    rw [← e_H2]
    clear e_H2
    refine ⟨t1, t2, _, _, rfl, rfl, SqT.of (s2 _ _ ht1), SqT.of ht2, (fun z => by cases z), (by rw [l5]; show 1 + 5 ≤ sizeLine; decide), (fun z => by rw [z] at l5; cases l5), fun _ t3 n_t3 => ?_⟩
    obtain ⟨H3, e_H3, s3, ht3⟩ := new_any n_t3
    rw [← e_H3]
    clear e_H3
    have s13 := s1.trans (s2.trans s3)
    have hn : DkAll K H (v0 :: vr) (d0 :: dr) := .cons h0 hr'
    have ht3 : H3 t3 = some (.tup (v0 :: vr)) := ht3
    have l6 : (v0 :: vr).length = 6 := by rw [List.length_cons, l5]
    generalize v0 :: vr = ns at hn ht3 l6
    generalize d0 :: dr = es at hn k
    have le : es.length = 6 := by rw [← hn.len, l6]
    refine ⟨t3, rfl, ⟨_, SqT.of ht3⟩, fun D n_D => ?_⟩
    refine lc_it (walk_tup (K := K) (a := t3) (xs := ns)) (fun i H' => Same H3 H' ∧ H' D = some (.lst ((es.take i).map fun d => V.bl (fromD d 0 1000000)))) ⟨(L2.Same.refl H3).new n_D, upd_same⟩ (fun i H' _ ⟨s', _⟩ => SqT.of (s' _ _ ht3)) ?_ ?_
    · rintro i x H4 H4' hi ⟨s4, hD4⟩ ⟨rfl, ex⟩
      obtain ⟨d, ed, hd⟩ := hn.getV ex
      have hil : i < es.length := by omega
      have em : es[i] = d := by rw [List.getElem?_eq_getElem hil] at ed; exact Option.some.inj ed
      have et : es.take (i + 1) = es.take i ++ [d] := by rw [List.take_succ_eq_append_getElem hil, em]
      rw [et]
      refine ⟨rfl, tYes_t (iteT ?_)⟩
      refine ⟨_, rfl, x, d, 0, 1000000, rfl, Dk.sm (s13.trans s4) hd, ?_⟩
      refine ⟨_, hD4, ?_, fun c o ec => ?_, ?_⟩
      · rw [List.length_map, List.length_take]
        exact Nat.lt_of_le_of_lt (show min i es.length ≤ 6 by omega) (by decide)
      · rw [upd_ne (fun z => by rw [z, n_D] at ec; cases ec)]
        exact s4 _ _ ec
      · rw [upd_same, List.map_append, List.map_singleton]
    rintro H4 ⟨s4, hD4⟩
    rw [show es.take ns.length = es by rw [l6, ← le, List.take_length]] at hD4
    refine ⟨D, es.map fun d => fromD d 0 1000000, rfl, by rw [List.map_map]; exact SqL.of hD4, ?_⟩
    rw [List.all_map]
    exact k _ (s13.trans s4)
end
end Wn

namespace Wn
open PySem L2
open SX (S S_len S_cat S_beq_eq join_S)
abbrev sPick : Stmt := top 20
abbrev sCount : Stmt := top 22
abbrev sHead : Stmt := top 23
abbrev sLWritten : Stmt := top 26
structure LB (mg : Str → Option Value) : Prop where
  len : mg "len" = none
  range : mg "range" = none
  tuple : mg "tuple" = none
  int : mg "int" = none
  str : mg "str" = none
  enumerate : mg "enumerate" = none

def spWritten (K : PySem.W.Frag) : Sp := fun vs H Q _ => ∃ (h : Hd) (v : V) (cs : List Nat), vs = [v, .str (S cs)] ∧ Rp K H h.D v ∧ h.Ok ∧ cs.length ≤ 1000000 ∧ ∀ H', Same H H' → Q (.str (S (h.wr cs))) H'
def spPick (K : PySem.W.Frag) : Sp := fun vs H Q _ => ∃ (d f l : Addr) (n : Int) (xs : List V), vs = [.ref d, .ref l] ∧ Deck H d f n ∧ n < 2 ^ 60 ∧ H l = some (.lst xs) ∧ l ≠ d ∧ 0 < xs.length ∧ xs.length ≤ 1000 ∧
  ∀ (H' : Hp) (x : V), x ∈ xs → Kp [d] H H' → Deck H' d f (n + 1) → Q x H'
def spCount : Sp := fun vs H Q _ => ∃ (d f : Addr) (n : Int), vs = [.ref d] ∧ Deck H d f n ∧ n < 2 ^ 59 ∧
  ∀ (H' : Hp) (c : Nat), c ≤ 1000000 → Kp [d] H H' → Deck H' d f (n + 2) → Q (.int (c : Int)) H'
def spHead (K : PySem.W.Frag) : Sp := fun vs H Q _ => ∃ (d f : Addr) (n : Int), vs = [.ref d] ∧ Deck H d f n ∧ n < 2 ^ 58 ∧
  ∀ (H' : Hp) (h : Hd) (v : V), h.Ok → Kp [d] H H' → Deck H' d f (n + 20) → Rp K H' h.D v → Q v H'
theorem at4i {a b c d : Int} {r : Int} (h0 : 0 ≤ r) (h1 : r < 4) : ∃ v : Int, atI [V.int a, .int b, .int c, .int d] r = some (.int v) ∧ (v = a ∨ v = b ∨ v = c ∨ v = d) := by
  have h : r = 0 ∨ r = 1 ∨ r = 2 ∨ r = 3 := by omega
  rcases h with rfl | rfl | rfl | rfl
  · exact ⟨a, rfl, .inl rfl⟩
  · exact ⟨b, rfl, .inr (.inl rfl)⟩
  · exact ⟨c, rfl, .inr (.inr (.inl rfl))⟩
  · exact ⟨d, rfl, .inr (.inr (.inr rfl))⟩
theorem joinL_snoc (sep x : List Nat) : ∀ l : List (List Nat), l ≠ [] → TL.joinL sep (l ++ [x]) = TL.joinL sep l ++ (sep ++ x)
  | [], h => (h rfl).elim
  | [p], _ => rfl
  | p :: q :: r, _ => by
    show p ++ (sep ++ TL.joinL sep (q :: r ++ [x])) = (p ++ (sep ++ TL.joinL sep (q :: r))) ++ (sep ++ x)
    rw [joinL_snoc sep x (q :: r) (by simp)]
    simp
theorem head_part {h : Hd} {i : Nat} (hi : i < 7) (p : HP) (hp : h.L[i]? = some p) : TL.joinL [46] ((h.L.take (i + 1)).map HP.txt) = TL.joinL [46] ((h.L.take i).map HP.txt) ++ ((if i = 0 then [] else [46]) ++ p.txt) := by
  have hlt : i < h.L.length := hi
  have e := (List.getElem?_eq_some_iff.mp hp).2
  rw [List.take_succ_eq_append_getElem hlt, List.map_append, e]
  by_cases h0 : i = 0
  · subst h0
    rfl
  · rw [if_neg h0]
    refine joinL_snoc [46] p.txt _ fun z => ?_
    have z1 := congrArg List.length z
    rw [List.length_map, List.length_take, List.length_nil] at z1
    omega
theorem part_len {h : Hd} (ok : h.Ok) : ∀ i, (TL.joinL [46] ((h.L.take i).map HP.txt)).length ≤ 8 * i := by
  intro i
  induction i with
  | zero => simp [TL.joinL]
  | succ i ih =>
    by_cases hi : i < 7
    · have hlt : i < h.L.length := hi
      rw [head_part hi _ (List.getElem?_eq_getElem hlt), List.length_append, List.length_append]
      have h1 : (h.L[i]).txt.length ≤ 7 := by
        have hm := List.getElem_mem hlt
        generalize h.L[i] = p at hm
        cases p with
        | num n => exact num_len7 (num_le ok hm)
        | word c => show 1 ≤ 7; decide
      have h2 : (if i = 0 then ([] : List Nat) else [46]).length ≤ 1 := by split <;> simp
      omega
    · have : h.L.take (i + 1) = h.L.take i := by
        rw [List.take_of_length_le (show h.L.length ≤ i + 1 by show 7 ≤ _; omega), List.take_of_length_le (show h.L.length ≤ i by show 7 ≤ _; omega)]
      rw [this]
      omega
section
variable {P : Program} {w : World} {K : PySem.W.Frag} {mg : Str → Option Value} {base : Heap}
theorem scPick : FnScope ["_law_deck_here", "_law_things"] ["_law_deck_here", "_law_things"] (defScope sPick) := ⟨rfl, rfl, rfl, by decide +kernel, rfl, by decide +kernel, by decide +kernel⟩
theorem ok_pick {f : Addr} {fd : FuncData} (F : Fun K "_law_pick" "_law_pick" sPick f fd) (B : LB mg) (cN : Cd P w K mg base 2 "_law_next" ["_law_deck_here", "_law_many"] spNext) : FnOk P w K mg base CX0 3 f fd ["_law_deck_here", "_law_things"] (spPick K) := by
  obtain ⟨fN, fdN, GN, mN, kN, bN⟩ := cN
  refine F.ok scPick (fun vs H Q E h => ?_) (fun cdv A outer s H vs Q E hr h => ?_)
  · obtain ⟨d, f, l, n, xs, rfl, _⟩ := h
    rfl
  · obtain ⟨d, f, l, n, xs, rfl, D0, hn, hl, nld, x0, x1, k⟩ := h
    have hr2 : Room 2 _ := hr
    refine ⟨_, (pss_one (ps_ret (pe_ix (ixL (K := K) rfl) (pv 1) (pe_call GN hr2 rfl mN kN bN .nil pass0 (pa_cons (pv 0) (pa_cons (pe_callB (lenK (K := K) rfl) (by rfl) B.len PySem.boot_len (pa_cons (pv 1) pa_nil)) pa_nil))) (fun _ _ => rfl)))), ?_⟩
    refine ⟨_, rfl, _, rfl, _, rfl, _, xs.length, rfl, .inl ⟨_, SqL.of hl, rfl⟩, d, f, (xs.length : Int), n, rfl, by omega, hn, D0, fun r H1 r0 r1 k1 D1 => ?_⟩
    have hj : r.toNat < xs.length := by omega
    refine ⟨l, xs, r, xs[r.toNat], rfl, rfl, SqL.of (k1 _ _ (nin1 nld) hl), ?_, k _ _ (List.getElem_mem hj) k1 D1⟩
    have := atI_nat (xs := xs) (j := r.toNat) (v := xs[r.toNat]) (by simp [hj])
    rw [show ((r.toNat : Nat) : Int) = r by omega] at this
    exact this
theorem scCount : FnScope ["_law_deck_here", "_law_way"] ["_law_deck_here"] (defScope sCount) := ⟨rfl, rfl, rfl, by decide +kernel, rfl, by decide +kernel, by decide +kernel⟩
theorem ok_count {f : Addr} {fd : FuncData} (F : Fun K "_law_count" "_law_count" sCount f fd) (B : LB mg) (cN : Cd P w K mg base 2 "_law_next" ["_law_deck_here", "_law_many"] spNext) : FnOk P w K mg base CX0 3 f fd ["_law_deck_here"] spCount := by
  obtain ⟨fN, fdN, GN, mN, kN, bN⟩ := cN
  refine F.ok scCount (fun vs H Q E h => ?_) (fun cdv A outer s H vs Q E hr h => ?_)
  · obtain ⟨d, f, n, rfl, _⟩ := h
    rfl
  · obtain ⟨d, f, n, rfl, D0, hn, k⟩ := h
    have hr2 : Room 2 _ := hr
    refine ⟨_, (pss_cons (ps_set (i := 1) scCount.nd rfl (Or.inl rfl) (pe_call GN hr2 rfl mN kN bN .nil pass0 (pa_cons (pv 0) (pa_cons pe_int pa_nil))))
       (pss_cons (ps_if (pt_cmpR op_lt (pv 1) pe_int (nomark _))
       (pss_one (ps_ret (pe_ix (ixL (K := K) rfl) (pe_lst (pa_cons pe_int (pa_cons (pe_op op_pow pe_int pe_int) pa_nil))) (pv 1) (fun _ _ => rfl))))
       pss_nil)
       (pss_one (ps_ret (pe_call GN hr2 rfl mN kN bN .nil pass0 (pa_cons (pv 0) (pa_cons (pe_ix (ixL (K := K) rfl) (pe_lst (pa_cons pe_int (pa_cons pe_int (pa_cons pe_int (pa_cons (pe_op op_pow pe_int pe_int) pa_nil))))) (pe_op op_sub (pv 1) pe_int) (fun _ _ => rfl)) pa_nil))))))), ?_⟩
    refine ⟨_, rfl, d, f, 6, n, rfl, by decide, by omega, D0, fun r H1 r0 r1 k1 D1 => ?_⟩
    refine ⟨_, rfl, _, _, rfl, rfl, _, rfl, ?_⟩
    have e6 : (fun i j : Int => V.int (i ^ j.toNat)) 10 6 = V.int 1000000 := by decide +kernel
    refine ite2 (fun h => ?_) (fun h => ?_)
    · have h := of_decide_eq_true h
      refine ⟨_, _, rfl, rfl, ⟨by decide, by decide, by decide⟩, ?_⟩
      rw [e6]
      refine ⟨(by show 2 ≤ sizeLine; decide), fun l nl => ?_⟩
      obtain ⟨v, hv, hv2⟩ : ∃ v : Nat, atI [V.int 0, .int 1000000] r = some (.int (v : Int)) ∧ v ≤ 1000000 := by
        have h : r = 0 ∨ r = 1 := by omega
        rcases h with rfl | rfl
        · exact ⟨0, rfl, by decide⟩
        · exact ⟨1000000, rfl, by decide⟩
      refine ⟨_, rfl, l, _, _, _, rfl, rfl, SqL.of upd_same, hv, k _ v hv2 (k1.new nl) ((D1.same ((L2.Same.refl _).new nl)).mono (by omega))⟩
    · have h : ¬ r < 2 := fun z => h (decide_eq_true z)
      refine ⟨_, rfl, _, _, rfl, rfl, ⟨by decide, by decide, by decide⟩, ?_⟩
      rw [e6]
      refine ⟨(by show 4 ≤ sizeLine; decide), fun l nl => ?_⟩
      have s2 : Same H1 (upd H1 l (.lst [.int 10, .int 100, .int 1000, .int 1000000])) := (L2.Same.refl _).new nl
      have hl : upd H1 l (.lst [.int 10, .int 100, .int 1000, .int 1000000]) l = some (.lst [.int 10, .int 100, .int 1000, .int 1000000]) := upd_same
      generalize upd H1 l (.lst [.int 10, .int 100, .int 1000, .int 1000000]) = H2 at s2 hl
      obtain ⟨v, hv, hv2⟩ := at4i (a := 10) (b := 100) (c := 1000) (d := 1000000) (r := r - 2) (by omega) (by omega)
      refine ⟨_, rfl, _, _, rfl, rfl, l, _, _, _, rfl, rfl, SqL.of hl, hv, ?_⟩
      refine ⟨d, f, v, n + 1, rfl, by omega, by omega, D1.same s2, fun z H3 z0 z1 k3 D3 => ?_⟩
      obtain ⟨c, rfl⟩ : ∃ c : Nat, z = (c : Int) := ⟨z.toNat, by omega⟩
      exact k _ c (by omega) ((k1.trans (Kp.of s2)).trans k3) (D3.mono (by omega))
theorem scHead : FnScope ["_law_deck_here", "_law_kind", "_law_k"] ["_law_deck_here"] (defScope sHead) := ⟨rfl, rfl, rfl, by decide +kernel, rfl, by decide +kernel, by decide +kernel⟩
theorem ok_head {f : Addr} {fd : FuncData} (F : Fun K "_law_head" "_law_head" sHead f fd) (B : LB mg) (cP : Cd P w K mg base 3 "_law_pick" ["_law_deck_here", "_law_things"] (spPick K)) (cC : Cd P w K mg base 3 "_law_count" ["_law_deck_here"] spCount) : FnOk P w K mg base CX0 4 f fd ["_law_deck_here"] (spHead K) := by
  obtain ⟨fP, fdP, GP, mP, kP, bP⟩ := cP
  obtain ⟨fC, fdC, GC, mC, kC, bC⟩ := cC
  refine F.ok scHead (fun vs H Q E h => ?_) (fun cdv A outer s H vs Q E hr h => ?_)
  · obtain ⟨d, f, n, rfl, _⟩ := h
    rfl
  · obtain ⟨d, f, n, rfl, D0, hn, k⟩ := h
    have hr3 : Room 3 _ := hr
    refine ⟨_, (pss_cons (ps_set (i := 1) scHead.nd rfl (Or.inl rfl) (pe_call GP hr3 rfl mP kP bP .nil pass0 (pa_cons (pv 0) (pa_cons (pe_lst (pa_cons pe_str (pa_cons pe_str (pa_cons pe_str (pa_cons pe_str (pa_cons pe_str (pa_cons pe_str pa_nil))))))) pa_nil))))
       (pss_one (ps_ret (pe_op (opCatT (K := K) rfl) (pe_tup (pa_cons (pe_call GC hr3 rfl mC kC bC .nil pass0 (pa_cons (pv 0) pa_nil)) (pa_cons (pv 1) pa_nil))) (pe_callTy (tupOfK (K := K) rfl) (by rfl) B.tuple PyProof.Rows.boot_tuple (pa_cons (pe_lc (own := [("_law_k", 2)]) (g := (gName 2)) (tt := tYes) rfl scHead.nd (pi_range1 rfl B.range (pa_cons pe_int pa_nil)) (blkOk_by (N := ["_law_deck_here", "_law_kind", "_law_k"]) (sc := defScope sHead) (by decide +kernel))
       (fun _ _ _ _ _ => (pg_name (i := 2) scHead.nd rfl (Or.inl rfl))) (fun _ _ _ _ _ => pts_nil) (fun _ _ _ _ _ => (pe_call GC hr3 rfl mC kC bC .nil pass0 (pa_cons (pv 0) pa_nil)))) pa_nil)))))), ?_⟩
    refine ⟨_, rfl, (by show 6 ≤ sizeLine; decide), fun l nl => ?_⟩
    have s1 : Same H (upd H l (.lst kindsV)) := (L2.Same.refl _).new nl
    have hl : upd H l (.lst kindsV) l = some (.lst kindsV) := upd_same
    have nld : l ≠ d := (ne_of_none D0.lst.choose_spec nl).symm
    rw [show ([.str (Str.ofString "l"), .str (Str.ofString "u"), .str (Str.ofString "a"), .str (Str.ofString "f"), .str (Str.ofString "h"), .str (Str.ofString "t")] : List V) = kindsV from rfl]
    generalize upd H l (.lst kindsV) = H1 at s1 hl
    refine ⟨d, f, l, n, _, rfl, D0.same s1, by omega, hl, nld, by decide, by decide, fun H2 x hx k2 D2 => ?_⟩
    obtain ⟨kd, hkd, rfl⟩ : ∃ kd, kd ∈ kindsL ∧ V.str (S [kd]) = x := by
      obtain ⟨c, h1, h2⟩ := List.mem_map.mp hx
      exact ⟨c, h1, h2⟩
    refine ⟨_, rfl, d, f, n + 1, rfl, D2, by omega, fun H3 r hr' k3 D3 => ?_⟩
    refine ⟨_, rfl, (by show 2 ≤ sizeLine; decide), fun t1 nt1 => ?_⟩
    have s4 : Same H3 (upd H3 t1 (.tup [.int (r : Int), .str (S [kd])])) := (L2.Same.refl _).new nt1
    have ht1 : upd H3 t1 (.tup [.int (r : Int), .str (S [kd])]) t1 = some (.tup [.int (r : Int), .str (S [kd])]) := upd_same
    have nt1d : t1 ≠ d := (ne_of_none D3.lst.choose_spec nt1).symm
    generalize upd H3 t1 (.tup [.int (r : Int), .str (S [kd])]) = H4 at s4 ht1
    refine ⟨5, rfl, by decide, by decide, fun D hD => ?_⟩
    have D4 := D3.same s4
    have nDd : D ≠ d := (ne_of_none D4.lst.choose_spec hD).symm
    have nDf : f ≠ D := ne_of_none D4.lst2.choose_spec hD
    have s5 : Same H4 (upd H4 D (.lst [])) := (L2.Same.refl _).new hD
    refine lc_range (lo := 0) (n := 5) (fun j H' => ∃ cs : List Nat, H' D = some (.lst (cs.map fun (c : Nat) => V.int (c : Int))) ∧ cs.length = j ∧ (∀ c ∈ cs, c ≤ 1000000) ∧ Kp [d] H4 H' ∧ Deck H' d f (n + 3 + 2 * j)) ⟨[], upd_same, rfl, (by intro c hc; cases hc), Kp.of s5, (D4.same s5).mono (by omega)⟩ ?_ ?_
    · rintro j H5 hj ⟨cs, hD5, lc, oc, k5, D5⟩
      refine ⟨rfl, _, rfl, d, f, n + 3 + 2 * j, rfl, D5, by omega, fun H6 c hc k6 D6 => ?_⟩
      have hD6 := k6 _ _ (nin1 nDd) hD5
      refine ⟨_, hD6, ?_, cs ++ [c], ?_, by rw [List.length_append, lc]; rfl, ?_, (k5.trans k6).wrn hD, ?_⟩
      · rw [List.length_map, lc]
        exact Nat.lt_of_le_of_lt (show j ≤ 5 by omega) (by decide)
      · rw [upd_same, List.map_append]
        rfl
      · intro c' hc'
        rcases List.mem_append.mp hc' with h | h
        · exact oc _ h
        · rw [List.mem_singleton.mp h]
          exact hc
      · exact (D6.kp (M := [D]) ((Kp.refl _ _).wr (List.mem_singleton.mpr rfl)) (nin1 nDd.symm) (nin1 nDf)).mono (by omega)
    · rintro H5 ⟨cs, hD5, lc, oc, k5, D5⟩
      obtain ⟨a, b, c, e, g, rfl⟩ : ∃ a b c e g, cs = [a, b, c, e, g] := by
        match cs, lc with
        | [a, b, c, e, g], _ => exact ⟨a, b, c, e, g, rfl⟩
      refine ⟨D, _, rfl, .inl ⟨SqL.of hD5, fun t2 nt2 => ?_⟩⟩
      have s6 : Same H5 (upd H5 t2 (.tup ([a, b, c, e, g].map fun c : Nat => V.int (c : Int)))) := (L2.Same.refl _).new nt2
      have ht2 : upd H5 t2 (.tup ([a, b, c, e, g].map fun c : Nat => V.int (c : Int))) t2 = some (.tup ([a, b, c, e, g].map fun c : Nat => V.int (c : Int))) := upd_same
      generalize upd H5 t2 (.tup ([a, b, c, e, g].map fun c : Nat => V.int (c : Int))) = H6 at s6 ht2
      refine ⟨t1, t2, _, _, rfl, rfl, SqT.of (s6 _ _ (k5 _ _ (nin1 nt1d) ht1)), SqT.of ht2, (by simp), (by show 7 ≤ sizeLine; decide), (fun z => by cases z), fun _ t3 nt3 => ?_⟩
      have kA : Kp [d] H H6 := ((((Kp.of s1).trans k2).trans k3).trans (Kp.of s4)).trans (k5.trans (Kp.of s6))
      refine k _ ⟨r, kd, a, b, c, e, g⟩ _ ⟨hkd, hr', oc a (by simp), oc b (by simp), oc c (by simp), oc e (by simp), oc g (by simp)⟩ (kA.new nt3) ((D5.same (s6.new nt3)).mono (by omega)) (rp_head.mpr ⟨t3, rfl, SqT.of upd_same⟩)
theorem scLWritten : FnScope ["_law_head_here", "_law_text_here", "_law_found_here", "_law_k", "_law_part"] ["_law_head_here", "_law_text_here"] (defScope sLWritten) := ⟨rfl, rfl, rfl, by decide +kernel, rfl, by decide +kernel, by decide +kernel⟩
theorem ok_lwritten {f : Addr} {fd : FuncData} (F : Fun K "_law_written" "_law_written" sLWritten f fd) (B : LB mg) : FnOk P w K mg base CX0 1 f fd ["_law_head_here", "_law_text_here"] (spWritten K) := by
  refine F.ok scLWritten (fun vs H Q E h => ?_) (fun cdv A outer s H vs Q E hr h => ?_)
  · obtain ⟨h, v, cs, rfl, _⟩ := h
    rfl
  · obtain ⟨h, v, cs, rfl, rv, ok, hcs, k⟩ := h
    refine ⟨_, (pss_cons (ps_set (i := 2) scLWritten.nd rfl (Or.inl rfl) pe_str)
       (pss_cons (ps_for PassesOwn.never rfl (pi_enumT (by rfl) B.enumerate (pa_cons (pv 0) pa_nil)) (pg_tup rfl (pgs_cons (pg_name (i := 3) scLWritten.nd rfl (Or.inl rfl)) (pgs_cons (pg_name (i := 4) scLWritten.nd rfl (Or.inl rfl)) pgs_nil)))
       (pss_one (ps_set (i := 2) scLWritten.nd rfl (Or.inl rfl) (pe_op op_add_str (pe_op op_add_str (pv 2) (pe_op op_rep_str pe_str (pe_callTy call_int1 (by rfl) B.int PyProof.Rows.boot_int (pa_cons (pe_cmpR op_gt (pv 3) pe_int (nomark _)) pa_nil)))) (pe_callTy call_strU (by rfl) B.str PyProof.Rows.boot_str (pa_cons (pv 4) pa_nil))))))
       (pss_one (ps_ret (pe_op op_add_str (pe_op op_add_str (pv 2) pe_str) (pv 1)))))), ?_⟩
    obtain ⟨a, rfl, ha⟩ := rp_head.mp rv
    refine ⟨_, rfl, a, _, rfl, ha, ?_⟩
    refine for_it (walk_enumT (K := K) (a := a) (xs := h.vs)) (fun i σ H' => ∃ (v3 v4 : Option V), σ = [some (.ref a), some (.str (S cs)), some (.str (S (TL.joinL [46] ((h.L.take i).map HP.txt)))), v3, v4] ∧ Same H H')
      ⟨_, _, rfl, L2.Same.refl _⟩ (fun i σ H' _ ⟨_, _, _, s⟩ => SqT.tk ha (TK.of s)) ?_ ?_
    · rintro i y σ H1 H2 hi ⟨v3, v4, rfl, s1⟩ ⟨T, x, rfl, nT, rfl, hx⟩
      have hi : i < 7 := hi
      obtain ⟨p, hp, rfl⟩ : ∃ p, h.L[i]? = some p ∧ p.v = x := by
        unfold Hd.vs at hx
        rw [List.getElem?_map] at hx
        cases e : h.L[i]? with
        | none =>
          rw [e] at hx
          cases hx
        | some p =>
          rw [e] at hx
          exact ⟨p, rfl, Option.some.inj hx⟩
      have s2 : Same H1 (upd H1 T (.tup [.int (i : Nat), p.v])) := (L2.Same.refl _).new nT
      have hT : upd H1 T (.tup [.int (i : Nat), p.v]) T = some (.tup [.int (i : Nat), p.v]) := upd_same
      generalize upd H1 T (.tup [.int (i : Nat), p.v]) = H2 at s2 hT
      have l1 := part_len ok i
      have l2 := part_len ok (i + 1)
      have step := head_part hi p hp
      refine ⟨T, _, rfl, SqT.of hT, rfl, _, _, rfl, _, _, rfl, rfl, ?_⟩
      refine ⟨_, rfl, _, rfl, _, _, rfl, rfl, .inr ⟨_, rfl, _, _, rfl, rfl, ?_⟩⟩
      by_cases h0 : i = 0
      · refine .inl ⟨by rw [if_neg (by simp [h0])], _, _, rfl, rfl, ?_, ?_⟩
        · show (S (TL.joinL [46] ((h.L.take i).map HP.txt))).length + (S []).length ≤ _
          rw [S_len, S_len]
          exact Nat.le_trans (show (TL.joinL [46] ((h.L.take i).map HP.txt)).length + 0 ≤ 60 by omega) (by decide)
        rw [show S (TL.joinL [46] ((h.L.take i).map HP.txt)) ++ Str.empty = S (TL.joinL [46] ((h.L.take i).map HP.txt) ++ []) from S_cat _ _]
        have last : ∀ (z : List Nat), z = p.txt → (S (TL.joinL [46] ((h.L.take i).map HP.txt) ++ [])).length + (S z).length ≤ sizeLine ∧ S (TL.joinL [46] ((h.L.take i).map HP.txt) ++ []) ++ S z = S (TL.joinL [46] ((h.L.take (i + 1)).map HP.txt)) := by
          rintro z rfl
          have e : TL.joinL [46] ((h.L.take (i + 1)).map HP.txt) = (TL.joinL [46] ((h.L.take i).map HP.txt) ++ []) ++ p.txt := by
            rw [step, if_pos h0, List.append_assoc]
          refine ⟨?_, by rw [S_cat, e]⟩
          rw [S_len, S_len, ← List.length_append, ← e]
          exact Nat.le_trans (show (TL.joinL [46] ((h.L.take (i + 1)).map HP.txt)).length ≤ 60 by omega) (by decide)
        cases p with
        | num m =>
          obtain ⟨e1, e2⟩ := last (TL.numL m) rfl
          refine ⟨_, rfl, .inl ⟨_, rfl, log_small (num_le ok (List.mem_of_getElem? hp)), ?_⟩⟩
          rw [SX.num_S]
          refine ⟨_, _, rfl, rfl, e1, some (.int (i : Nat)), some (HP.v (.num m)), ?_, s1.trans s2⟩
          rw [e2]
          rfl
        | word c =>
          obtain ⟨e1, e2⟩ := last [c] rfl
          refine ⟨_, rfl, .inr ⟨_, rfl, ?_⟩⟩
          refine ⟨_, _, rfl, rfl, e1, some (.int (i : Nat)), some (HP.v (.word c)), ?_, s1.trans s2⟩
          rw [e2]
          rfl
      · refine .inr ⟨by rw [if_pos (decide_eq_true (by omega))], _, _, rfl, rfl, ?_, ?_⟩
        · show (S (TL.joinL [46] ((h.L.take i).map HP.txt))).length + (S [46]).length ≤ _
          rw [S_len, S_len]
          exact Nat.le_trans (show (TL.joinL [46] ((h.L.take i).map HP.txt)).length + 1 ≤ 60 by omega) (by decide)
        rw [show S (TL.joinL [46] ((h.L.take i).map HP.txt)) ++ Str.ofString "." = S (TL.joinL [46] ((h.L.take i).map HP.txt) ++ [46]) from S_cat _ _]
        have last : ∀ (z : List Nat), z = p.txt → (S (TL.joinL [46] ((h.L.take i).map HP.txt) ++ [46])).length + (S z).length ≤ sizeLine ∧ S (TL.joinL [46] ((h.L.take i).map HP.txt) ++ [46]) ++ S z = S (TL.joinL [46] ((h.L.take (i + 1)).map HP.txt)) := by
          rintro z rfl
          have e : TL.joinL [46] ((h.L.take (i + 1)).map HP.txt) = (TL.joinL [46] ((h.L.take i).map HP.txt) ++ [46]) ++ p.txt := by
            rw [step, if_neg h0, List.append_assoc]
          refine ⟨?_, by rw [S_cat, e]⟩
          rw [S_len, S_len, ← List.length_append, ← e]
          exact Nat.le_trans (show (TL.joinL [46] ((h.L.take (i + 1)).map HP.txt)).length ≤ 60 by omega) (by decide)
        cases p with
        | num m =>
          obtain ⟨e1, e2⟩ := last (TL.numL m) rfl
          refine ⟨_, rfl, .inl ⟨_, rfl, log_small (num_le ok (List.mem_of_getElem? hp)), ?_⟩⟩
          rw [SX.num_S]
          refine ⟨_, _, rfl, rfl, e1, some (.int (i : Nat)), some (HP.v (.num m)), ?_, s1.trans s2⟩
          rw [e2]
          rfl
        | word c =>
          obtain ⟨e1, e2⟩ := last [c] rfl
          refine ⟨_, rfl, .inr ⟨_, rfl, ?_⟩⟩
          refine ⟨_, _, rfl, rfl, e1, some (.int (i : Nat)), some (HP.v (.word c)), ?_, s1.trans s2⟩
          rw [e2]
          rfl
    · rintro σ H1 ⟨v3, v4, rfl, s1⟩
      have e7 : h.L.take h.vs.length = h.L := rfl
      rw [e7]
      have hl := head_len ok
      refine ⟨_, rfl, _, _, rfl, rfl, ?_, _, rfl, _, _, rfl, rfl, ?_, ?_⟩
      · rw [S_len]
        exact Nat.le_trans (show h.txt.length + 1 ≤ 50 by omega) (by decide)
      · rw [show S (TL.joinL [46] (h.L.map HP.txt)) ++ Str.ofString ":" = S (h.txt ++ [58]) from S_cat _ [58], S_len, S_len, List.length_append, List.length_singleton]
        exact Nat.le_trans (show h.txt.length + 1 + cs.length ≤ 1000050 by omega) (by decide)
      · rw [show S (TL.joinL [46] (h.L.map HP.txt)) ++ Str.ofString ":" = S (h.txt ++ [58]) from S_cat _ [58], S_cat, List.append_assoc]
        exact k _ s1
end
end Wn

set_option maxHeartbeats 1600000
namespace Wn
open PySem L2
open SX (S S_len S_cat S_beq_eq join_S)
set_option pp.maxSteps 700
set_option pp.deepTerms false
local macro_rules | `(tactic| walk_at "h") => `(tactic| first | with_reducible assumption | (with_reducible exact upd_same) | (with_reducible apply g_upd; (walk_at "neq"); (walk_at "h")) | (with_reducible apply g_same; (with_reducible assumption); (walk_at "h")) | (with_reducible apply g_kp; (with_reducible assumption); (walk_at "nin"); (walk_at "h")) | (with_reducible apply g_tk; (with_reducible assumption); (walk_at "h")))
local macro_rules | `(tactic| walk_at "neq") => `(tactic| first | with_reducible assumption | (with_reducible apply Ne.symm; with_reducible assumption) | (with_reducible apply ne_upd; (with_reducible assumption)) | (with_reducible apply Ne.symm; with_reducible apply ne_upd; with_reducible assumption) | (with_reducible apply ne_fr; (with_reducible assumption); (walk_at "h")) | (with_reducible apply ne_fr'; (with_reducible assumption); (walk_at "h")) | (with_reducible apply ne_kd; (walk_at "h"); (walk_at "h"); (with_unfolding_all (intro z; cases z))))
local macro_rules | `(tactic| walk_at "nin") => `(tactic| first | (with_reducible exact nin0) | with_reducible assumption | (with_reducible apply ninc; (walk_at "neq"); (walk_at "nin")))
local macro_rules | `(tactic| walk_at "none") => `(tactic| first | with_reducible assumption | (with_reducible apply n_upd; (with_reducible assumption)) | (with_reducible apply n_same; (with_reducible assumption); (walk_at "none")) | (with_reducible apply n_kp; (with_reducible assumption); (walk_at "nin"); (walk_at "none")))
local macro_rules | `(tactic| walk_at "mem") => `(tactic| first | (with_reducible exact List.mem_cons_self) | (with_reducible apply List.mem_cons_of_mem; (walk_at "mem")))
local macro_rules | `(tactic| walk_at "am") => `(tactic| first | (with_reducible exact am0) | (with_reducible apply am1; (first | (apply Or.inl; walk_at "mem") | (apply Or.inr; walk_at "none")); (walk_at "am")))
local macro_rules | `(tactic| walk_at "tk") => `(tactic| first | (with_reducible exact TK.refl _) | with_reducible assumption | (with_reducible apply t_tk; (with_reducible assumption); (walk_at "tk")) | (with_reducible apply t_same; (with_reducible assumption); (walk_at "tk")) | (with_reducible apply t_new; (with_reducible assumption); (walk_at "tk")) | (with_reducible apply t_wr; (walk_at "h"); (with_unfolding_all rfl); (walk_at "tk")))
local macro_rules | `(tactic| walk_at "same") => `(tactic| first | (with_reducible exact L2.Same.refl _) | with_reducible assumption | (with_reducible apply s_same; (with_reducible assumption); (walk_at "same")) | (with_reducible apply s_new; (with_reducible assumption); (walk_at "same")) | (with_reducible apply s_wrn; (walk_at "none"); (walk_at "same")))
local macro_rules | `(tactic| walk_at "kp") => `(tactic| first | (with_reducible exact Kp.refl _ _) | with_reducible assumption | (with_reducible apply k_same; (with_reducible assumption); (walk_at "kp")) | (with_reducible apply k_kp; (with_reducible assumption); (walk_at "kp")) | (with_reducible apply k_kpm; (with_reducible assumption); (walk_at "am"); (walk_at "kp")) | (with_reducible apply k_new; (with_reducible assumption); (walk_at "kp")) | (with_reducible apply k_wr; (walk_at "mem"); (walk_at "kp")) | (with_reducible apply k_wrn; (walk_at "none"); (walk_at "kp")))
local macro_rules | `(tactic| walk_at "rp") => `(tactic| first | with_reducible assumption | (with_reducible exact Rp.int) | (with_reducible exact Rp.str) | (with_reducible exact Rp.none) | (with_reducible exact Rp.bool) | (with_reducible apply Rp.tk'; (with_reducible assumption); (walk_at "tk")) | (with_reducible apply Rp.tup; (walk_at "h"); (walk_at "rpl")))
local macro_rules | `(tactic| walk_at "rpl") => `(tactic| first | with_reducible assumption | (with_reducible exact RpL.nil) | (with_reducible apply RpL.tk'; (with_reducible assumption); (walk_at "tk")) | (with_reducible apply RpL.cons; (walk_at "rp"); (walk_at "rpl")))
local macro_rules | `(tactic| walk_at "g") => `(tactic| repeat (first | refine ⟨_, rfl, ?_⟩ | refine ⟨_, _, rfl, rfl, ?_⟩ | refine ⟨rfl, _, rfl, ?_⟩ | refine ⟨_, _, rfl, rfl, (by first | decide | omega), ?_⟩))
abbrev sLNumber : Stmt := top 27
abbrev sLRead : Stmt := top 28
structure LXB (mg : Str → Option Value) : Prop where
  isinstance : mg "isinstance" = none
  int : mg "int" = none
  bool : mg "bool" = none
  str : mg "str" = none
  tuple : mg "tuple" = none
  len : mg "len" = none
  all : mg "all" = none
def numV : Option Nat → V
  | none => .non
  | some n => .int (n : Int)
def readD : PyData → Option PyData
  | .str z => readB z.cps.toList
  | _ => none
theorem readD_S (cs : List Nat) : readD (.str (S cs)) = readB cs := by
  show readB (S cs).cps.toList = _
  congr 1
theorem nonV_in : ∀ ws : List (List Nat), inV .non (ws.map fun w => numV (numB w)) = decide (∃ w ∈ ws, numB w = none)
  | [] => by
    rw [decide_eq_false (fun z => by obtain ⟨w, hw, _⟩ := z; cases hw)]
    rfl
  | w :: ws => by
    show (eqV (numV (numB w)) .non || inV .non (ws.map fun w => numV (numB w))) = _
    rw [nonV_in ws]
    cases e : numB w with
    | none => simp [numV, eqV, e]
    | some n => simp [numV, eqV, e]
def spLNum : Sp := fun vs H Q _ => ∃ w : List Nat, vs = [.str (S w)] ∧ w.length ≤ 1000 ∧ ∀ H', Same H H' → Q (numV (numB w)) H'
def spLRead (K : PySem.W.Frag) : Sp := fun vs H Q _ => ∃ (v : V) (d : PyData), vs = [v] ∧ Dk K H v d ∧ (∀ cs, d = .str (S cs) → cs.length ≤ 1000) ∧
  (∀ e, readD d = some e → ∀ H' v', Same H H' → Rp K H' e v' → Q v' H') ∧ (readD d = none → ∀ H', Same H H' → Q .non H')

section
variable {P : Program} {w : World} {K : PySem.W.Frag} {mg : Str → Option Value} {base : Heap}
theorem scLNumber : FnScope ["_law_word", "_law_sign_here"] ["_law_word"] (defScope sLNumber) := ⟨rfl, rfl, rfl, by decide +kernel, rfl, by decide +kernel, by decide +kernel⟩
theorem ok_lnumber {f : Addr} {fd : FuncData} (F : Fun K "_law_number" "_law_number" sLNumber f fd) (B : LXB mg) : FnOk P w K mg base CX0 1 f fd ["_law_word"] spLNum := by
  refine F.ok scLNumber (fun vs H Q E h => ?_) (fun cdv A outer s H vs Q E hr h => ?_)
  · obtain ⟨w, rfl, _⟩ := h
    rfl
  · obtain ⟨w, rfl, lw, k⟩ := h
    refine ⟨_, (pss_cons (ps_if (PW.pt (pw_or (pt_cmpR op_eq (pe_callB (lenK (K := K) rfl) (by rfl) B.len PySem.boot_len (pa_cons (pv 0) pa_nil)) pe_int (nomark _)) (pw_or (pt_cmpR op_gt (pe_callB (lenK (K := K) rfl) (by rfl) B.len PySem.boot_len (pa_cons (pv 0) pa_nil)) pe_int (nomark _)) (pw_or1 (pt_not (pt_val (pe_callB (crAllK (K := K) rfl rfl) (by rfl) B.all (by decide +kernel) (pa_cons (pe_lc (own := [("_law_sign_here", 1)]) (g := (gName 1)) (tt := tYes) rfl scLNumber.nd (pi_str (pv 0)) (blkOk_by (N := ["_law_word", "_law_sign_here"]) (sc := defScope sLNumber) (by decide +kernel))
       (fun _ _ _ _ _ => (pg_name (i := 1) scLNumber.nd rfl (Or.inl rfl))) (fun _ _ _ _ _ => pts_nil) (fun _ _ _ _ _ => (pe_cmpR op_in_str (pv 1) pe_str (by rfl)))) pa_nil))))))))
       (pss_one (ps_ret pe_non))
       pss_nil)
       (pss_cons (ps_if (PW.pt (pw_or (PW.pt (pw_and (pt_cmpR op_gt (pe_callB (lenK (K := K) rfl) (by rfl) B.len PySem.boot_len (pa_cons (pv 0) pa_nil)) pe_int (nomark _)) (pw_and1 (pt_cmpR op_eq (pe_ix ix_str (pv 0) pe_int (fun _ _ => rfl)) pe_str (nomark _))))) (pw_or1 (pt_cmpR op_gt (pe_callTy call_int_str (by rfl) B.int PyProof.Rows.boot_int (pa_cons (pv 0) pa_nil)) (pe_op op_pow pe_int pe_int) (nomark _)))))
       (pss_one (ps_ret pe_non))
       pss_nil)
       (pss_one (ps_ret (pe_callTy call_int_str (by rfl) B.int PyProof.Rows.boot_int (pa_cons (pv 0) pa_nil)))))), ?_⟩
    have hz : (S w).length ≤ sizeLine := by rw [S_len]; exact Nat.le_trans lw (by decide)
    have s0 := L2.Same.refl H
    refine ⟨_, rfl, _, w.length, rfl, ⟨hz, (S_len _).symm⟩, rfl, _, rfl, iteI (fun c0 => ?_) (fun c0 => ?_)⟩
    · have er := k _ s0
      rw [show numB w = none by unfold numB; rw [if_neg (fun z => z.1 (List.length_eq_zero_iff.mp (by omega)))]] at er
      exact er
    have w0 : w ≠ [] := fun z => c0 (by rw [z]; rfl)
    refine ⟨_, rfl, _, w.length, rfl, ⟨hz, (S_len _).symm⟩, _, _, rfl, rfl, _, rfl, iteP (fun c7 => ?_) (fun c7 => ?_)⟩
    · have er := k _ s0
      rw [show numB w = none by unfold numB; rw [if_neg (fun z => by have := z.2.1; omega)]] at er
      exact er
    refine ⟨_, rfl, _, rfl, fun D hD => ?_⟩
    refine mapD_it (K := K) (walk_strL (cs := w)) (fun _ _ => trivial) (enc := fun c => .str (S [c])) (L := w) (fun c => .bool (figB c)) ?_ hD (by omega) ?_ ?_
    · exact rpl_signs _
    · intro c x H' Q' hc rx sx kk
      obtain rfl := Rp.str_eq rx
      refine ⟨_, rfl, _, _, rfl, rfl, ?_⟩
      have := SX.in_one figsL c
      rw [show S figsL = Str.ofString "0123456789" from by decide +kernel] at this
      rw [this]
      exact kk _ _ (L2.Same.refl _) Rp.bool
    · intro H1 ys s1 hD1 r1
      have ey := RpL.flat (g := fun c : Nat => V.bl (figB c)) (fun b v r => Rp.bool_eq r) r1
      subst ey
      refine ⟨D, w.map figB, rfl, by rw [List.map_map]; exact SqL.of hD1, _, rfl, ?_⟩
      have eall : (w.map figB).all id = w.all figB := by rw [List.all_map]; rfl
      rw [eall]
      by_cases af : w.all figB = true
      · rw [af]
        refine iteF ?_
        have hint : intText? (S w) = some ((NumText.digitsVal w : Nat) : Int) := SX.int_S (by
          refine List.all_eq_true.mpr fun c hc => ?_
          have := List.all_eq_true.mp af c hc
          unfold figB figsL at this
          have := of_decide_eq_true this
          simp only [List.mem_cons, List.not_mem_nil, or_false] at this
          rw [Bool.and_eq_true, decide_eq_true_eq, decide_eq_true_eq]
          omega) w0 (by omega)
        refine ⟨_, rfl, _, w.length, rfl, ⟨hz, (S_len _).symm⟩, _, _, rfl, rfl, _, rfl, iteP (fun c1 => ?_) (fun c1 => ?_)⟩
        · cases hw : w with
          | nil => exact absurd hw w0
          | cons c r =>
            rw [hw] at hz hint
            refine ⟨_, rfl, _, _, c, rfl, rfl, hz, atI_nat (j := 0) (by simp), rfl, _, rfl, ?_⟩
            by_cases c48 : c = 48
            · rw [show decide (V.str ⟨#[c]⟩ = V.str (Str.ofString "0")) = true from decide_eq_true (by rw [c48]; rfl)]
              have er := k _ s1
              rw [show numB w = none by unfold numB; rw [if_neg (fun z => z.2.2.2.1 ⟨by omega, by rw [hw, c48]; rfl⟩)]] at er
              exact er
            · rw [show decide (V.str ⟨#[c]⟩ = V.str (Str.ofString "0")) = false from decide_eq_false fun z => c48 (by
                have := SX.S_inj (a := [c]) (b := [48]) (V.str.inj z)
                simpa using this)]
              refine iteF ?_
              have e6 : (fun i j : Int => V.int (i ^ j.toNat)) 10 6 = V.int 1000000 := by decide +kernel
              refine ⟨_, rfl, _, _, rfl, hint, (by rw [S_len, ← hw]; omega), _, _, rfl, rfl, ⟨by decide, by decide, by decide⟩, ?_⟩
              rw [e6]
              refine ⟨_, _, rfl, rfl, _, rfl, iteP (fun cg => ?_) (fun cg => ?_)⟩
              · have er := k _ s1
                rw [show numB w = none by unfold numB; rw [if_neg (fun z => by have := z.2.2.2.2; rw [hw] at this; omega)]] at er
                exact er
              · have er := k _ s1
                rw [show numB w = some (NumText.digitsVal (c :: r)) by unfold numB; rw [if_pos ⟨w0, by omega, af, fun z => by rw [hw] at z; exact c48 (Option.some.inj z.2), by rw [hw]; omega⟩, hw]] at er
                exact ⟨_, rfl, _, _, rfl, hint, (by rw [S_len, ← hw]; omega), er⟩
        · have e6 : (fun i j : Int => V.int (i ^ j.toNat)) 10 6 = V.int 1000000 := by decide +kernel
          refine ⟨_, rfl, _, _, rfl, hint, (by rw [S_len]; omega), _, _, rfl, rfl, ⟨by decide, by decide, by decide⟩, ?_⟩
          rw [e6]
          refine ⟨_, _, rfl, rfl, _, rfl, iteP (fun cg => ?_) (fun cg => ?_)⟩
          · have er := k _ s1
            rw [show numB w = none by unfold numB; rw [if_neg (fun z => by have := z.2.2.2.2; omega)]] at er
            exact er
          · have er := k _ s1
            rw [show numB w = some (NumText.digitsVal w) by unfold numB; rw [if_pos ⟨w0, by omega, af, fun z => by omega, by omega⟩]] at er
            exact ⟨_, rfl, _, _, rfl, hint, (by rw [S_len]; omega), er⟩
      · have af : w.all figB = false := by cases e : w.all figB with
          | true => exact absurd e af
          | false => rfl
        rw [af]
        have er := k _ s1
        rw [show numB w = none by unfold numB; rw [if_neg (fun z => by rw [af] at z; cases z.2.2.1)]] at er
        exact er
theorem scLRead : FnScope ["_law_thing", "_law_front", "_law_parts", "_law_rest", "_law_part"] ["_law_thing"] (defScope sLRead) := ⟨rfl, rfl, rfl, by decide +kernel, rfl, by decide +kernel, by decide +kernel⟩
theorem ok_lread {f : Addr} {fd : FuncData} (F : Fun K "_law_read" "_law_read" sLRead f fd) (B : LXB mg) (cN : Cd P w K mg base 1 "_law_number" ["_law_word"] spLNum) : FnOk P w K mg base CX0 2 f fd ["_law_thing"] (spLRead K) := by
  obtain ⟨fN, fdN, GN, mN, kN, bN⟩ := cN
  refine F.ok scLRead (fun vs H Q E h => ?_) (fun cdv A outer s H vs Q E hr h => ?_)
  · obtain ⟨v, d, rfl, _⟩ := h
    rfl
  · obtain ⟨v, d, rfl, hd, hlen, k, kN0⟩ := h
    have hr1 : Room 1 _ := hr
    refine ⟨_, (pss_cons (ps_if (PW.pt (pw_or (pt_not (pt_val (pe_callB (isiK (K := K) rfl) (by rfl) B.isinstance (by decide +kernel) (pa_cons (pv 0) (pa_cons (pe_bltn (v := .ty "str") (by rfl) B.str PyProof.Rows.boot_str rfl) pa_nil))))) (pw_or1 (pt_cmpR op_notin_str pe_str (pv 0) (by rfl)))))
       (pss_one (ps_ret pe_non))
       pss_nil)
       (pss_cons (ps_set (i := 1) scLRead.nd rfl (Or.inl rfl) (pe_ix (ixL (K := K) rfl) (pe_split (pv 0) pe_str) pe_int (fun _ _ => rfl)))
       (pss_cons (ps_set (i := 2) scLRead.nd rfl (Or.inl rfl) (pe_split (pv 1) pe_str))
       (pss_cons (ps_if (PW.pt (pw_or (pt_cmpR op_ne (pe_callB (lenK (K := K) rfl) (by rfl) B.len PySem.boot_len (pa_cons (pv 2) pa_nil)) pe_int (nomark _)) (pw_or1 (pt_cmpR (notInSeqK (K := K) rfl) (pe_ix (ixL (K := K) rfl) (pv 2) pe_int (fun _ _ => rfl)) (pe_lst (pa_cons pe_str (pa_cons pe_str (pa_cons pe_str (pa_cons pe_str (pa_cons pe_str (pa_cons pe_str pa_nil))))))) (by rfl)))))
       (pss_one (ps_ret pe_non))
       pss_nil)
       (pss_cons (ps_setLc (i := 3) (own := [("_law_part", 4)]) (g := (gName 4)) (tt := tYes) rfl scLRead.nd rfl rfl (sw_true rfl rfl rfl (by decide +kernel)) (pi_list (pe_op op_cat (pe_slice (slL (K := K) rfl) (pv 2) po_none (po_some pe_int)) (pe_slice (slL (K := K) rfl) (pv 2) (po_some pe_int) po_none))) (blkOk_by (N := ["_law_thing", "_law_front", "_law_parts", "_law_rest", "_law_part"]) (sc := defScope sLRead) (by decide +kernel))
       (fun _ _ _ _ _ => (pg_name (i := 4) scLRead.nd rfl (Or.inl rfl))) (fun _ _ _ _ _ => pts_nil) (fun _ _ _ _ _ => (pe_call GN hr1 rfl mN kN bN .nil pass0 (pa_cons (pv 4) pa_nil))))
       (pss_cons (ps_if (pt_cmpR (inSeqK (K := K) rfl) pe_non (pv 3) (by rfl))
       (pss_one (ps_ret pe_non))
       pss_nil)
       (pss_one (ps_ret (pe_tup (pa_cons (pe_op (opCatA (K := K) rfl) (pe_tup (pa_cons (pe_ix (ixL (K := K) rfl) (pv 3) pe_int (fun _ _ => rfl)) (pa_cons (pe_ix (ixL (K := K) rfl) (pv 2) pe_int (fun _ _ => rfl)) pa_nil))) (pe_callTy (tupOfK (K := K) rfl) (by rfl) B.tuple PyProof.Rows.boot_tuple (pa_cons (pe_slice (slL (K := K) rfl) (pv 3) (po_some pe_int) po_none) pa_nil))) (pa_cons (pe_slice sl_str (pv 0) (po_some (pe_op op_add (pe_callB (lenK (K := K) rfl) (by rfl) B.len PySem.boot_len (pa_cons (pv 1) pa_nil)) pe_int)) po_none) pa_nil))))))))))), ?_⟩
    have s0 := L2.Same.refl H
    refine ⟨_, rfl, _, _, _, _, _, rfl, .ty _, hd.ty, kit_str d, _, rfl, ?_⟩
    by_cases ts : tyN d = "str"
    rotate_left
    · rw [decide_eq_false ts]
      refine iteT ?_
      exact kN0 (by cases d with
        | str z => exact absurd rfl ts
        | _ => rfl) _ s0
    rw [decide_eq_true ts]
    obtain ⟨cs, rfl⟩ : ∃ cs : List Nat, d = .str (S cs) := by
      cases d with
      | str z => exact ⟨z.cps.toList, congrArg PyData.str (by cases z; rfl)⟩
      | none => exact absurd ts (by decide)
      | bool b => exact absurd ts (show ¬ ("bool" : String) = "str" by decide)
      | int b => exact absurd ts (show ¬ ("int" : String) = "str" by decide)
      | list b => exact absurd ts (show ¬ ("list" : String) = "str" by decide)
      | tuple b => exact absurd ts (show ¬ ("tuple" : String) = "str" by decide)
      | dict b => exact absurd ts (show ¬ ("dict" : String) = "str" by decide)
    obtain rfl := hd.inv_str
    have lc := hlen cs rfl
    rw [readD_S] at k kN0
    have hz : (S cs).length ≤ sizeLine := by rw [S_len]; exact Nat.le_trans lc (by decide)
    refine iteF ?_
    refine ⟨_, rfl, _, _, rfl, rfl, _, rfl, ?_⟩
    have hin : (!(Builtin.Str.occurrences (S cs) (Str.ofString ":") 0 (S cs).length 1).isEmpty) = decide (58 ∈ cs) := SX.in_one cs 58
    rw [hin]
    by_cases h58 : 58 ∈ cs
    rotate_left
    · rw [decide_eq_false h58]
      exact kN0 (by unfold readB; rw [if_neg h58]) _ s0
    rw [decide_eq_true h58]
    refine iteF ?_
    obtain ⟨q, eq1, eq2, eq3⟩ := front_eq h58
    have fl := front_len cs
    dsimp only [tNext]
    have o1 : (S cs).length + 2 ≤ sizeLine := by
      rw [S_len]
      exact Nat.le_trans (show cs.length + 2 ≤ 1002 by omega) (by decide)
    have esp : Txt.split (S cs) (Str.ofString ":") = (TL.spl [58] 0 [] cs).map S := SX.split_S (b := [58]) (by decide) (by decide)
    have efr : TL.spl [58] 0 [] cs = frontL cs :: TL.spl [58] 0 [] q := by
      have := spl_first (c := 58) (q := q) (frontL cs) [] eq3
      rw [← eq1, List.nil_append] at this
      exact this
    refine ⟨_, rfl, ⟨_, rfl⟩, _, _, rfl, rfl, rfl, o1, fun l1 n_l1 => ?_⟩
    rw [esp, efr]
    obtain ⟨H1, e_H1, s1, hl1⟩ := new_any n_l1
    rw [← e_H1]
    clear e_H1
    refine ⟨l1, _, _, _, rfl, rfl, SqL.of hl1, atI_nat (j := 0) rfl, ?_⟩
    dsimp only [gName, List.set]
    refine ⟨_, rfl, ⟨_, rfl⟩, _, _, rfl, rfl, rfl, ?_, fun wl n_wl => ?_⟩
    · rw [S_len]
      exact Nat.le_trans (show (frontL cs).length + 2 ≤ 1002 by omega) (by decide)
    rw [show Txt.split (S (frontL cs)) (Str.ofString ".") = (wordsL cs).map S from SX.split_S (b := [46]) (by decide) (by decide)]
    obtain ⟨H2, e_H2, s2, hw⟩ := new_any n_wl
    rw [← e_H2]
    clear e_H2
    have wm := spl_many (frontL cs) []
    have wm : (wordsL cs).length ≤ (frontL cs).length + 1 := wm
    have wlen : ∀ w ∈ wordsL cs, w.length ≤ 1000 := fun w h => Nat.le_trans (words_len h) lc
    have hrd : readB cs = (readW (wordsL cs)).map fun d => .tuple [d, .str (S (cs.drop ((frontL cs).length + 1)))] := by unfold readB; rw [if_pos h58]
    generalize wordsL cs = ws at hw wm wlen hrd
    dsimp only [gName, List.set]
    have s12 := s1.trans s2
    refine ⟨_, rfl, _, ws.length, rfl, .inl ⟨_, SqL.of hw, by rw [List.length_map, List.length_map]⟩, rfl, _, rfl, iteNI (fun c7 => ?_) (fun c7 => ?_)⟩
    · exact kN0 (by rw [hrd, readW_len (by omega)]; rfl) _ s12
    obtain ⟨w0, w1, rest, rfl, l5⟩ : ∃ w0 w1 rest, ws = w0 :: w1 :: rest ∧ rest.length = 5 := by
      cases ws with
      | nil => exact absurd c7 (by decide)
      | cons w0 ws =>
        cases ws with
        | nil => exact absurd c7 (by rw [List.length_singleton]; decide)
        | cons w1 rest =>
          rw [List.length_cons, List.length_cons] at c7
          exact ⟨w0, w1, rest, rfl, by omega⟩
    have hw' : H2 wl = some (.lst (.str (S w0) :: .str (S w1) :: rest.map fun w => V.str (S w))) := by rw [hw, List.map_cons, List.map_cons, List.map_cons, List.map_cons, List.map_map]; rfl
    clear hw
    refine ⟨_, rfl, wl, _, _, _, rfl, rfl, SqL.of hw', atI_nat (j := 1) rfl, (by show 6 ≤ sizeLine; decide), fun kl n_kl => ?_⟩
    obtain ⟨H3, e_H3, s3, hkl⟩ := new_any n_kl
    rw [← e_H3]
    clear e_H3
    have hkl : H3 kl = some (.lst kindsV) := hkl
    refine ⟨kl, _, rfl, .inl (SqL.of hkl), rfl, kinds_flat, _, rfl, ?_⟩
    show if (!kindB w1) = true then _ else _
    by_cases hk : kindB w1 = true
    rotate_left
    · have hk : kindB w1 = false := by cases e : kindB w1 with
        | true => exact absurd e hk
        | false => rfl
      rw [hk]
      exact kN0 (by
        rw [hrd]
        refine congrArg _ (a₂ := none) ?_
        show (if rest.length = 5 ∧ kindB w1 = true then _ else none) = _
        exact if_neg (fun z => by rw [hk] at z; cases z.2)) _ (s12.trans s3)
    rw [hk]
    refine iteF ?_
    dsimp only [tNext]
    have hw3 := s3 _ _ hw'
    refine ⟨_, rfl, _, rfl, wl, _, rfl, SqL.of hw3, fun l2 n_l2 => ?_⟩
    have ec1 : cutV (.str (S w0) :: .str (S w1) :: rest.map fun w => V.str (S w)) none (some 1) = [.str (S w0)] := by
      show cutL _ none (some ((1 : Nat) : Int)) = _
      rw [cutL_to]
      rfl
    have ec2 : cutV (.str (S w0) :: .str (S w1) :: rest.map fun w => V.str (S w)) (some 2) none = rest.map fun w => V.str (S w) := by
      show cutL _ (some ((2 : Nat) : Int)) none = _
      rw [cutL_from]
      rfl
    rw [ec1]
    obtain ⟨H4, e_H4, s4, hl2⟩ := new_any n_l2
    rw [← e_H4]
    clear e_H4
    refine ⟨_, rfl, _, rfl, wl, _, rfl, SqL.of (s4 _ _ hw3), fun l3 n_l3 => ?_⟩
    rw [ec2]
    obtain ⟨H5, e_H5, s5, hl3⟩ := new_any n_l3
    rw [← e_H5]
    clear e_H5
    refine ⟨l2, l3, _, _, rfl, rfl, s5 _ _ hl2, hl3, (by rw [List.length_map, l5]; show 1 + 5 ≤ sizeLine; decide), fun l4 n_l4 => ?_⟩
    obtain ⟨H6, e_H6, s6, hl4⟩ := new_any n_l4
    rw [← e_H6]
    clear e_H6
    have hl4 : H6 l4 = some (.lst ((w0 :: rest).map fun w => V.str (S w))) := hl4
    have hrd2 : readB cs = (match allN rest, numB w0 with
      | some ns, some n0 => some (headD n0 w1 ns)
      | _, _ => none).map fun d => .tuple [d, .str (S (cs.drop ((frontL cs).length + 1)))] := by
      rw [hrd]
      refine congrArg _ ?_
      show (if rest.length = 5 ∧ kindB w1 = true then _ else none) = _
      exact if_pos ⟨l5, hk⟩
    refine ⟨l4, rfl, ⟨_, SqL.of hl4⟩, fun D n_D => ?_⟩
    refine lc_it (walk_list (K := K) (a := l4) (xs := (w0 :: rest).map fun w => V.str (S w))) (fun i H' => Same H6 H' ∧ H' D = some (.lst (((w0 :: rest).take i).map fun w => numV (numB w)))) ⟨(L2.Same.refl H6).new n_D, upd_same⟩ (fun i H' _ ⟨s', _⟩ => SqL.of (s' _ _ hl4)) ?_ ?_
    · rintro i x H7 H7' hi ⟨s7, hD7⟩ ⟨rfl, ex⟩
      have hil : i < (w0 :: rest).length := by rw [List.length_map] at hi; exact hi
      rw [List.getElem?_map, List.getElem?_eq_getElem hil] at ex
      have ex : x = .str (S (w0 :: rest)[i]) := (Option.some.inj ex).symm
      subst ex
      have hm : (w0 :: rest)[i] ∈ w0 :: rest := List.getElem_mem hil
      have et : (w0 :: rest).take (i + 1) = (w0 :: rest).take i ++ [(w0 :: rest)[i]] := List.take_succ_eq_append_getElem hil
      rw [et]
      generalize (w0 :: rest)[i] = w at hm
      have wl1 : w.length ≤ 1000 := by
        rcases List.mem_cons.mp hm with rfl | hm
        · exact wlen _ List.mem_cons_self
        · exact wlen _ (List.mem_cons_of_mem _ (List.mem_cons_of_mem _ hm))
      refine ⟨rfl, tYes_t (iteT ?_)⟩
      refine ⟨_, rfl, w, rfl, wl1, fun H8 s8 => ?_⟩
      refine ⟨_, s8 _ _ hD7, ?_, fun c o ec => ?_, ?_⟩
      · rw [List.length_map, List.length_take]
        rw [List.length_cons, l5] at hil ⊢
        exact Nat.lt_of_le_of_lt (show min i 6 ≤ 6 by omega) (by decide)
      · rw [upd_ne (fun z => by rw [z, n_D] at ec; cases ec)]
        exact s8 _ _ (s7 _ _ ec)
      · rw [upd_same, List.map_append, List.map_singleton]
    rintro H7 ⟨s7, hD7⟩
    rw [List.length_map, List.take_length] at hD7
    dsimp only [gName, List.set]
    have s17 := s12.trans (s3.trans ((s4.trans s5).trans (s6.trans s7)))
    have fl7 : ((w0 :: rest).map fun w => numV (numB w)).all flatV = true := List.all_eq_true.mpr fun x hx => by
      obtain ⟨w, _, rfl⟩ := List.mem_map.mp hx
      cases numB w <;> rfl
    have ein : inV .non ((w0 :: rest).map fun w => numV (numB w)) = decide (∃ w ∈ w0 :: rest, numB w = none) := nonV_in _
    refine ⟨_, rfl, D, _, rfl, .inl (SqL.of hD7), rfl, fl7, _, rfl, ?_⟩
    show if inV .non _ = true then _ else _
    rw [ein]
    refine iteP (fun cn => ?_) (fun cn => ?_)
    · refine kN0 ?_ _ s17
      rw [hrd2]
      obtain ⟨w, hw, e⟩ := cn
      rcases List.mem_cons.mp hw with rfl | hw
      · rw [e]
        cases allN rest <;> rfl
      · rw [allN_none ⟨w, hw, e⟩]
        rfl
    obtain ⟨ns, ens, ens2⟩ := allN_some (ws := rest) fun w hw e => cn ⟨w, List.mem_cons_of_mem _ hw, e⟩
    obtain ⟨n0, e0⟩ : ∃ n0, numB w0 = some n0 := by
      cases e : numB w0 with
      | none => exact absurd ⟨w0, List.mem_cons_self, e⟩ cn
      | some n0 => exact ⟨n0, rfl⟩
    have hD7 : H7 D = some (.lst (.int (n0 : Int) :: ns.map fun n : Nat => V.int (n : Int))) := by
      rw [hD7, List.map_cons, e0, ens2, List.map_map]
      refine congrArg some (congrArg HO.lst (congrArg (List.cons _) ?_))
      refine List.map_congr_left fun w hw => ?_
      cases e : numB w with
      | none => exact absurd ⟨w, List.mem_cons_of_mem _ hw, e⟩ cn
      | some n => show V.int _ = V.int (((numB w).getD 0 : Nat) : Int); rw [e]; rfl
    have hrd3 : readB cs = some (.tuple [headD n0 w1 ns, .str (S (cs.drop ((frontL cs).length + 1)))]) := by
      rw [hrd2, ens, e0]
      rfl
    have lns : ns.length = 5 := by rw [ens2, List.length_map, l5]
    dsimp only [tNext]
    have hw7 := (s3.trans ((s4.trans s5).trans (s6.trans s7))) _ _ hw'
    refine ⟨_, rfl, D, _, _, _, rfl, rfl, SqL.of hD7, atI_nat (j := 0) rfl, _, rfl, wl, _, _, _, rfl, rfl, SqL.of hw7, atI_nat (j := 1) rfl, (by show 2 ≤ sizeLine; decide), fun t2 n_t2 => ?_⟩
    obtain ⟨H8, e_H8, s8, ht2⟩ := new_any n_t2
    rw [← e_H8]
    clear e_H8
    refine ⟨_, rfl, _, rfl, D, _, rfl, SqL.of (s8 _ _ hD7), fun l5 n_l5 => ?_⟩
    have ec3 : cutV (.int (n0 : Int) :: ns.map fun n : Nat => V.int (n : Int)) (some 1) none = ns.map fun n : Nat => V.int (n : Int) := by
      show cutL _ (some ((1 : Nat) : Int)) none = _
      rw [cutL_from]
      rfl
    rw [ec3]
    obtain ⟨H9, e_H9, s9, hl5⟩ := new_any n_l5
    rw [← e_H9]
    clear e_H9
    refine ⟨l5, _, rfl, .inl ⟨SqL.of hl5, fun rt n_rt => ?_⟩⟩
    obtain ⟨G1, e_G1, q1, hrt⟩ := new_any n_rt
    rw [← e_G1]
    clear e_G1
    refine catA_sq (SqT.of (q1 _ _ (s9 _ _ ht2))) (SqT.of hrt) (by rw [List.length_map, lns]; show 2 + 5 ≤ 16000000; decide) (fun G2 t7 q2 ht7 => ?_)
    refine ⟨_, rfl, _, rfl, _, (frontL cs).length, rfl, ⟨by rw [S_len]; exact Nat.le_trans (Nat.le_trans fl lc) (by decide), (S_len _).symm⟩, _, _, rfl, rfl, _, rfl, _, rfl, hz, (by show 2 ≤ sizeLine; decide), fun tt ntt => ?_⟩
    have c2 : cutS (S cs) (some ((((frontL cs).length : Nat) : Int) + 1)) none = S (cs.drop ((frontL cs).length + 1)) := by
      rw [C8.cutS_slice]
      have e : S cs = S ((frontL cs ++ [58]) ++ q) := congrArg S (by rw [List.append_assoc]; exact eq1)
      rw [e, ← eq2]
      exact SX.from_app (frontL cs ++ [58]) q (by rw [List.length_append, List.length_singleton]; rfl)
    rw [c2]
    refine k _ hrd3 _ _ ((s17.trans ((s8.trans s9).trans (q1.trans q2))).new ntt) (Rp.tup upd_same (RpL.cons ?_ (RpL.cons Rp.str RpL.nil)))
    refine Rp.tupS (SqT.tk ht7 (TK.of ((L2.Same.refl _).new ntt))) (RpL.cons Rp.int (RpL.cons Rp.str ?_))
    exact rpl_nats ns
end
end Wn

set_option maxHeartbeats 1600000
namespace Wn
open PySem L2
open SX (S S_len S_cat S_beq_eq join_S)
set_option pp.maxSteps 700
set_option pp.deepTerms false
local macro_rules | `(tactic| walk_at "h") => `(tactic| first | with_reducible assumption | (with_reducible exact upd_same) | (with_reducible apply g_upd; (walk_at "neq"); (walk_at "h")) | (with_reducible apply g_same; (with_reducible assumption); (walk_at "h")) | (with_reducible apply g_kp; (with_reducible assumption); (walk_at "nin"); (walk_at "h")) | (with_reducible apply g_tk; (with_reducible assumption); (walk_at "h")))
local macro_rules | `(tactic| walk_at "neq") => `(tactic| first | with_reducible assumption | (with_reducible apply Ne.symm; with_reducible assumption) | (with_reducible apply ne_upd; (with_reducible assumption)) | (with_reducible apply Ne.symm; with_reducible apply ne_upd; with_reducible assumption) | (with_reducible apply ne_fr; (with_reducible assumption); (walk_at "h")) | (with_reducible apply ne_fr'; (with_reducible assumption); (walk_at "h")) | (with_reducible apply ne_kd; (walk_at "h"); (walk_at "h"); (with_unfolding_all (intro z; cases z))))
local macro_rules | `(tactic| walk_at "nin") => `(tactic| first | (with_reducible exact nin0) | with_reducible assumption | (with_reducible apply ninc; (walk_at "neq"); (walk_at "nin")))
local macro_rules | `(tactic| walk_at "none") => `(tactic| first | with_reducible assumption | (with_reducible apply n_upd; (with_reducible assumption)) | (with_reducible apply n_same; (with_reducible assumption); (walk_at "none")) | (with_reducible apply n_kp; (with_reducible assumption); (walk_at "nin"); (walk_at "none")))
local macro_rules | `(tactic| walk_at "mem") => `(tactic| first | (with_reducible exact List.mem_cons_self) | (with_reducible apply List.mem_cons_of_mem; (walk_at "mem")))
local macro_rules | `(tactic| walk_at "am") => `(tactic| first | (with_reducible exact am0) | (with_reducible apply am1; (first | (apply Or.inl; walk_at "mem") | (apply Or.inr; walk_at "none")); (walk_at "am")))
local macro_rules | `(tactic| walk_at "tk") => `(tactic| first | (with_reducible exact TK.refl _) | with_reducible assumption | (with_reducible apply t_tk; (with_reducible assumption); (walk_at "tk")) | (with_reducible apply t_same; (with_reducible assumption); (walk_at "tk")) | (with_reducible apply t_new; (with_reducible assumption); (walk_at "tk")) | (with_reducible apply t_wr; (walk_at "h"); (with_unfolding_all rfl); (walk_at "tk")))
local macro_rules | `(tactic| walk_at "same") => `(tactic| first | (with_reducible exact L2.Same.refl _) | with_reducible assumption | (with_reducible apply s_same; (with_reducible assumption); (walk_at "same")) | (with_reducible apply s_new; (with_reducible assumption); (walk_at "same")) | (with_reducible apply s_wrn; (walk_at "none"); (walk_at "same")))
local macro_rules | `(tactic| walk_at "kp") => `(tactic| first | (with_reducible exact Kp.refl _ _) | with_reducible assumption | (with_reducible apply k_same; (with_reducible assumption); (walk_at "kp")) | (with_reducible apply k_kp; (with_reducible assumption); (walk_at "kp")) | (with_reducible apply k_kpm; (with_reducible assumption); (walk_at "am"); (walk_at "kp")) | (with_reducible apply k_new; (with_reducible assumption); (walk_at "kp")) | (with_reducible apply k_wr; (walk_at "mem"); (walk_at "kp")) | (with_reducible apply k_wrn; (walk_at "none"); (walk_at "kp")))
local macro_rules | `(tactic| walk_at "rp") => `(tactic| first | with_reducible assumption | (with_reducible exact Rp.int) | (with_reducible exact Rp.str) | (with_reducible exact Rp.none) | (with_reducible exact Rp.bool) | (with_reducible apply Rp.tk'; (with_reducible assumption); (walk_at "tk")) | (with_reducible apply Rp.tup; (walk_at "h"); (walk_at "rpl")))
local macro_rules | `(tactic| walk_at "rpl") => `(tactic| first | with_reducible assumption | (with_reducible exact RpL.nil) | (with_reducible apply RpL.tk'; (with_reducible assumption); (walk_at "tk")) | (with_reducible apply RpL.cons; (walk_at "rp"); (walk_at "rpl")))
local macro_rules | `(tactic| walk_at "g") => `(tactic| repeat (first | refine ⟨_, rfl, ?_⟩ | refine ⟨_, _, rfl, rfl, ?_⟩ | refine ⟨rfl, _, rfl, ?_⟩ | refine ⟨_, _, rfl, rfl, (by first | decide | omega), ?_⟩))
abbrev sLBentT : Stmt := top 29
abbrev sLIsHead : Stmt := top 30
def spBentT : Sp := fun vs H Q _ => ∃ (d f : Addr) (n : Int) (cs : List Nat), vs = [.ref d, .str (S cs)] ∧ Deck H d f n ∧ n < 2 ^ 59 ∧ cs.length ≤ 400 ∧
  ∀ (H' : Hp) (cs' : List Nat), cs'.length ≤ 2 * cs.length + 8 → Kp [d] H H' → TK H H' → Deck H' d f (n + 3) → Q (.str (S cs')) H'
theorem str_ex (z : Str) : ∃ cs, z = S cs ∧ cs.length = z.length := ⟨z.cps.toList, by cases z; rfl, by
  show z.cps.toList.length = z.cps.size
  exact Array.length_toList⟩
theorem str_app (x y : Str) : (x ++ y).length = x.length + y.length := by
  show (x.cps ++ y.cps).size = x.cps.size + y.cps.size
  exact Array.size_append
def partOk (j : Nat) (d : PyData) : Bool := if j = 1 then kindD d else fromD d 0 1000000
theorem headB_parts {ds : List PyData} (h : ds.length = 7) (ok : ∀ j d, ds[j]? = some d → partOk j d = true) : headB ds = true := by
  match ds, h with
  | d0 :: d1 :: dr, h =>
    have l5 : dr.length = 5 := by rw [List.length_cons, List.length_cons] at h; omega
    show (decide (dr.length = 5) && kindD d1 && (d0 :: dr).all fun d => fromD d 0 1000000) = true
    rw [decide_eq_true l5, Bool.true_and, Bool.and_eq_true]
    refine ⟨ok 1 d1 rfl, List.all_eq_true.mpr fun d hd => ?_⟩
    rcases List.mem_cons.mp hd with rfl | hd
    · exact ok 0 _ rfl
    · obtain ⟨j, hj, e⟩ := List.getElem_of_mem hd
      have := ok (j + 2) d (by
        show dr[j]? = some d
        rw [List.getElem?_eq_getElem hj, e])
      unfold partOk at this
      rw [if_neg (by omega)] at this
      exact this
theorem headB_bad {ds : List PyData} {j : Nat} {d : PyData} (e : ds[j]? = some d) (h : partOk j d = false) : headB ds = false := by
  match ds, j, e with
  | d0 :: d1 :: dr, 0, e =>
    cases e
    show (decide (dr.length = 5) && kindD d1 && (fromD d 0 1000000 && dr.all fun d => fromD d 0 1000000)) = false
    have : fromD d 0 1000000 = false := h
    rw [this, Bool.false_and, Bool.and_false]
  | d0 :: d1 :: dr, 1, e =>
    cases e
    show (decide (dr.length = 5) && kindD d && _) = false
    have : kindD d = false := h
    rw [this, Bool.and_false, Bool.false_and]
  | d0 :: d1 :: dr, j + 2, e =>
    have e : dr[j]? = some d := e
    have hm : d ∈ dr := List.mem_of_getElem? e
    have h : fromD d 0 1000000 = false := by
      unfold partOk at h
      rw [if_neg (by omega)] at h
      exact h
    show (decide (dr.length = 5) && kindD d1 && (fromD d0 0 1000000 && dr.all fun d => fromD d 0 1000000)) = false
    have : (dr.all fun d => fromD d 0 1000000) = false := by
      cases e2 : dr.all fun d => fromD d 0 1000000 with
      | false => rfl
      | true =>
        have := List.all_eq_true.mp e2 d hm
        rw [h] at this
        cases this
    rw [this, Bool.and_false, Bool.and_false]
  | [], _, e => cases e
  | [d0], _, _ => rfl

section
variable {P : Program} {w : World} {K : PySem.W.Frag} {mg : Str → Option Value} {base : Heap}
theorem scLBentT : FnScope ["_law_deck_here", "_law_text_here", "_law_way", "_law_at", "_law_some", "_law_thing"] ["_law_deck_here", "_law_text_here"] (defScope sLBentT) := ⟨rfl, rfl, rfl, by decide +kernel, rfl, by decide +kernel, by decide +kernel⟩
theorem ok_lbentt {f : Addr} {fd : FuncData} (F : Fun K "_law_bent_text" "_law_bent_text" sLBentT f fd) (B : LXB mg) (cN : Cd P w K mg base 2 "_law_next" ["_law_deck_here", "_law_many"] spNext) (cP : Cd P w K mg base 3 "_law_pick" ["_law_deck_here", "_law_things"] (spPick K)) : FnOk P w K mg base CX0 4 f fd ["_law_deck_here", "_law_text_here"] spBentT := by
  obtain ⟨fN, fdN, GN, mN, kN, bN⟩ := cN.tk
  obtain ⟨fP, fdP, GP, mP, kP, bP⟩ := cP.tk
  refine F.ok scLBentT (fun vs H Q E h => ?_) (fun cdv A outer s H vs Q E hr h => ?_)
  · obtain ⟨d, f, n, cs, rfl, _⟩ := h
    rfl
  · obtain ⟨d, f, n, cs, rfl, D0, hn, lc, k⟩ := h
    have hr3 : Room 3 _ := hr
    have hr2 : Room 2 _ := hr.mono (by decide)
    refine ⟨_, (pss_cons (ps_set (i := 2) scLBentT.nd rfl (Or.inl rfl) (pe_call GN hr2 rfl mN kN bN .nil pass0 (pa_cons (pv 0) (pa_cons pe_int pa_nil))))
       (pss_cons (ps_set (i := 3) scLBentT.nd rfl (Or.inl rfl) (pe_call GN hr2 rfl mN kN bN .nil pass0 (pa_cons (pv 0) (pa_cons (pe_op op_add (pe_callB (lenK (K := K) rfl) (by rfl) B.len PySem.boot_len (pa_cons (pv 1) pa_nil)) pe_int) pa_nil))))
       (pss_cons (ps_set (i := 4) scLBentT.nd rfl (Or.inl rfl) (pe_lst (pa_cons pe_str (pa_cons pe_str (pa_cons pe_str (pa_cons pe_str (pa_cons pe_str (pa_cons pe_str (pa_cons pe_str (pa_cons pe_str (pa_cons pe_str (pa_cons pe_str (pa_cons pe_str (pa_cons pe_str (pa_cons pe_str (pa_cons pe_str pa_nil))))))))))))))))
       (pss_cons (ps_set (i := 5) scLBentT.nd rfl (Or.inl rfl) (pe_call GP hr3 rfl mP kP bP .nil pass0 (pa_cons (pv 0) (pa_cons (pv 4) pa_nil))))
       (pss_cons (ps_if (pt_cmpR op_eq (pv 2) pe_int (nomark _))
       (pss_one (ps_ret (pe_op op_add_str (pe_slice sl_str (pv 1) po_none (po_some (pv 3))) (pe_slice sl_str (pv 1) (po_some (pe_op op_add (pv 3) pe_int)) po_none))))
       pss_nil)
       (pss_cons (ps_if (pt_cmpR op_lt (pv 2) pe_int (nomark _))
       (pss_one (ps_ret (pe_op op_add_str (pe_op op_add_str (pe_slice sl_str (pv 1) po_none (po_some (pv 3))) (pv 5)) (pe_slice sl_str (pv 1) (po_some (pv 3)) po_none))))
       pss_nil)
       (pss_cons (ps_if (pt_cmpR op_eq (pv 2) pe_int (nomark _))
       (pss_one (ps_ret (pe_op op_add_str (pe_op op_add_str (pe_slice sl_str (pv 1) po_none (po_some (pv 3))) (pv 5)) (pe_slice sl_str (pv 1) (po_some (pe_op op_add (pv 3) pe_int)) po_none))))
       pss_nil)
       (pss_cons (ps_if (pt_cmpR op_eq (pv 2) pe_int (nomark _))
       (pss_one (ps_ret (pe_slice sl_str (pv 1) (po_some (pv 3)) po_none)))
       pss_nil)
       (pss_one (ps_ret (pe_slice sl_str (pv 1) po_none (po_some (pv 3))))))))))))), ?_⟩
    refine ⟨_, rfl, d, f, 6, n, rfl, by decide, by omega, D0, fun r H1 r0 r1 k1 D1 t1 => ?_⟩
    have hz : (S cs).length ≤ sizeLine := by rw [S_len]; exact Nat.le_trans lc (by decide)
    refine ⟨_, rfl, _, rfl, _, cs.length, rfl, ⟨hz, (S_len _).symm⟩, _, _, rfl, rfl, d, f, _, n + 1, rfl, by omega, by omega, D1, fun at' H2 a0 a1 k2 D2 t2 => ?_⟩
    refine ⟨(by show 14 ≤ sizeLine; decide), fun l n_l => ?_⟩
    have nld : l ≠ d := (ne_of_none D2.lst.choose_spec n_l).symm
    obtain ⟨H3, e_H3, s3, hl⟩ := new_any n_l
    rw [← e_H3]
    clear e_H3
    dsimp only [gName, List.set]
    refine ⟨_, rfl, _, rfl, d, f, l, n + 2, _, rfl, (D2.same s3).mono (by omega), by omega, hl, nld, (by show 0 < 14; decide), (by show 14 ≤ 1000; decide), fun H4 x hx k4 D4 t4 => ?_⟩
    obtain ⟨z, rfl, lz⟩ : ∃ z : Str, x = .str z ∧ z.length ≤ 8 := by
      have : ([Str.ofString "0", Str.ofString "00", Str.ofString ".", Str.ofString ":", Str.ofString "l", Str.ofString "x", Str.ofString " ", Str.ofString "-", Str.ofString "+", Str.ofString "1", Str.ofString "999999", Str.ofString "1000001", Str.ofString "_", Str.ofString ""].all fun z => decide (z.length ≤ 8)) = true := by decide +kernel
      have hx : x ∈ [Str.ofString "0", Str.ofString "00", Str.ofString ".", Str.ofString ":", Str.ofString "l", Str.ofString "x", Str.ofString " ", Str.ofString "-", Str.ofString "+", Str.ofString "1", Str.ofString "999999", Str.ofString "1000001", Str.ofString "_", Str.ofString ""].map V.str := hx
      obtain ⟨z, hz, rfl⟩ := List.mem_map.mp hx
      exact ⟨z, rfl, of_decide_eq_true (List.all_eq_true.mp this z hz)⟩
    have kk : ∀ z' : Str, z'.length ≤ 2 * cs.length + 8 → Q (.str z') H4 := fun z' h => by
      obtain ⟨cs', rfl, e⟩ := str_ex z'
      exact k _ cs' (by omega) ((k1.trans k2).trans ((Kp.of s3).trans k4)) ((t1.trans t2).trans ((TK.of s3).trans t4)) (D4.mono (by omega))
    clear k
    have hcut : ∀ lo hi, (cutS (S cs) lo hi).length ≤ cs.length := fun lo hi => by
      have := cutS_length (S cs) lo hi
      rw [S_len] at this
      exact this
    have hsz : ∀ m : Nat, m ≤ 2000 → m ≤ sizeLine := fun m h => Nat.le_trans h (by decide)
    refine ⟨_, rfl, rfl, _, rfl, iteI (fun c => ?_) (fun c => ?_)⟩
    · refine ⟨_, rfl, _, rfl, _, rfl, _, rfl, hz, _, rfl, _, rfl, _, _, rfl, rfl, _, rfl, _, rfl, hz, _, _, rfl, rfl, ?_, ?_⟩
      · have := hcut none (some at')
        have := hcut (some (at' + 1)) none
        exact hsz _ (by omega)
      · refine kk _ ?_
        have := hcut none (some at')
        have := hcut (some (at' + 1)) none
        rw [str_app]
        omega
    have mid : ∀ lo hi (G : Prop), (∀ h1 : (cutS (S cs) none lo).length + z.length ≤ sizeLine, ∀ h2 : (cutS (S cs) none lo ++ z).length + (cutS (S cs) hi none).length ≤ sizeLine, Q (.str ((cutS (S cs) none lo ++ z) ++ cutS (S cs) hi none)) H4 → G) → G := fun lo hi G h => by
      have := hcut none lo
      have := hcut hi none
      refine h (hsz _ (by omega)) (hsz _ (by rw [str_app]; omega)) (kk _ ?_)
      rw [str_app, str_app]
      omega
    dsimp only [tNext]
    refine ⟨_, rfl, _, _, rfl, rfl, _, rfl, iteP (fun c3 => ?_) (fun c3 => ?_)⟩
    · refine ⟨_, rfl, _, rfl, _, rfl, _, rfl, hz, _, rfl, mid (some at') (some at') _ fun h1 h2 q => ?_⟩
      exact ⟨_, _, rfl, rfl, h1, _, rfl, _, rfl, _, rfl, _, rfl, hz, _, _, rfl, rfl, h2, q⟩
    dsimp only [tNext]
    refine ⟨_, rfl, rfl, _, rfl, iteI (fun c3 => ?_) (fun c3 => ?_)⟩
    · refine ⟨_, rfl, _, rfl, _, rfl, _, rfl, hz, _, rfl, mid (some at') (some (at' + 1)) _ fun h1 h2 q => ?_⟩
      exact ⟨_, _, rfl, rfl, h1, _, rfl, _, rfl, _, _, rfl, rfl, _, rfl, _, rfl, hz, _, _, rfl, rfl, h2, q⟩
    dsimp only [tNext]
    refine ⟨_, rfl, rfl, _, rfl, iteI (fun c3 => ?_) (fun c3 => ?_)⟩
    · refine ⟨_, rfl, _, rfl, _, rfl, _, rfl, hz, kk _ ?_⟩
      have := hcut (some at') none
      omega
    · refine ⟨_, rfl, _, rfl, _, rfl, _, rfl, hz, kk _ ?_⟩
      have := hcut none (some at')
      omega
theorem scLIsHead : FnScope ["_law_thing", "_law_k", "_law_part"] ["_law_thing"] (defScope sLIsHead) := ⟨rfl, rfl, rfl, by decide +kernel, rfl, by decide +kernel, by decide +kernel⟩
theorem ok_lishead {f : Addr} {fd : FuncData} (F : Fun K "_law_is_head" "_law_is_head" sLIsHead f fd) (B : LXB mg) (nE : mg "enumerate" = none) : FnOk P w K mg base CX0 1 f fd ["_law_thing"] (spIsHeadK K) := by
  refine F.ok scLIsHead (fun vs H Q E h => ?_) (fun cdv A outer s H vs Q E hr h => ?_)
  · obtain ⟨v, d, rfl, _⟩ := h
    rfl
  · obtain ⟨v, d, rfl, hd, k⟩ := h
    refine ⟨_, (pss_cons (ps_if (PW.pt (pw_or (pt_not (pt_val (pe_callB (isiK (K := K) rfl) (by rfl) B.isinstance (by decide +kernel) (pa_cons (pv 0) (pa_cons (pe_bltn (v := .ty "tuple") (by rfl) B.tuple PyProof.Rows.boot_tuple rfl) pa_nil))))) (pw_or1 (pt_cmpR op_ne (pe_callB (lenK (K := K) rfl) (by rfl) B.len PySem.boot_len (pa_cons (pv 0) pa_nil)) pe_int (nomark _)))))
       (pss_one (ps_ret pe_bl))
       pss_nil)
       (pss_cons (ps_for PassesOwn.never rfl (pi_enumT (by rfl) nE (pa_cons (pv 0) pa_nil)) (pg_tup rfl (pgs_cons (pg_name (i := 1) scLIsHead.nd rfl (Or.inl rfl)) (pgs_cons (pg_name (i := 2) scLIsHead.nd rfl (Or.inl rfl)) pgs_nil)))
       (pss_one (ps_if (pt_cmpR op_eq (pv 1) pe_int (nomark _))
       (pss_one (ps_if (PW.pt (pw_or (pt_not (pt_val (pe_callB (isiK (K := K) rfl) (by rfl) B.isinstance (by decide +kernel) (pa_cons (pv 2) (pa_cons (pe_bltn (v := .ty "str") (by rfl) B.str PyProof.Rows.boot_str rfl) pa_nil))))) (pw_or1 (pt_cmpR (notInSeqK (K := K) rfl) (pv 2) (pe_lst (pa_cons pe_str (pa_cons pe_str (pa_cons pe_str (pa_cons pe_str (pa_cons pe_str (pa_cons pe_str pa_nil))))))) (by rfl)))))
       (pss_one (ps_ret pe_bl))
       pss_nil))
       (pss_one (ps_if (PW.pt (pw_or (pt_not (pt_val (pe_callB (isiK (K := K) rfl) (by rfl) B.isinstance (by decide +kernel) (pa_cons (pv 2) (pa_cons (pe_bltn (v := .ty "int") (by rfl) B.int PyProof.Rows.boot_int rfl) pa_nil))))) (pw_or (pt_val (pe_callB (isiK (K := K) rfl) (by rfl) B.isinstance (by decide +kernel) (pa_cons (pv 2) (pa_cons (pe_bltn (v := .ty "bool") (by rfl) B.bool PyProof.Rows.boot_bool rfl) pa_nil)))) (pw_or (pt_cmpR op_lt (pv 2) pe_int (nomark _)) (pw_or1 (pt_cmpR op_gt (pv 2) (pe_op op_pow pe_int pe_int) (nomark _)))))))
       (pss_one (ps_ret pe_bl))
       pss_nil)))))
       (pss_one (ps_ret pe_bl)))), ?_⟩
    refine ⟨_, rfl, _, _, _, _, _, rfl, .ty _, hd.ty, kit_tuple d, _, rfl, ?_⟩
    by_cases ts : tyN d = "tuple"
    rotate_left
    · rw [decide_eq_false ts]
      refine iteT ?_
      have := k H (L2.Same.refl _)
      rw [isHeadD_ty ts] at this
      exact this
    rw [decide_eq_true ts]
    refine iteF ?_
    obtain ⟨ds, rfl⟩ : ∃ ds, d = .tuple ds := by
      cases d with
      | tuple b => exact ⟨b, rfl⟩
      | none => exact absurd ts (by decide)
      | bool b => exact absurd ts (show ¬ ("bool" : String) = "tuple" by decide)
      | int b => exact absurd ts (show ¬ ("int" : String) = "tuple" by decide)
      | str b => exact absurd ts (show ¬ ("str" : String) = "tuple" by decide)
      | list b => exact absurd ts (show ¬ ("list" : String) = "tuple" by decide)
      | dict b => exact absurd ts (show ¬ ("dict" : String) = "tuple" by decide)
    obtain ⟨a, xs, rfl, ha, hx⟩ := hd.inv_tup
    have k : ∀ H', Same H H' → Q (.bl (headB ds)) H' := k
    refine ⟨_, rfl, _, xs.length, rfl, .inr ⟨_, ha, rfl⟩, rfl, _, rfl, iteNI (fun c7 => ?_) (fun c7 => ?_)⟩
    · have := k H (L2.Same.refl _)
      rw [headB_len (by rw [← hx.len]; omega)] at this
      exact this
    have l7 : xs.length = 7 := by omega
    have m7 : ds.length = 7 := by rw [← hx.len, l7]
    dsimp only [tNext]
    refine ⟨_, rfl, a, _, rfl, ha, ?_⟩
    refine for_it (walk_enumT (K := K) (a := a) (xs := xs)) (fun i σ H' => ∃ (v1 v2 : Option V), σ = [some (.ref a), v1, v2] ∧ Same H H' ∧ ∀ j, j < i → ∀ d, ds[j]? = some d → partOk j d = true)
      ⟨_, _, rfl, L2.Same.refl _, fun j hj => by omega⟩ (fun i σ H' _ ⟨_, _, _, s, _⟩ => SqT.tk ha (TK.of s)) ?_ ?_
    · rintro i y σ H1 H2 hi ⟨v1, v2, rfl, s1, ok⟩ ⟨T, x, rfl, nT, rfl, ex⟩
      obtain ⟨d, ed, hdx⟩ := hx.getV ex
      have s2 : Same H1 (upd H1 T (.tup [.int (i : Nat), x])) := (L2.Same.refl _).new nT
      have hT : upd H1 T (.tup [.int (i : Nat), x]) T = some (.tup [.int (i : Nat), x]) := upd_same
      generalize upd H1 T (.tup [.int (i : Nat), x]) = H2 at s2 hT
      have hdx := (hdx.sm s1).sm s2
      have bad : partOk i d = false → ∀ H', Same H2 H' → Q (.bl false) H' := fun h H' s => by
        have := k H' ((s1.trans s2).trans s)
        rw [headB_bad ed h] at this
        exact this
      have good : partOk i d = true → ∀ j, j < i + 1 → ∀ d', ds[j]? = some d' → partOk j d' = true := fun h j hj d' e => by
        by_cases c : j = i
        · subst c
          rw [ed] at e
          cases e
          exact h
        · exact ok j (by omega) d' e
      refine ⟨T, _, rfl, SqT.of hT, rfl, _, _, rfl, _, _, rfl, rfl, ?_⟩
      refine ⟨_, rfl, rfl, _, rfl, iteI (fun c1 => ?_) (fun c1 => ?_)⟩
      · have hi1 : i = 1 := by omega
        have ep : partOk i d = kindD d := by unfold partOk; rw [if_pos hi1]
        rw [ep] at bad good
        refine ⟨_, rfl, _, _, _, _, _, rfl, .ty _, hdx.ty, kit_str d, _, rfl, ?_⟩
        by_cases t1 : tyN d = "str"
        rotate_left
        · rw [decide_eq_false t1]
          refine iteT ?_
          exact bad (kindD_ty t1) _ (L2.Same.refl _)
        rw [decide_eq_true t1]
        refine iteF ?_
        obtain ⟨z, rfl⟩ : ∃ z, d = .str z := by
          cases d with
          | str b => exact ⟨b, rfl⟩
          | none => exact absurd t1 (by decide)
          | bool b => exact absurd t1 (show ¬ ("bool" : String) = "str" by decide)
          | int b => exact absurd t1 (show ¬ ("int" : String) = "str" by decide)
          | tuple b => exact absurd t1 (show ¬ ("tuple" : String) = "str" by decide)
          | list b => exact absurd t1 (show ¬ ("list" : String) = "str" by decide)
          | dict b => exact absurd t1 (show ¬ ("dict" : String) = "str" by decide)
        obtain rfl := hdx.inv_str
        refine ⟨_, rfl, (by show 6 ≤ sizeLine; decide), fun kl n_kl => ?_⟩
        obtain ⟨H3, e_H3, s3, hkl⟩ := new_any n_kl
        rw [← e_H3]
        clear e_H3
        have hkl : H3 kl = some (.lst kindsV) := hkl
        refine ⟨kl, _, rfl, .inl (SqL.of hkl), rfl, kinds_flat, _, rfl, ?_⟩
        show if (!inV (.str z) kindsV) = true then _ else _
        cases hk : inV (.str z) kindsV with
        | false => exact bad hk _ s3
        | true => exact ⟨_, _, rfl, (s1.trans s2).trans s3, good hk⟩
      · have ep : partOk i d = fromD d 0 1000000 := by unfold partOk; rw [if_neg (by omega)]
        rw [ep] at bad good
        refine ⟨_, rfl, _, _, _, _, _, rfl, .ty _, hdx.ty, kit_int d, _, rfl, ?_⟩
        by_cases ti : tyN d = "int" ∨ tyN d = "bool"
        rotate_left
        · rw [decide_eq_false ti]
          refine iteT ?_
          exact bad (by
            have : (isIntD d).isSome = false := by rw [isIntD_ty]; exact decide_eq_false fun z => ti (.inl z)
            unfold fromD
            cases e : isIntD d with
            | none => rfl
            | some i => rw [e] at this; cases this) _ (L2.Same.refl _)
        rw [decide_eq_true ti]
        refine iteF ?_
        refine ⟨_, rfl, _, _, _, _, _, rfl, .ty _, hdx.ty, kit_bool d, _, rfl, ?_⟩
        by_cases tb : tyN d = "bool"
        · rw [decide_eq_true tb]
          refine iteT ?_
          exact bad (by
            have : (isIntD d).isSome = false := by rw [isIntD_ty]; exact decide_eq_false fun z => by rw [tb] at z; exact absurd z (by decide)
            unfold fromD
            cases e : isIntD d with
            | none => rfl
            | some i => rw [e] at this; cases this) _ (L2.Same.refl _)
        rw [decide_eq_false tb]
        refine iteF ?_
        have ti : tyN d = "int" := ti.resolve_right tb
        obtain ⟨m, rfl⟩ := isIntD_some (d := d) (by rw [isIntD_ty]; exact decide_eq_true ti)
        obtain rfl := hdx.inv_int
        have ef : fromD (.int m) 0 1000000 = (decide (0 ≤ m) && decide (m ≤ 1000000)) := rfl
        rw [ef] at bad good
        refine ⟨_, rfl, _, _, rfl, rfl, _, rfl, iteP (fun c0 => ?_) (fun c0 => ?_)⟩
        · exact bad (by rw [decide_eq_false (by omega)]; rfl) _ (L2.Same.refl _)
        have e6 : (fun i j : Int => V.int (i ^ j.toNat)) 10 6 = V.int 1000000 := by decide +kernel
        refine ⟨_, rfl, _, _, rfl, rfl, ⟨by decide, by decide, by decide⟩, ?_⟩
        rw [e6]
        refine ⟨_, _, rfl, rfl, _, rfl, iteP (fun cg => ?_) (fun cg => ?_)⟩
        · exact bad (by rw [decide_eq_false (show ¬ m ≤ 1000000 by omega), Bool.and_false]) _ (L2.Same.refl _)
        · exact ⟨_, _, rfl, s1.trans s2, good (by rw [decide_eq_true (by omega), decide_eq_true (by omega)]; rfl)⟩
    · rintro σ H1 ⟨v1, v2, rfl, s1, ok⟩
      have e : headB ds = true := headB_parts m7 fun j d hj => ok j (by rw [l7, ← m7]; exact (List.getElem?_eq_some_iff.mp hj).1) d hj
      rw [e] at k
      exact k _ s1
end
end Wn

namespace Wn
open PySem L2 PySem.Spec PyProof.Rows
/-! ### repr of data with empty dicts in it -/
mutual
/-- no list in it; dicts empty -/
inductive De (K : PySem.W.Frag) (H : Hp) : V → PyData → Prop
  | non : De K H .non .none
  | bl (b : Bool) : De K H (.bl b) (.bool b)
  | int (i : Int) : De K H (.int i) (.int i)
  | str (x : Str) : De K H (.str x) (.str x)
  | tup {a : Addr} {xs : List V} {ds : List PyData} : SqT K H a xs → DeAll K H xs ds → De K H (.ref a) (.tuple ds)
  | dct {a : Addr} : H a = some (.dK []) → De K H (.ref a) (.dict [])
inductive DeAll (K : PySem.W.Frag) (H : Hp) : List V → List PyData → Prop
  | nil : DeAll K H [] []
  | cons {v : V} {vs : List V} {d : PyData} {ds : List PyData} : De K H v d → DeAll K H vs ds → DeAll K H (v :: vs) (d :: ds)
end
section
variable {K : PySem.W.Frag} {H : Hp}
mutual
theorem De.dk : ∀ {v : V} {d : PyData}, De K H v d → Dk K H v d
  | _, _, .non => .non
  | _, _, .bl b => .bl b
  | _, _, .int i => .int i
  | _, _, .str x => .str x
  | _, _, .tup h1 h2 => .tup h1 (DeAll.dk h2)
  | _, _, .dct h => .dct h .nil
theorem DeAll.dk : ∀ {vs : List V} {ds : List PyData}, DeAll K H vs ds → DkAll K H vs ds
  | _, _, .nil => .nil
  | _, _, .cons h1 h2 => .cons (De.dk h1) (DeAll.dk h2)
end
end
section
variable {X : Cx} {pins : List (Addr × Obj)} {σ : L2.St} {H : Hp} {s : Shared}
mutual
theorem De.reads (I : Inv X pins σ H s) : ∀ (d : PyData) (v : V) (u : Value), De X.K H v d → RelV v u → ∃ as, Reads s.heap u d as ∧ sysModules ∉ as
  | .none, _, _, h, r => by
    cases h
    cases r
    exact ⟨_, Reads.none, List.not_mem_nil⟩
  | .bool b, _, _, h, r => by
    cases h
    cases r
    exact ⟨_, Reads.bool b, List.not_mem_nil⟩
  | .int i, _, _, h, r => by
    cases h
    obtain ⟨t, rfl⟩ := r
    exact ⟨_, Reads.int i t, List.not_mem_nil⟩
  | .str x, _, _, h, r => by
    cases h
    obtain ⟨t, rfl⟩ := r
    exact ⟨_, Reads.str x t, List.not_mem_nil⟩
  | .list ds, _, _, h, r => by cases h
  | .tuple ds, _, _, h, r => by
    cases h with
    | tup hs ha =>
      cases r
      obtain ⟨its, rv, ⟨o, ho, hc, n, hd⟩, _⟩ := I.tuple hs
      obtain ⟨as, hr, hn⟩ := De.readsAll I ds _ its ha rv
      exact ⟨_, Reads.tuple ho hc hd hr, hn⟩
  | .dict kvs, _, _, h, r => by
    cases h with
    | dct e =>
      cases r
      obtain ⟨_, hm, vs, kv, o, es, n, ho, hx, hd, _, hp, _⟩ := dk_of I.hok e
      cases vs with
      | cons q vs => cases kv
      | nil =>
        have e0 : es.toList = [] := by
          cases ee : es.toList with
          | nil => rfl
          | cons x l => rw [ee] at hp; cases hp
        refine ⟨_, Reads.dict (as := []) (bs := []) ho hx.1 hd (by rw [e0]; exact ReadsAll.nil) (by rw [e0]; exact ReadsAll.nil), ?_⟩
        intro z
        rw [List.append_nil] at z
        have := List.mem_singleton.mp z
        rw [← this] at hm
        exact absurd hm (by decide)
theorem De.readsAll (I : Inv X pins σ H s) : ∀ (ds : List PyData) (vs : List V) (us : List Value), DeAll X.K H vs ds → Vals vs us → ∃ as, ReadsAll s.heap us ds as ∧ sysModules ∉ as
  | [], _, _, h, r => by
    cases h
    cases r
    exact ⟨_, ReadsAll.nil, List.not_mem_nil⟩
  | d :: ds, _, _, h, r => by
    cases h with
    | cons h1 h2 =>
      cases r with
      | cons r1 r2 =>
        obtain ⟨as, q1, n1⟩ := De.reads I d _ _ h1 r1
        obtain ⟨bs, q2, n2⟩ := De.readsAll I ds _ _ h2 r2
        exact ⟨_, ReadsAll.cons q1 q2, fun z => (List.mem_append.mp z).elim n1 n2⟩
end
end
section
variable {X : Cx} {K : PySem.W.Frag}
/-- what repr takes: data without dicts, or without lists and with empty dicts alone -/
def rReprE (K : PySem.W.Frag) : List V → Hp → VK → Prop := fun xs H Q => ∃ (x : V) (d : PyData), xs = [x] ∧ ((Dp K H x d ∧ d.hasDict = false) ∨ De K H x d) ∧ d.showable = true ∧ d.depth ≤ 60 ∧ d.shown.length ≤ sizeLine ∧ Q (.str d.shown) H
theorem call_reprE (hg : X.A.guards = some []) (hu : X.A.units + 64 < cLine) : CallR X (.builtin "repr") (rReprE X.K) := by
  intro pins s σ H xs us Q I r h
  obtain ⟨x, d, rfl, hd | hd, hs, hdep, hsz, q⟩ := h
  · exact call_reprD hg hu pins s σ H _ us Q I r ⟨x, d, rfl, hd.1, hs, hd.2, hdep, hsz, q⟩
  obtain ⟨u, rfl, rx⟩ := vals1 r
  have fin : ∀ (h' : Heap) (t tk : Tok), (∀ b o, s.heap.get? b = some o → h'.get? b = some o) → EP X pins σ Q (.str d.shown t) { s with heap := h', toks := tk } := fun h' t tk hk => ⟨.str d.shown, H, I.kept hk, ⟨t, rfl⟩, q⟩
  obtain ⟨as, rd, hm⟩ := De.reads I d x u hd rx
  have same : ∀ b o, s.heap.get? b = some o → s.heap.get? b = some o := fun _ _ e => e
  cases rd with
  | none => exact PySem.P.repr_of_none (fin s.heap _ _ same)
  | bool b => exact PySem.P.repr_of_bool (fin s.heap _ _ same)
  | int i t =>
    have hi : i.natAbs.log2 < 1920 := by simpa [PyData.showable] using hs
    exact PySem.P.repr_of_int hi (fin s.heap _ _ same)
  | str x t => exact PySem.P.repr_of_str (fin s.heap _ _ same) (hsz := hsz)
  | list h1 h2 h3 h4 => exact repr_of_reads' (.list h1 h2 h3 h4) hs (fun _ => hm) hg (by omega) same (fun h' t tk hk => fin h' t tk hk) (hsz := hsz)
  | tuple h1 h2 h3 h4 => exact repr_of_reads' (.tuple h1 h2 h3 h4) hs (fun _ => hm) hg (by omega) same (fun h' t tk hk => fin h' t tk hk) (hsz := hsz)
  | dict h1 h2 h3 h4 h5 => exact repr_of_reads' (.dict h1 h2 h3 h4 h5) hs (fun _ => hm) hg (by omega) same (fun h' t tk hk => fin h' t tk hk) (hsz := hsz)
theorem reprE (hK : X.K = K) (hg : X.A.guards = some []) (hu : X.A.units + 64 < cLine) : CallR X (.builtin "repr") (rReprE K) := hK ▸ call_reprE hg hu
end
end Wn

namespace Wn
open PySem L2
/-! ### data whose repr and == are at hand: no great ints, signs that are signs, no dicts -/
mutual
def nice : PyData → Bool
  | .none | .bool _ => true
  | .int i => decide (i.natAbs.log2 < 1920)
  | .str x => PySem.PyData.strOk x
  | .list xs | .tuple xs => niceAll xs
  | .dict _ => false
def niceAll : List PyData → Bool
  | [] => true
  | x :: xs => nice x && niceAll xs
end
mutual
theorem nice_lay : ∀ d : PyData, nice d = true → d.canLay0 = true
  | .none, _ => rfl
  | .bool _, _ => rfl
  | .int _, _ => rfl
  | .str x, h => h
  | .list xs, h => niceAll_lay xs h
  | .tuple xs, h => niceAll_lay xs h
  | .dict _, h => by cases h
theorem niceAll_lay : ∀ ds : List PyData, niceAll ds = true → PyData.canLayAll0 ds = true
  | [], _ => rfl
  | x :: xs, h => by
    unfold niceAll at h
    rw [Bool.and_eq_true] at h
    unfold PyData.canLayAll0
    rw [nice_lay x h.1, niceAll_lay xs h.2]
    rfl
end
mutual
theorem nice_show : ∀ d : PyData, nice d = true → d.showable = true
  | .none, _ => rfl
  | .bool _, _ => rfl
  | .int _, h => h
  | .str x, h => rfl
  | .list xs, h => niceAll_show xs h
  | .tuple xs, h => niceAll_show xs h
  | .dict _, h => by cases h
theorem niceAll_show : ∀ ds : List PyData, niceAll ds = true → PyData.showableAll ds = true
  | [], _ => rfl
  | x :: xs, h => by
    unfold niceAll at h
    rw [Bool.and_eq_true] at h
    unfold PyData.showableAll
    rw [nice_show x h.1, niceAll_show xs h.2]
    rfl
end
mutual
theorem nice_ints : ∀ d : PyData, nice d = true → d.intsShort 2000 = true
  | .none, _ => rfl
  | .bool _, _ => rfl
  | .int i, h => by
    have h : i.natAbs.log2 < 1920 := of_decide_eq_true h
    have := PyProof.Rows.int_text_len_1921 h
    unfold PyData.intsShort
    refine decide_eq_true ?_
    show (Str.ofString (toString i)).length ≤ 2000
    omega
  | .str x, h => rfl
  | .list xs, h => niceAll_ints xs h
  | .tuple xs, h => niceAll_ints xs h
  | .dict _, h => by cases h
theorem niceAll_ints : ∀ ds : List PyData, niceAll ds = true → PyData.intsShortAll 2000 ds = true
  | [], _ => rfl
  | x :: xs, h => by
    unfold niceAll at h
    rw [Bool.and_eq_true] at h
    unfold PyData.intsShortAll
    rw [nice_ints x h.1, niceAll_ints xs h.2]
    rfl
end
theorem nice_ok {d : PyData} (h : nice d = true) (hd : d.depth ≤ 60) (hb : d.bulk ≤ 8000) : d.showable = true ∧ d.hasDict = false ∧ d.depth ≤ 60 ∧ d.shown.length ≤ sizeLine := by
  have h1 := nice_lay d h
  refine ⟨nice_show d h, PyData.hasDict_of_canLay d h1, hd, ?_⟩
  have := PyData.shown_le_bulk 2000 (by decide) d (PyData.leavesShort_of_canLay0 2000 d h1 (nice_ints d h))
  rw [sizeLine_eq]
  omega
theorem nice_shaped {d : PyData} (h : nice d = true) (hd : d.depth ≤ 64) : SeqAt.shaped d = true := by
  unfold SeqAt.shaped
  rw [nice_lay d h, decide_eq_true hd]
  rfl
theorem niceAll_app : ∀ (xs ys : List PyData), niceAll (xs ++ ys) = (niceAll xs && niceAll ys)
  | [], ys => by
    show niceAll ys = (true && niceAll ys)
    rw [Bool.true_and]
  | x :: xs, ys => by
    show (nice x && niceAll (xs ++ ys)) = ((nice x && niceAll xs) && niceAll ys)
    rw [niceAll_app xs ys, Bool.and_assoc]
theorem niceAll_of : ∀ {xs : List PyData}, (∀ x ∈ xs, nice x = true) → niceAll xs = true
  | [], _ => rfl
  | x :: xs, h => by
    show (nice x && niceAll xs) = true
    rw [h x List.mem_cons_self, niceAll_of fun y hy => h y (List.mem_cons_of_mem _ hy)]
    rfl
theorem niceAll_mem : ∀ {xs : List PyData}, niceAll xs = true → ∀ x ∈ xs, nice x = true
  | y :: ys, h, x, hx => by
    unfold niceAll at h
    rw [Bool.and_eq_true] at h
    rcases List.mem_cons.mp hx with rfl | hx
    · exact h.1
    · exact niceAll_mem h.2 x hx
theorem nice_int {i : Int} (h : i.natAbs < 2 ^ 60) : nice (.int i) = true := by
  show decide (i.natAbs.log2 < 1920) = true
  refine decide_eq_true ?_
  by_cases hx : i.natAbs = 0
  · rw [hx]
    decide
  · have : i.natAbs.log2 < 60 := (Nat.log2_lt hx).mpr h
    omega
theorem nice_S {cs : List Nat} (h : ∀ c ∈ cs, c < 0x110000) : nice (.str (SX.S cs)) = true := by
  show (SX.S cs).cps.all (· < 0x110000) = true
  rw [← Array.all_toList, List.all_eq_true]
  intro c hc
  exact decide_eq_true (h c (by simpa using hc))
theorem bulk_le {B : Nat} : ∀ {xs : List PyData}, (∀ x ∈ xs, x.bulk ≤ B) → PyData.bulkAll xs ≤ (B + 1) * xs.length
  | [], _ => Nat.zero_le _
  | x :: xs, h => by
    have h1 := h x List.mem_cons_self
    have h2 := bulk_le fun y hy => h y (List.mem_cons_of_mem _ hy)
    rw [List.length_cons, Nat.mul_succ]
    unfold PyData.bulkAll
    omega
theorem depth_le {B : Nat} : ∀ {xs : List PyData}, (∀ x ∈ xs, x.depth ≤ B) → PyData.depthAll xs ≤ B
  | [], _ => Nat.zero_le _
  | x :: xs, h => by
    have h1 := h x List.mem_cons_self
    have h2 := depth_le fun y hy => h y (List.mem_cons_of_mem _ hy)
    unfold PyData.depthAll
    omega
end Wn

namespace Wn
open PySem L2
/-! ### nice data with empty dicts -/
mutual
def niceE : PyData → Bool
  | .none | .bool _ => true
  | .int i => decide (i.natAbs.log2 < 1920)
  | .str x => x.cps.toList.all fun c => decide (c < 0x110000)
  | .list xs | .tuple xs => niceEAll xs
  | .dict kvs => kvs.isEmpty
def niceEAll : List PyData → Bool
  | [] => true
  | x :: xs => niceE x && niceEAll xs
end
mutual
theorem niceE_show : ∀ d : PyData, niceE d = true → d.showable = true
  | .none, _ => rfl
  | .bool _, _ => rfl
  | .int _, h => h
  | .str x, h => rfl
  | .list xs, h => niceEAll_show xs h
  | .tuple xs, h => niceEAll_show xs h
  | .dict [], h => rfl
  | .dict (_ :: _), h => by cases h
theorem niceEAll_show : ∀ ds : List PyData, niceEAll ds = true → PyData.showableAll ds = true
  | [], _ => rfl
  | x :: xs, h => by
    unfold niceEAll at h
    rw [Bool.and_eq_true] at h
    unfold PyData.showableAll
    rw [niceE_show x h.1, niceEAll_show xs h.2]
    rfl
end
mutual
theorem niceE_short : ∀ d : PyData, niceE d = true → d.leavesShort 2000 = true
  | .none, _ => rfl
  | .bool _, _ => rfl
  | .int i, h => by
    have h : i.natAbs.log2 < 1920 := of_decide_eq_true h
    have := PyProof.Rows.int_text_len_1921 h
    unfold PyData.leavesShort
    refine decide_eq_true ?_
    show (Str.ofString (toString i)).length ≤ 2000
    omega
  | .str x, h => List.all_eq_true.mpr fun c hc => by
    have := of_decide_eq_true (List.all_eq_true.mp h c hc)
    exact decide_eq_true (by omega)
  | .list xs, h => niceEAll_short xs h
  | .tuple xs, h => niceEAll_short xs h
  | .dict [], h => rfl
  | .dict (_ :: _), h => by cases h
theorem niceEAll_short : ∀ ds : List PyData, niceEAll ds = true → PyData.leavesShortAll 2000 ds = true
  | [], _ => rfl
  | x :: xs, h => by
    unfold niceEAll at h
    rw [Bool.and_eq_true] at h
    unfold PyData.leavesShortAll
    rw [niceE_short x h.1, niceEAll_short xs h.2]
    rfl
end
theorem niceE_ok {d : PyData} (h : niceE d = true) (hd : d.depth ≤ 60) (hb : d.bulk ≤ 8000) : d.showable = true ∧ d.depth ≤ 60 ∧ d.shown.length ≤ sizeLine := by
  refine ⟨niceE_show d h, hd, ?_⟩
  have := PyData.shown_le_bulk 2000 (by decide) d (niceE_short d h)
  rw [sizeLine_eq]
  omega
mutual
theorem Dp.dk {K : PySem.W.Frag} {H : Hp} : ∀ {v : V} {d : PyData}, Dp K H v d → Dk K H v d
  | _, _, .non => .non
  | _, _, .bl b => .bl b
  | _, _, .int i => .int i
  | _, _, .str x => .str x
  | _, _, .lst h1 h2 => .lst h1 (DpAll.dk h2)
  | _, _, .tup h1 h2 => .tup h1 (DpAll.dk h2)
theorem DpAll.dk {K : PySem.W.Frag} {H : Hp} : ∀ {vs : List V} {ds : List PyData}, DpAll K H vs ds → DkAll K H vs ds
  | _, _, .nil => .nil
  | _, _, .cons h1 h2 => .cons (Dp.dk h1) (DpAll.dk h2)
end
mutual
theorem De.sm {K : PySem.W.Frag} {H H' : Hp} (e : Same H H') : ∀ {v : V} {d : PyData}, De K H v d → De K H' v d
  | _, _, .non => .non
  | _, _, .bl b => .bl b
  | _, _, .int i => .int i
  | _, _, .str x => .str x
  | _, _, .tup h1 h2 => .tup (SqT.tk h1 (TK.of e)) (DeAll.sm e h2)
  | _, _, .dct h1 => .dct (e _ _ h1)
theorem DeAll.sm {K : PySem.W.Frag} {H H' : Hp} (e : Same H H') : ∀ {vs : List V} {ds : List PyData}, DeAll K H vs ds → DeAll K H' vs ds
  | _, _, .nil => .nil
  | _, _, .cons h1 h2 => .cons (De.sm e h1) (DeAll.sm e h2)
end
/-- a thing whose repr is at hand -/
def ThE (K : PySem.W.Frag) (H : Hp) (v : V) (d : PyData) : Prop := ((Dp K H v d ∧ d.hasDict = false) ∨ De K H v d) ∧ niceE d = true ∧ d.depth ≤ 60 ∧ d.bulk ≤ 8000
theorem ThE.dk {K : PySem.W.Frag} {H : Hp} {v : V} {d : PyData} (h : ThE K H v d) : Dk K H v d := by
  rcases h.1 with h | h
  · exact Dp.dk h.1
  · exact De.dk h
theorem ThE.sm {K : PySem.W.Frag} {H H' : Hp} {v : V} {d : PyData} (h : ThE K H v d) (e : Same H H') : ThE K H' v d :=
  ⟨h.1.imp (fun h => ⟨Dp.sm e h.1, h.2⟩) (fun h => De.sm e h), h.2⟩
/-- a leaf of a head, bent or not: what may stand in a tuple -/
structure Lf (K : PySem.W.Frag) (H : Hp) (v : V) (d : PyData) : Prop where
  at_ : (Dp K H v d ∧ d.hasDict = false) ∨ De K H v d
  nice : niceE d = true
  depth : d.depth ≤ 2
  bulk : d.bulk ≤ 20
theorem Lf.th {K : PySem.W.Frag} {H : Hp} {v : V} {d : PyData} (h : Lf K H v d) : ThE K H v d := ⟨h.at_, h.nice, by have := h.depth; omega, by have := h.bulk; omega⟩
theorem Lf.int {K : PySem.W.Frag} {H : Hp} {i : Int} (h : i.natAbs.log2 < 1920) : Lf K H (.int i) (.int i) := ⟨.inl ⟨.int _, rfl⟩, decide_eq_true h, by show 0 ≤ 2; decide, by show 0 ≤ 20; decide⟩
inductive LfAll (K : PySem.W.Frag) (H : Hp) : List V → List PyData → Prop
  | nil : LfAll K H [] []
  | cons {v : V} {vs : List V} {d : PyData} {ds : List PyData} : Lf K H v d → LfAll K H vs ds → LfAll K H (v :: vs) (d :: ds)
theorem LfAll.app {K : PySem.W.Frag} {H : Hp} : ∀ {xs : List V} {ds : List PyData}, LfAll K H xs ds → ∀ {ys : List V} {es : List PyData}, LfAll K H ys es → LfAll K H (xs ++ ys) (ds ++ es)
  | _, _, .nil, _, _, h => h
  | _, _, .cons h1 h2, _, _, h => .cons h1 (LfAll.app h2 h)
theorem LfAll.take {K : PySem.W.Frag} {H : Hp} : ∀ (k : Nat) {xs : List V} {ds : List PyData}, LfAll K H xs ds → LfAll K H (xs.take k) (ds.take k)
  | 0, _, _, _ => .nil
  | k + 1, _, _, .nil => .nil
  | k + 1, _, _, .cons h1 h2 => .cons h1 (LfAll.take k h2)
theorem LfAll.drop {K : PySem.W.Frag} {H : Hp} : ∀ (k : Nat) {xs : List V} {ds : List PyData}, LfAll K H xs ds → LfAll K H (xs.drop k) (ds.drop k)
  | 0, _, _, h => h
  | k + 1, _, _, .nil => .nil
  | k + 1, _, _, .cons h1 h2 => LfAll.drop k h2
theorem LfAll.rev {K : PySem.W.Frag} {H : Hp} : ∀ {xs : List V} {ds : List PyData}, LfAll K H xs ds → LfAll K H xs.reverse ds.reverse
  | _, _, .nil => .nil
  | _, _, .cons h1 h2 => by
    rw [List.reverse_cons, List.reverse_cons]
    exact LfAll.app (LfAll.rev h2) (.cons h1 .nil)
theorem LfAll.len {K : PySem.W.Frag} {H : Hp} : ∀ {vs : List V} {ds : List PyData}, LfAll K H vs ds → vs.length = ds.length
  | _, _, .nil => rfl
  | _, _, .cons _ h => by rw [List.length_cons, List.length_cons, LfAll.len h]
theorem LfAll.cut {K : PySem.W.Frag} {H : Hp} {xs : List V} {ds : List PyData} {lo hi : Option Int} (h : LfAll K H xs ds) : LfAll K H (cutL xs lo hi) (cutL ds lo hi) := by
  unfold cutL
  rw [h.len]
  exact LfAll.take _ (LfAll.drop _ h)
theorem LfAll.nice {K : PySem.W.Frag} {H : Hp} : ∀ {vs : List V} {ds : List PyData}, LfAll K H vs ds → niceEAll ds = true ∧ PyData.depthAll ds ≤ 2 ∧ PyData.bulkAll ds ≤ 21 * ds.length
  | _, _, .nil => ⟨rfl, Nat.zero_le _, Nat.zero_le _⟩
  | _, _, .cons h1 h2 => by
    obtain ⟨a, b, c⟩ := LfAll.nice h2
    have := h1.depth
    have := h1.bulk
    refine ⟨?_, ?_, ?_⟩
    · unfold niceEAll
      rw [h1.nice, a]
      rfl
    · unfold PyData.depthAll
      omega
    · unfold PyData.bulkAll
      rw [List.length_cons, Nat.mul_succ]
      omega
/-- all plain, or all without lists -/
def Side (K : PySem.W.Frag) (H : Hp) (vs : List V) (ds : List PyData) : Prop := (DpAll K H vs ds ∧ PyData.hasDictAll ds = false) ∨ DeAll K H vs ds
theorem th_tup {K : PySem.W.Frag} {H : Hp} {a : Addr} {vs : List V} {ds : List PyData} (ha : SqT K H a vs) (h : LfAll K H vs ds) (s : Side K H vs ds) (hl : ds.length ≤ 100) : ThE K H (.ref a) (.tuple ds) := by
  obtain ⟨n1, n2, n3⟩ := h.nice
  refine ⟨?_, n1, ?_, ?_⟩
  · rcases s with s | s
    · exact .inl ⟨.tup ha s.1, s.2⟩
    · exact .inr (.tup ha s)
  · show PyData.depthAll ds + 1 ≤ 60
    omega
  · show PyData.bulkAll ds ≤ 8000
    omega
theorem th_lst {K : PySem.W.Frag} {H : Hp} {a : Addr} {vs : List V} {ds : List PyData} (ha : SqL K H a vs) (h : LfAll K H vs ds) (s : DpAll K H vs ds) (s2 : PyData.hasDictAll ds = false) (hl : ds.length ≤ 100) : ThE K H (.ref a) (.list ds) := by
  obtain ⟨n1, n2, n3⟩ := h.nice
  refine ⟨.inl ⟨.lst ha s, s2⟩, n1, ?_, ?_⟩
  · show PyData.depthAll ds + 1 ≤ 60
    omega
  · show PyData.bulkAll ds ≤ 8000
    omega
theorem DeAll.app {K : PySem.W.Frag} {H : Hp} : ∀ {xs : List V} {ds : List PyData}, DeAll K H xs ds → ∀ {ys : List V} {es : List PyData}, DeAll K H ys es → DeAll K H (xs ++ ys) (ds ++ es)
  | _, _, .nil, _, _, h => h
  | _, _, .cons h1 h2, _, _, h => .cons h1 (DeAll.app h2 h)
/-- a number or a text -/
def FlV (v : V) : Prop := (∃ i : Int, v = .int i ∧ i.natAbs.log2 < 1920) ∨ ∃ z : Str, v = .str z ∧ (z.cps.toList.all fun c => decide (c < 0x110000)) = true ∧ z.length ≤ 20
def dV : V → PyData
  | .int i => .int i
  | .str z => .str z
  | _ => .none
theorem FlV.lf {K : PySem.W.Frag} {H : Hp} {v : V} (h : FlV v) : Lf K H v (dV v) ∧ Dp K H v (dV v) ∧ De K H v (dV v) ∧ (dV v).hasDict = false := by
  rcases h with ⟨i, rfl, h⟩ | ⟨z, rfl, h, h2⟩
  · exact ⟨Lf.int h, .int _, .int _, rfl⟩
  · exact ⟨⟨.inl ⟨.str _, rfl⟩, h, by show 0 ≤ 2; decide, h2⟩, .str _, .str _, rfl⟩
theorem fl_all {K : PySem.W.Frag} {H : Hp} : ∀ {vs : List V}, (∀ v ∈ vs, FlV v) → LfAll K H vs (vs.map dV) ∧ DpAll K H vs (vs.map dV) ∧ DeAll K H vs (vs.map dV) ∧ PyData.hasDictAll (vs.map dV) = false
  | [], _ => ⟨.nil, .nil, .nil, rfl⟩
  | v :: vs, h => by
    obtain ⟨a, b, c, d⟩ := fl_all fun v hv => h v (List.mem_cons_of_mem _ hv)
    obtain ⟨a', b', c', d'⟩ := (h v List.mem_cons_self).lf (K := K) (H := H)
    refine ⟨.cons a' a, .cons b' b, .cons c' c, ?_⟩
    show ((dV v).hasDict || PyData.hasDictAll (vs.map dV)) = false
    rw [d, d']
    rfl
theorem hasDictAll_app : ∀ (xs ys : List PyData), PyData.hasDictAll (xs ++ ys) = (PyData.hasDictAll xs || PyData.hasDictAll ys)
  | [], ys => by
    show PyData.hasDictAll ys = (false || PyData.hasDictAll ys)
    rw [Bool.false_or]
  | x :: xs, ys => by
    show (x.hasDict || PyData.hasDictAll (xs ++ ys)) = ((x.hasDict || PyData.hasDictAll xs) || PyData.hasDictAll ys)
    rw [hasDictAll_app xs ys, Bool.or_assoc]
theorem th_flat {K : PySem.W.Frag} {H : Hp} {a : Addr} {vs : List V} (ha : SqT K H a vs) (h : ∀ v ∈ vs, FlV v) (hl : vs.length ≤ 100) : ThE K H (.ref a) (.tuple (vs.map dV)) := by
  obtain ⟨a1, b1, _, d1⟩ := fl_all (K := K) (H := H) h
  exact th_tup ha a1 (.inl ⟨b1, d1⟩) (by rw [List.length_map]; exact hl)
theorem th_flatL {K : PySem.W.Frag} {H : Hp} {a : Addr} {vs : List V} (ha : SqL K H a vs) (h : ∀ v ∈ vs, FlV v) (hl : vs.length ≤ 100) : ThE K H (.ref a) (.list (vs.map dV)) := by
  obtain ⟨a1, b1, _, d1⟩ := fl_all (K := K) (H := H) h
  exact th_lst ha a1 b1 d1 (by rw [List.length_map]; exact hl)
theorem th_with {K : PySem.W.Frag} {H : Hp} {a : Addr} {xs ys : List V} {x : V} {d : PyData} (ha : SqT K H a (xs ++ x :: ys)) (hx : ∀ v ∈ xs, FlV v) (hy : ∀ v ∈ ys, FlV v) (h : Lf K H x d) (hl : xs.length + ys.length ≤ 90) : ThE K H (.ref a) (.tuple (xs.map dV ++ d :: ys.map dV)) := by
  obtain ⟨a1, b1, c1, d1⟩ := fl_all (K := K) (H := H) hx
  obtain ⟨a2, b2, c2, d2⟩ := fl_all (K := K) (H := H) hy
  refine th_tup ha (a1.app (.cons h a2)) ?_ (by rw [List.length_append, List.length_cons, List.length_map, List.length_map]; omega)
  rcases h.at_ with ⟨q, nd⟩ | q
  · refine .inl ⟨DpAll.app b1 (.cons q b2), ?_⟩
    rw [hasDictAll_app]
    show (PyData.hasDictAll (xs.map dV) || (d.hasDict || PyData.hasDictAll (ys.map dV))) = false
    rw [d1, d2, nd]
    rfl
  · exact .inr (DeAll.app c1 (.cons q c2))
end Wn

set_option maxHeartbeats 1600000
namespace Wn
open PySem L2
open SX (S S_len S_cat S_beq_eq join_S)
set_option pp.maxSteps 700
set_option pp.deepTerms false
local macro_rules | `(tactic| walk_at "h") => `(tactic| first | with_reducible assumption | (with_reducible exact upd_same) | (with_reducible apply g_upd; (walk_at "neq"); (walk_at "h")) | (with_reducible apply g_same; (with_reducible assumption); (walk_at "h")) | (with_reducible apply g_kp; (with_reducible assumption); (walk_at "nin"); (walk_at "h")) | (with_reducible apply g_tk; (with_reducible assumption); (walk_at "h")))
local macro_rules | `(tactic| walk_at "neq") => `(tactic| first | with_reducible assumption | (with_reducible apply Ne.symm; with_reducible assumption) | (with_reducible apply ne_upd; (with_reducible assumption)) | (with_reducible apply Ne.symm; with_reducible apply ne_upd; with_reducible assumption) | (with_reducible apply ne_fr; (with_reducible assumption); (walk_at "h")) | (with_reducible apply ne_fr'; (with_reducible assumption); (walk_at "h")) | (with_reducible apply ne_kd; (walk_at "h"); (walk_at "h"); (with_unfolding_all (intro z; cases z))))
local macro_rules | `(tactic| walk_at "nin") => `(tactic| first | (with_reducible exact nin0) | with_reducible assumption | (with_reducible apply ninc; (walk_at "neq"); (walk_at "nin")))
local macro_rules | `(tactic| walk_at "none") => `(tactic| first | with_reducible assumption | (with_reducible apply n_upd; (with_reducible assumption)) | (with_reducible apply n_same; (with_reducible assumption); (walk_at "none")) | (with_reducible apply n_kp; (with_reducible assumption); (walk_at "nin"); (walk_at "none")))
local macro_rules | `(tactic| walk_at "mem") => `(tactic| first | (with_reducible exact List.mem_cons_self) | (with_reducible apply List.mem_cons_of_mem; (walk_at "mem")))
local macro_rules | `(tactic| walk_at "am") => `(tactic| first | (with_reducible exact am0) | (with_reducible apply am1; (first | (apply Or.inl; walk_at "mem") | (apply Or.inr; walk_at "none")); (walk_at "am")))
local macro_rules | `(tactic| walk_at "tk") => `(tactic| first | (with_reducible exact TK.refl _) | with_reducible assumption | (with_reducible apply t_tk; (with_reducible assumption); (walk_at "tk")) | (with_reducible apply t_same; (with_reducible assumption); (walk_at "tk")) | (with_reducible apply t_new; (with_reducible assumption); (walk_at "tk")) | (with_reducible apply t_wr; (walk_at "h"); (with_unfolding_all rfl); (walk_at "tk")))
local macro_rules | `(tactic| walk_at "same") => `(tactic| first | (with_reducible exact L2.Same.refl _) | with_reducible assumption | (with_reducible apply s_same; (with_reducible assumption); (walk_at "same")) | (with_reducible apply s_new; (with_reducible assumption); (walk_at "same")) | (with_reducible apply s_wrn; (walk_at "none"); (walk_at "same")))
local macro_rules | `(tactic| walk_at "kp") => `(tactic| first | (with_reducible exact Kp.refl _ _) | with_reducible assumption | (with_reducible apply k_same; (with_reducible assumption); (walk_at "kp")) | (with_reducible apply k_kp; (with_reducible assumption); (walk_at "kp")) | (with_reducible apply k_kpm; (with_reducible assumption); (walk_at "am"); (walk_at "kp")) | (with_reducible apply k_new; (with_reducible assumption); (walk_at "kp")) | (with_reducible apply k_wr; (walk_at "mem"); (walk_at "kp")) | (with_reducible apply k_wrn; (walk_at "none"); (walk_at "kp")))
local macro_rules | `(tactic| walk_at "rp") => `(tactic| first | with_reducible assumption | (with_reducible exact Rp.int) | (with_reducible exact Rp.str) | (with_reducible exact Rp.none) | (with_reducible exact Rp.bool) | (with_reducible apply Rp.tk'; (with_reducible assumption); (walk_at "tk")) | (with_reducible apply Rp.tup; (walk_at "h"); (walk_at "rpl")))
local macro_rules | `(tactic| walk_at "rpl") => `(tactic| first | with_reducible assumption | (with_reducible exact RpL.nil) | (with_reducible apply RpL.tk'; (with_reducible assumption); (walk_at "tk")) | (with_reducible apply RpL.cons; (walk_at "rp"); (walk_at "rpl")))
local macro_rules | `(tactic| walk_at "g") => `(tactic| repeat (first | refine ⟨_, rfl, ?_⟩ | refine ⟨_, _, rfl, rfl, ?_⟩ | refine ⟨rfl, _, rfl, ?_⟩ | refine ⟨_, _, rfl, rfl, (by first | decide | omega), ?_⟩))
abbrev sLBentH : Stmt := top 31
theorem mem_cut {α : Type} {xs : List α} {lo hi : Option Int} {v : α} (h : v ∈ cutL xs lo hi) : v ∈ xs := by
  unfold cutL at h
  exact List.mem_of_mem_drop (List.mem_of_mem_take h)
theorem cut_len {α : Type} (xs : List α) (lo hi : Option Int) : (cutL xs lo hi).length ≤ xs.length := by
  unfold cutL
  rw [List.length_take, List.length_drop]
  omega
theorem hd_flat {h : Hd} (ok : h.Ok) : ∀ v ∈ h.vs, FlV v := by
  have num : ∀ n : Nat, n ≤ 1000000 → FlV (.int (n : Int)) := fun n hn => .inl ⟨_, rfl, by
    show (n : Int).natAbs.log2 < 1920
    rw [Int.natAbs_natCast]
    by_cases h0 : n = 0
    · rw [h0]; decide
    · have : n.log2 < 60 := (Nat.log2_lt h0).mpr (by omega)
      omega⟩
  have kd : FlV (.str (S [h.k])) := .inr ⟨_, rfl, by
    have := ok.k
    have c : h.k < 0x110000 := by
      have : (kindsL.all fun c => decide (c < 0x110000)) = true := by decide
      exact of_decide_eq_true (List.all_eq_true.mp this _ ok.k)
    show (([h.k] : List Nat).toArray.toList.all fun c => decide (c < 0x110000)) = true
    simp [c], by rw [S_len]; show 1 ≤ 20; decide⟩
  intro v hv
  have hv : v ∈ [V.int (h.r : Int), .str (S [h.k]), .int (h.a : Int), .int (h.b : Int), .int (h.c : Int), .int (h.d : Int), .int (h.e : Int)] := hv
  simp only [List.mem_cons, List.not_mem_nil, or_false] at hv
  rcases hv with rfl | rfl | rfl | rfl | rfl | rfl | rfl
  · exact num _ ok.r
  · exact kd
  · exact num _ ok.a
  · exact num _ ok.b
  · exact num _ ok.c
  · exact num _ ok.d
  · exact num _ ok.e
def spBentH (K : PySem.W.Frag) : Sp := fun vs H Q _ => ∃ (d f : Addr) (n : Int) (h : Hd) (v : V), vs = [.ref d, v] ∧ Deck H d f n ∧ n < 2 ^ 59 ∧ h.Ok ∧ Rp K H h.D v ∧
  ∀ (H' : Hp) (v' : V) (dd : PyData), ThE K H' v' dd → Kp [d] H H' → TK H H' → Deck H' d f (n + 5) → Q v' H'

section
variable {P : Program} {w : World} {K : PySem.W.Frag} {mg : Str → Option Value} {base : Heap}
theorem scLBentH : FnScope ["_law_deck_here", "_law_head_here", "_law_at", "_law_some", "_law_thing"] ["_law_deck_here", "_law_head_here"] (defScope sLBentH) := ⟨rfl, rfl, rfl, by decide +kernel, rfl, by decide +kernel, by decide +kernel⟩
theorem ok_lbenth {f : Addr} {fd : FuncData} (F : Fun K "_law_bent_head" "_law_bent_head" sLBentH f fd) (nL : mg "list" = none) (cN : Cd P w K mg base 2 "_law_next" ["_law_deck_here", "_law_many"] spNext) : FnOk P w K mg base CX0 4 f fd ["_law_deck_here", "_law_head_here"] (spBentH K) := by
  obtain ⟨fN, fdN, GN, mN, kN, bN⟩ := cN.tk
  refine F.ok scLBentH (fun vs H Q E h => ?_) (fun cdv A outer s H vs Q E hr h => ?_)
  · obtain ⟨d, f, n, h, v, rfl, _⟩ := h
    rfl
  · obtain ⟨d, f, n, h, v, rfl, D0, hn, ok, rv, k⟩ := h
    have hr2 : Room 2 _ := hr.mono (by decide)
    refine ⟨_, (pss_cons (ps_set (i := 2) scLBentH.nd rfl (Or.inl rfl) (pe_call GN hr2 rfl mN kN bN .nil pass0 (pa_cons (pv 0) (pa_cons pe_int pa_nil))))
       (pss_cons (ps_set (i := 3) scLBentH.nd rfl (Or.inl rfl) (pe_lst (pa_cons pe_non (pa_cons pe_bl (pa_cons pe_bl (pa_cons (pe_un un_neg pe_int) (pa_cons (pe_op op_add (pe_op op_pow pe_int pe_int) pe_int) (pa_cons pe_str (pa_cons pe_str (pa_cons pe_str (pa_cons pe_str (pa_cons (pe_tup pa_nil) (pa_cons (pe_lst pa_nil) (pa_cons pe_dnewK (pa_cons (pe_tup (pa_cons pe_str pa_nil)) (pa_cons pe_int (pa_cons (pe_op op_pow pe_int pe_int) (pa_cons pe_str pa_nil))))))))))))))))))
       (pss_cons (ps_set (i := 4) scLBentH.nd rfl (Or.inl rfl) (pe_ix (ixL (K := K) rfl) (pv 3) (pe_call GN hr2 rfl mN kN bN .nil pass0 (pa_cons (pv 0) (pa_cons pe_int pa_nil))) (fun _ _ => rfl)))
       (pss_cons (ps_if (pt_cmpR op_eq (pe_call GN hr2 rfl mN kN bN .nil pass0 (pa_cons (pv 0) (pa_cons pe_int pa_nil))) pe_int (nomark _))
       (pss_one (ps_ret (pe_ix (ixL (K := K) rfl) (pe_lst (pa_cons (pe_slice (slA (K := K) rfl) (pv 1) po_none (po_some (pv 2))) (pa_cons (pe_op (opCatA (K := K) rfl) (pv 1) (pe_tup (pa_cons (pv 4) pa_nil))) (pa_cons (pe_callTy (lstOfK (K := K) rfl) (by rfl) nL (by decide +kernel) (pa_cons (pv 1) pa_nil)) (pa_cons (pv 4) (pa_cons (pe_revT (K := K) rfl (pv 1) po_none) pa_nil)))))) (pe_call GN hr2 rfl mN kN bN .nil pass0 (pa_cons (pv 0) (pa_cons pe_int pa_nil))) (fun _ _ => rfl))))
       pss_nil)
       (pss_one (ps_ret (pe_op (opCatA (K := K) rfl) (pe_op (opCatA (K := K) rfl) (pe_slice (slA (K := K) rfl) (pv 1) po_none (po_some (pv 2))) (pe_tup (pa_cons (pv 4) pa_nil))) (pe_slice (slA (K := K) rfl) (pv 1) (po_some (pe_op op_add (pv 2) pe_int)) po_none)))))))), ?_⟩
    obtain ⟨a, rfl, ha⟩ := rp_head.mp rv
    refine ⟨_, rfl, d, f, 7, n, rfl, by decide, by omega, D0, fun at' H1 a0 a1 k1 D1 t1 => ?_⟩
    obtain ⟨zd, hd1⟩ := D1.lst
    refine ⟨_, rfl, ?_⟩
    have e6 : (fun i j : Int => V.int (i ^ j.toNat)) 10 6 = V.int 1000000 := by decide +kernel
    refine ⟨_, _, rfl, rfl, ⟨by decide, by decide, by decide⟩, ?_⟩
    rw [e6]
    refine ⟨_, _, rfl, rfl, ?_⟩
    refine ⟨(by show 0 ≤ sizeLine; decide), fun p n_p => ?_⟩
    obtain ⟨G1, e_G1, s1, g1⟩ := new_any n_p
    rw [← e_G1]
    clear e_G1
    refine ⟨(by show 0 ≤ sizeLine; decide), fun q n_q => ?_⟩
    obtain ⟨G2, e_G2, s2, g2⟩ := new_any n_q
    rw [← e_G2]
    clear e_G2
    intro r n_r
    obtain ⟨G3, e_G3, s3, g3⟩ := new_any n_r
    rw [← e_G3]
    clear e_G3
    refine ⟨(by show 1 ≤ sizeLine; decide), fun t n_t => ?_⟩
    obtain ⟨G4, e_G4, s4, g4⟩ := new_any n_t
    rw [← e_G4]
    clear e_G4
    refine ⟨_, _, rfl, rfl, ⟨by decide, by decide, by decide⟩, ?_⟩
    refine ⟨(by show 16 ≤ sizeLine; decide), fun l n_l => ?_⟩
    obtain ⟨G5, e_G5, s5, g5⟩ := new_any n_l
    rw [← e_G5]
    clear e_G5
    dsimp only [gName, List.set]
    have nqd : q ≠ d := by walk_at "neq"
    have nrd : r ≠ d := by walk_at "neq"
    have nld : l ≠ d := by walk_at "neq"
    have p5 : G5 p = some (.tup []) := by walk_at "h"
    have q5 : G5 q = some (.lst []) := by walk_at "h"
    have r5 : G5 r = some (.dK []) := by walk_at "h"
    have t5 : G5 t = some (.tup [.str (Str.ofString "l")]) := by walk_at "h"
    have s05 : Same H1 G5 := by walk_at "same"
    have hall : ∀ r' : Int, 0 ≤ r' → r' < 16 → ∃ x dd, atI [V.non, .bl true, .bl false, .int (-1), .int (1000000 + 1), .str (Str.ofString ""), .str (Str.ofString "l"), .str (Str.ofString "lu"), .str (Str.ofString "0"), .ref p, .ref q, .ref r, .ref t, .int 3, .int (10 ^ (20 : Int).toNat), .str (Str.ofString "z")] r' = some x ∧ ∀ H', Kp [d] G5 H' → TK G5 H' → Lf K H' x dd := by
      intro r' h0 h1
      have fl : ∀ (z : Str), (z.cps.toList.all fun c => decide (c < 0x110000)) = true → z.length ≤ 20 → ∀ H', Kp [d] G5 H' → TK G5 H' → Lf K H' (.str z) (.str z) := fun z a b H' _ _ => (FlV.lf (.inr ⟨z, rfl, a, b⟩)).1
      have c : r' = 0 ∨ r' = 1 ∨ r' = 2 ∨ r' = 3 ∨ r' = 4 ∨ r' = 5 ∨ r' = 6 ∨ r' = 7 ∨ r' = 8 ∨ r' = 9 ∨ r' = 10 ∨ r' = 11 ∨ r' = 12 ∨ r' = 13 ∨ r' = 14 ∨ r' = 15 := by omega
      rcases c with rfl | rfl | rfl | rfl | rfl | rfl | rfl | rfl | rfl | rfl | rfl | rfl | rfl | rfl | rfl | rfl
      · exact ⟨_, .none, rfl, fun H' _ _ => ⟨.inl ⟨.non, rfl⟩, rfl, by decide, by decide⟩⟩
      · exact ⟨_, .bool true, rfl, fun H' _ _ => ⟨.inl ⟨.bl _, rfl⟩, rfl, by decide, by decide⟩⟩
      · exact ⟨_, .bool false, rfl, fun H' _ _ => ⟨.inl ⟨.bl _, rfl⟩, rfl, by decide, by decide⟩⟩
      · exact ⟨_, .int (-1), rfl, fun H' _ _ => Lf.int (by decide +kernel)⟩
      · exact ⟨_, .int (1000000 + 1), rfl, fun H' _ _ => Lf.int (by decide +kernel)⟩
      · exact ⟨_, _, rfl, fl _ (by decide +kernel) (by decide +kernel)⟩
      · exact ⟨_, _, rfl, fl _ (by decide +kernel) (by decide +kernel)⟩
      · exact ⟨_, _, rfl, fl _ (by decide +kernel) (by decide +kernel)⟩
      · exact ⟨_, _, rfl, fl _ (by decide +kernel) (by decide +kernel)⟩
      · exact ⟨_, .tuple [], rfl, fun H' _ tk => ⟨.inl ⟨.tup (SqT.tk (SqT.of p5) tk) .nil, rfl⟩, rfl, by decide, by decide⟩⟩
      · exact ⟨_, .list [], rfl, fun H' kp _ => ⟨.inl ⟨.lst (SqL.of (kp _ _ (nin1 nqd) q5)) .nil, rfl⟩, rfl, by decide, by decide⟩⟩
      · exact ⟨_, .dict [], rfl, fun H' kp _ => ⟨.inr (.dct (kp _ _ (nin1 nrd) r5)), rfl, by decide, by decide⟩⟩
      · exact ⟨_, .tuple [.str (Str.ofString "l")], rfl, fun H' _ tk => ⟨.inl ⟨.tup (SqT.tk (SqT.of t5) tk) (.cons (.str _) .nil), rfl⟩, by decide +kernel, by decide +kernel, by decide +kernel⟩⟩
      · exact ⟨_, .int 3, rfl, fun H' _ _ => Lf.int (by decide +kernel)⟩
      · exact ⟨_, .int (10 ^ (20 : Int).toNat), rfl, fun H' _ _ => Lf.int (by decide +kernel)⟩
      · exact ⟨_, _, rfl, fl _ (by decide +kernel) (by decide +kernel)⟩
    refine ⟨_, rfl, _, rfl, d, f, 16, n + 1, rfl, by decide, by omega, D1.same s05, fun r' G6 b0 b1 k6 D6 t6 => ?_⟩
    obtain ⟨x, dd, ex, hL⟩ := hall r' b0 b1
    refine ⟨l, _, r', x, rfl, rfl, SqL.of (k6 _ _ (nin1 nld) g5), ex, ?_⟩
    dsimp only [gName, List.set]
    refine ⟨_, rfl, d, f, 3, n + 1 + 1, rfl, by decide, by omega, D6, fun r3 G7 c0 c1 k7 D7 t7 => ?_⟩
    have k57 := k6.trans k7
    have t57 := t6.trans t7
    have k07 : Kp [d] H G7 := k1.trans ((Kp.of s05).trans k57)
    have t07 : TK H G7 := t1.trans ((TK.of s05).trans t57)
    have ha7 : SqT K G7 a h.vs := SqT.tk ha t07
    have fv := hd_flat ok
    refine ⟨rfl, _, rfl, iteI (fun c => ?_) (fun c => ?_)⟩
    · refine ⟨_, rfl, _, rfl, _, rfl, slA_sq ha7 fun G8 x1 s8 h8 => ?_⟩
      refine ⟨_, rfl, _, rfl, (by show 1 ≤ sizeLine; decide), fun y1 n_y1 => ?_⟩
      obtain ⟨G9, e_G9, s9, g9⟩ := new_any n_y1
      rw [← e_G9]
      clear e_G9
      refine catA_sq (SqT.tk ha7 (TK.of (s8.trans s9))) (SqT.of g9) (by show 7 + 1 ≤ 16000000; decide) fun G10 x2 s10 h10 => ?_
      refine ⟨_, rfl, a, _, rfl, .inr (SqT.tk ha7 (TK.of (s8.trans (s9.trans s10)))), fun x3 n_x3 => ?_⟩
      obtain ⟨G11, e_G11, s11, g11⟩ := new_any n_x3
      rw [← e_G11]
      clear e_G11
      refine ⟨_, rfl, _, rfl, a, _, rfl, SqT.tk ha7 (TK.of (s8.trans (s9.trans (s10.trans s11)))), fun x5 n_x5 => ?_⟩
      obtain ⟨G12, e_G12, s12, g12⟩ := new_any n_x5
      rw [← e_G12]
      clear e_G12
      refine ⟨(by show 5 ≤ sizeLine; decide), fun l3 n_l3 => ?_⟩
      obtain ⟨G13, e_G13, s13, g13⟩ := new_any n_l3
      rw [← e_G13]
      clear e_G13
      have s713 : Same G7 G13 := s8.trans (s9.trans (s10.trans (s11.trans (s12.trans s13))))
      have D13 := D7.same s713
      obtain ⟨zd2, hd13⟩ := D7.lst
      have hd10 := (s8.trans (s9.trans s10)) _ _ hd13
      have hd12 := (s11.trans s12) _ _ hd10
      have n3d : x3 ≠ d := (ne_of_none hd10 n_x3).symm
      have nl3 : l3 ≠ d := (ne_of_none hd12 n_l3).symm
      refine ⟨_, rfl, d, f, 5, n + 1 + 1 + 1, rfl, by decide, by omega, D13, fun r4 G14 e0 e1 k14 D14 t14 => ?_⟩
      have kf : Kp [d] H G14 := k07.trans ((Kp.of s713).trans k14)
      have tf : TK H G14 := t07.trans ((TK.of s713).trans t14)
      have Df : Deck G14 d f (n + 5) := D14.mono (by omega)
      have hl3 := k14 _ _ (nin1 nl3) g13
      have hfin : ∃ x' dd', atI [V.ref x1, .ref x2, .ref x3, x, .ref x5] r4 = some x' ∧ ThE K G14 x' dd' := by
        have c : r4 = 0 ∨ r4 = 1 ∨ r4 = 2 ∨ r4 = 3 ∨ r4 = 4 := by omega
        rcases c with rfl | rfl | rfl | rfl | rfl
        · refine ⟨_, _, rfl, th_flat (SqT.tk h8 ((TK.of (s9.trans (s10.trans (s11.trans (s12.trans s13))))).trans t14)) (fun v hv => fv v (mem_cut hv)) ?_⟩
          exact Nat.le_trans (cut_len _ _ _) (by show 7 ≤ 100; decide)
        · refine ⟨_, _, rfl, th_with (xs := h.vs) (ys := []) (SqT.tk h10 ((TK.of (s11.trans (s12.trans s13))).trans t14)) fv (fun v hv => by cases hv) (hL G14 (k57.trans ((Kp.of s713).trans k14)) (t57.trans ((TK.of s713).trans t14))) (by show 7 + 0 ≤ 90; decide)⟩
        · exact ⟨_, _, rfl, th_flatL (SqL.of (k14 _ _ (nin1 n3d) ((s12.trans s13) _ _ g11))) fv (by show 7 ≤ 100; decide)⟩
        · exact ⟨_, _, rfl, (hL G14 (k57.trans ((Kp.of s713).trans k14)) (t57.trans ((TK.of s713).trans t14))).th⟩
        · refine ⟨_, _, rfl, th_flat (SqT.tk (SqT.of (s13 _ _ g12)) t14) (fun v hv => fv v (List.mem_of_mem_take (List.mem_reverse.mp hv))) ?_⟩
          rw [List.length_reverse, List.length_take]
          show min _ 7 ≤ 100
          omega
      obtain ⟨x', dd', ex', hT⟩ := hfin
      exact ⟨l3, _, r4, x', rfl, rfl, SqL.of hl3, ex', k _ _ _ hT kf tf Df⟩
    · dsimp only [tNext]
      refine ⟨_, rfl, _, rfl, _, rfl, slA_sq ha7 fun G8 x1 s8 h8 => ?_⟩
      refine ⟨_, rfl, (by show 1 ≤ sizeLine; decide), fun y1 n_y1 => ?_⟩
      obtain ⟨G9, e_G9, s9, g9⟩ := new_any n_y1
      rw [← e_G9]
      clear e_G9
      refine catA_sq (SqT.tk h8 (TK.of s9)) (SqT.of g9) (Nat.le_trans (Nat.add_le_add_right (cut_len _ _ _) _) (by show 7 + 1 ≤ 16000000; decide)) fun G10 x2 s10 h10 => ?_
      refine ⟨_, rfl, _, rfl, _, _, rfl, rfl, _, rfl, ?_⟩
      dsimp only [tNoPart]
      refine slA_sq (lo := some (at' + 1)) (hi := none) (SqT.tk ha7 (TK.of (s8.trans (s9.trans s10)))) fun G11 x3 s11 h11 => ?_
      refine catA_sq (SqT.tk h10 (TK.of s11)) h11 ?_ fun G12 x4 s12 h12 => ?_
      · rw [List.length_append]
        have a1 := cut_len h.vs none (some at')
        have a2 := cut_len h.vs (some (at' + 1)) none
        have a3 : h.vs.length = 7 := rfl
        show _ + 1 + _ ≤ _
        omega
      have s712 : Same G7 G12 := s8.trans (s9.trans (s10.trans (s11.trans s12)))
      have h12 : SqT K G12 x4 (cutL h.vs none (some at') ++ x :: cutL h.vs (some (at' + 1)) none) := by
        rw [List.append_assoc] at h12
        exact h12
      refine k _ _ _ (th_with h12 (fun v hv => fv v (mem_cut hv)) (fun v hv => fv v (mem_cut hv)) (hL G12 (k57.trans (Kp.of s712)) (t57.trans (TK.of s712))) ?_) (k07.trans (Kp.of s712)) (t07.trans (TK.of s712)) ((D7.same s712).mono (by omega))
      have a1 := cut_len h.vs none (some at')
      have a2 := cut_len h.vs (some (at' + 1)) none
      have a3 : h.vs.length = 7 := rfl
      omega
end
end Wn

set_option maxHeartbeats 1600000
namespace Wn
open PySem L2
open SX (S S_len S_cat S_beq_eq join_S)
set_option pp.maxSteps 700
set_option pp.deepTerms false
local macro_rules | `(tactic| walk_at "h") => `(tactic| first | with_reducible assumption | (with_reducible exact upd_same) | (with_reducible apply g_upd; (walk_at "neq"); (walk_at "h")) | (with_reducible apply g_same; (with_reducible assumption); (walk_at "h")) | (with_reducible apply g_kp; (with_reducible assumption); (walk_at "nin"); (walk_at "h")) | (with_reducible apply g_tk; (with_reducible assumption); (walk_at "h")))
local macro_rules | `(tactic| walk_at "neq") => `(tactic| first | with_reducible assumption | (with_reducible apply Ne.symm; with_reducible assumption) | (with_reducible apply ne_upd; (with_reducible assumption)) | (with_reducible apply Ne.symm; with_reducible apply ne_upd; with_reducible assumption) | (with_reducible apply ne_fr; (with_reducible assumption); (walk_at "h")) | (with_reducible apply ne_fr'; (with_reducible assumption); (walk_at "h")) | (with_reducible apply ne_kd; (walk_at "h"); (walk_at "h"); (with_unfolding_all (intro z; cases z))))
local macro_rules | `(tactic| walk_at "nin") => `(tactic| first | (with_reducible exact nin0) | with_reducible assumption | (with_reducible apply ninc; (walk_at "neq"); (walk_at "nin")))
local macro_rules | `(tactic| walk_at "none") => `(tactic| first | with_reducible assumption | (with_reducible apply n_upd; (with_reducible assumption)) | (with_reducible apply n_same; (with_reducible assumption); (walk_at "none")) | (with_reducible apply n_kp; (with_reducible assumption); (walk_at "nin"); (walk_at "none")))
local macro_rules | `(tactic| walk_at "mem") => `(tactic| first | (with_reducible exact List.mem_cons_self) | (with_reducible apply List.mem_cons_of_mem; (walk_at "mem")))
local macro_rules | `(tactic| walk_at "am") => `(tactic| first | (with_reducible exact am0) | (with_reducible apply am1; (first | (apply Or.inl; walk_at "mem") | (apply Or.inr; walk_at "none")); (walk_at "am")))
local macro_rules | `(tactic| walk_at "tk") => `(tactic| first | (with_reducible exact TK.refl _) | with_reducible assumption | (with_reducible apply t_tk; (with_reducible assumption); (walk_at "tk")) | (with_reducible apply t_same; (with_reducible assumption); (walk_at "tk")) | (with_reducible apply t_new; (with_reducible assumption); (walk_at "tk")) | (with_reducible apply t_wr; (walk_at "h"); (with_unfolding_all rfl); (walk_at "tk")))
local macro_rules | `(tactic| walk_at "same") => `(tactic| first | (with_reducible exact L2.Same.refl _) | with_reducible assumption | (with_reducible apply s_same; (with_reducible assumption); (walk_at "same")) | (with_reducible apply s_new; (with_reducible assumption); (walk_at "same")) | (with_reducible apply s_wrn; (walk_at "none"); (walk_at "same")))
local macro_rules | `(tactic| walk_at "kp") => `(tactic| first | (with_reducible exact Kp.refl _ _) | with_reducible assumption | (with_reducible apply k_same; (with_reducible assumption); (walk_at "kp")) | (with_reducible apply k_kp; (with_reducible assumption); (walk_at "kp")) | (with_reducible apply k_kpm; (with_reducible assumption); (walk_at "am"); (walk_at "kp")) | (with_reducible apply k_new; (with_reducible assumption); (walk_at "kp")) | (with_reducible apply k_wr; (walk_at "mem"); (walk_at "kp")) | (with_reducible apply k_wrn; (walk_at "none"); (walk_at "kp")))
local macro_rules | `(tactic| walk_at "rp") => `(tactic| first | with_reducible assumption | (with_reducible exact Rp.int) | (with_reducible exact Rp.str) | (with_reducible exact Rp.none) | (with_reducible exact Rp.bool) | (with_reducible apply Rp.tk'; (with_reducible assumption); (walk_at "tk")) | (with_reducible apply Rp.tup; (walk_at "h"); (walk_at "rpl")))
local macro_rules | `(tactic| walk_at "rpl") => `(tactic| first | with_reducible assumption | (with_reducible exact RpL.nil) | (with_reducible apply RpL.tk'; (with_reducible assumption); (walk_at "tk")) | (with_reducible apply RpL.cons; (walk_at "rp"); (walk_at "rpl")))
local macro_rules | `(tactic| walk_at "g") => `(tactic| repeat (first | refine ⟨_, rfl, ?_⟩ | refine ⟨_, _, rfl, rfl, ?_⟩ | refine ⟨rfl, _, rfl, ?_⟩ | refine ⟨_, _, rfl, rfl, (by first | decide | omega), ?_⟩))
abbrev sFound : Stmt := top 32
/-- str of True or False -/
theorem call_strB {X : Cx} : CallR X (.type "str") (fun xs H Q => ∃ b : Bool, xs = [.bl b] ∧ Q (.str (if b then "True" else "False")) H) := by
  intro pins s σ H xs us Q I r h
  obtain ⟨b, rfl, q⟩ := h
  obtain ⟨u, rfl, rx⟩ := vals1 r
  cases rx
  exact PySem.P.str_of_bool ⟨.str _, H, I.tok _, ⟨_, rfl⟩, q⟩
def spFound (K : PySem.W.Frag) : Sp := fun vs H Q _ => ∃ (v : V) (d : PyData), vs = [v] ∧ Dk K H v d ∧ (∀ cs, d = .str (S cs) → cs.length ≤ 1000) ∧
  (∀ e, readD d = some e → ∀ H' v', Same H H' → Rp K H' e v' → Q v' H') ∧ (readD d = none → ∀ H', Same H H' → Q (.str (Str.ofString "no TrueFalseTrue")) H')
/-- what the text's classes say -/
structure TF (K : PySem.W.Frag) (mg : Str → Option Value) (CN CT CH : Addr) : Prop where
  te : PySem.W.exmOne K (.ref CH) (.ref CN) = some true
  k1 : PySem.W.kitOne K (.ref CH) (.ref CH) = some true
  k2 : PySem.W.kitOne K (.ref CH) (.ref CT) = some false
  k3 : PySem.W.kitOne K (.ref CH) (.type "ValueError") = some true
  ec : ExcC K CH
  gN : mg "NetError" = some (.ref CN)
  gT : mg "Torn" = some (.ref CT)
  gH : mg "NoHead" = some (.ref CH)

section
variable {P : Program} {w : World} {K : PySem.W.Frag} {mg : Str → Option Value} {base : Heap}
theorem scFound : FnScope ["_law_thing", "e"] ["_law_thing"] (defScope sFound) := ⟨rfl, rfl, rfl, by decide +kernel, rfl, by decide +kernel, by decide +kernel⟩
theorem ok_found {f CN CT CH : Addr} {fd : FuncData} (F : Fun K "_law_found" "_law_found" sFound f fd) (n_str : mg "str" = none) (n_isinstance : mg "isinstance" = none) (n_ValueError : mg "ValueError" = none) (T : TF K mg CN CT CH)
    {fR : Addr} {fdR : FuncData} (GR : FnOk P w K mg base (L2.CX P w) 4 fR fdR ["text"] (spReadX K CH)) (mR : mg "read" = some (.ref fR)) (kR : PySem.W.keepIn K (.ref fR) = true) (bR : Binds K fdR ["text"] []) :
    FnOk P w K mg base CX0 5 f fd ["_law_thing"] (spFound K) := by
  refine F.ok scFound (fun vs H Q E h => ?_) (fun cdv A outer s H vs Q E hr h => ?_)
  · obtain ⟨v, d, rfl, _⟩ := h
    rfl
  · obtain ⟨v, d, rfl, hd, hlen, k, kN⟩ := h
    have hr4 : Room 4 _ := hr
    refine ⟨_, (pss_one (ps_try_as (i := 1) rfl rfl scFound.nd rfl rfl ⟨rfl, by decide, Or.inl T.gN⟩ takes0
       (fun W pn xe tk po => (pss_one (ps_ret (pe_callS GR hr4 rfl mR kR bR (fun σ => passAt tk σ) (pa_cons (pv 0) pa_nil)))))
       (fun a oe cls d pn hz hf => (pss_one (ps_ret (pe_op op_add_str (pe_op op_add_str (pe_op op_add_str pe_str (pe_callTy call_strB (by rfl) n_str PyProof.Rows.boot_str (pa_cons (pe_callB (call_isX hz hf) (by rfl) n_isinstance (by decide +kernel) (pa_cons (pv 1) (pa_cons (pe_glob (v := .ref CH) (by rfl) T.gH rfl) pa_nil))) pa_nil))) (pe_callTy call_strB (by rfl) n_str PyProof.Rows.boot_str (pa_cons (pe_callB (call_isX hz hf) (by rfl) n_isinstance (by decide +kernel) (pa_cons (pv 1) (pa_cons (pe_glob (v := .ref CT) (by rfl) T.gT rfl) pa_nil))) pa_nil))) (pe_callTy call_strB (by rfl) n_str PyProof.Rows.boot_str (pa_cons (pe_callB (call_isX hz hf) (by rfl) n_isinstance (by decide +kernel) (pa_cons (pv 1) (pa_cons (pe_bltn (v := .ty "ValueError") (by rfl) n_ValueError (by decide +kernel) rfl) pa_nil))) pa_nil)))))))), ?_⟩
    refine ⟨_, rfl, v, d, rfl, hd, fun cs ed => ⟨hlen cs ed, fun e ee H' v' s' r' => ?_⟩, fun hno H' s' => ?_⟩
    · exact k e (by rw [ed, readD_S]; exact ee) H' v' s' r'
    have hn : readD d = none := by
      cases e : readD d with
      | none => rfl
      | some e' =>
        cases d with
        | str z =>
          obtain ⟨cs, rfl, _⟩ := str_ex z
          rw [readD_S] at e
          exact absurd e (hno cs e' rfl)
        | _ => cases e
    refine ⟨true, T.te, fun _ a0 ha0 => ?_, fun q => Bool.noConfusion q⟩
    refine ⟨_, rfl, CH, rfl, T.ec, .inl rfl, .inl ⟨_, _, true, rfl, .own CH, T.k1, _, rfl, _, _, rfl, rfl, (by decide +kernel), ?_⟩⟩
    refine ⟨_, rfl, CH, rfl, T.ec, .inl rfl, .inl ⟨_, _, false, rfl, .own CT, T.k2, _, rfl, _, _, rfl, rfl, (by decide +kernel), ?_⟩⟩
    refine ⟨_, rfl, CH, rfl, T.ec, .inl rfl, .inl ⟨_, _, true, rfl, .ty "ValueError", T.k3, _, rfl, _, _, rfl, rfl, (by decide +kernel), ?_⟩⟩
    have e : (((Str.ofString "no " ++ (if true = true then Str.ofString "True" else Str.ofString "False")) ++ (if false = true then Str.ofString "True" else Str.ofString "False")) ++ (if true = true then Str.ofString "True" else Str.ofString "False")) = Str.ofString "no TrueFalseTrue" := by decide +kernel
    rw [e]
    exact kN hn _ s'
end
end Wn

set_option maxHeartbeats 1600000
namespace Wn
open PySem L2
open SX (S S_len S_cat S_beq_eq join_S)
set_option pp.maxSteps 700
set_option pp.deepTerms false
local macro_rules | `(tactic| walk_at "h") => `(tactic| first | with_reducible assumption | (with_reducible exact upd_same) | (with_reducible apply g_upd; (walk_at "neq"); (walk_at "h")) | (with_reducible apply g_same; (with_reducible assumption); (walk_at "h")) | (with_reducible apply g_kp; (with_reducible assumption); (walk_at "nin"); (walk_at "h")) | (with_reducible apply g_tk; (with_reducible assumption); (walk_at "h")))
local macro_rules | `(tactic| walk_at "neq") => `(tactic| first | with_reducible assumption | (with_reducible apply Ne.symm; with_reducible assumption) | (with_reducible apply ne_upd; (with_reducible assumption)) | (with_reducible apply Ne.symm; with_reducible apply ne_upd; with_reducible assumption) | (with_reducible apply ne_fr; (with_reducible assumption); (walk_at "h")) | (with_reducible apply ne_fr'; (with_reducible assumption); (walk_at "h")) | (with_reducible apply ne_kd; (walk_at "h"); (walk_at "h"); (with_unfolding_all (intro z; cases z))))
local macro_rules | `(tactic| walk_at "nin") => `(tactic| first | (with_reducible exact nin0) | with_reducible assumption | (with_reducible apply ninc; (walk_at "neq"); (walk_at "nin")))
local macro_rules | `(tactic| walk_at "none") => `(tactic| first | with_reducible assumption | (with_reducible apply n_upd; (with_reducible assumption)) | (with_reducible apply n_same; (with_reducible assumption); (walk_at "none")) | (with_reducible apply n_kp; (with_reducible assumption); (walk_at "nin"); (walk_at "none")))
local macro_rules | `(tactic| walk_at "mem") => `(tactic| first | (with_reducible exact List.mem_cons_self) | (with_reducible apply List.mem_cons_of_mem; (walk_at "mem")))
local macro_rules | `(tactic| walk_at "am") => `(tactic| first | (with_reducible exact am0) | (with_reducible apply am1; (first | (apply Or.inl; walk_at "mem") | (apply Or.inr; walk_at "none")); (walk_at "am")))
local macro_rules | `(tactic| walk_at "tk") => `(tactic| first | (with_reducible exact TK.refl _) | with_reducible assumption | (with_reducible apply t_tk; (with_reducible assumption); (walk_at "tk")) | (with_reducible apply t_same; (with_reducible assumption); (walk_at "tk")) | (with_reducible apply t_new; (with_reducible assumption); (walk_at "tk")) | (with_reducible apply t_wr; (walk_at "h"); (with_unfolding_all rfl); (walk_at "tk")))
local macro_rules | `(tactic| walk_at "same") => `(tactic| first | (with_reducible exact L2.Same.refl _) | with_reducible assumption | (with_reducible apply s_same; (with_reducible assumption); (walk_at "same")) | (with_reducible apply s_new; (with_reducible assumption); (walk_at "same")) | (with_reducible apply s_wrn; (walk_at "none"); (walk_at "same")))
local macro_rules | `(tactic| walk_at "kp") => `(tactic| first | (with_reducible exact Kp.refl _ _) | with_reducible assumption | (with_reducible apply k_same; (with_reducible assumption); (walk_at "kp")) | (with_reducible apply k_kp; (with_reducible assumption); (walk_at "kp")) | (with_reducible apply k_kpm; (with_reducible assumption); (walk_at "am"); (walk_at "kp")) | (with_reducible apply k_new; (with_reducible assumption); (walk_at "kp")) | (with_reducible apply k_wr; (walk_at "mem"); (walk_at "kp")) | (with_reducible apply k_wrn; (walk_at "none"); (walk_at "kp")))
local macro_rules | `(tactic| walk_at "rp") => `(tactic| first | with_reducible assumption | (with_reducible exact Rp.int) | (with_reducible exact Rp.str) | (with_reducible exact Rp.none) | (with_reducible exact Rp.bool) | (with_reducible apply Rp.tk'; (with_reducible assumption); (walk_at "tk")) | (with_reducible apply Rp.tup; (walk_at "h"); (walk_at "rpl")))
local macro_rules | `(tactic| walk_at "rpl") => `(tactic| first | with_reducible assumption | (with_reducible exact RpL.nil) | (with_reducible apply RpL.tk'; (with_reducible assumption); (walk_at "tk")) | (with_reducible apply RpL.cons; (walk_at "rp"); (walk_at "rpl")))
local macro_rules | `(tactic| walk_at "g") => `(tactic| repeat (first | refine ⟨_, rfl, ?_⟩ | refine ⟨_, _, rfl, rfl, ?_⟩ | refine ⟨rfl, _, rfl, ?_⟩ | refine ⟨_, _, rfl, rfl, (by first | decide | omega), ?_⟩))
abbrev sRight : Stmt := top 33
def spRight (K : PySem.W.Frag) : Sp := fun vs H Q _ => ∃ (v : V) (d : PyData), vs = [v] ∧ Dk K H v d ∧ (∀ cs, d = .str (S cs) → cs.length ≤ 1000) ∧ ∀ H', Same H H' → Q (.bl true) H'
theorem readW_some {ws : List (List Nat)} {e : PyData} (h : readW ws = some e) : ∃ n0 w1 ns, e = headD n0 w1 ns ∧ ns.length = 5 := by
  match ws, h with
  | w0 :: w1 :: rest, h =>
    by_cases c : rest.length = 5 ∧ kindB w1 = true
    · have e1 : readW (w0 :: w1 :: rest) = (match allN rest, numB w0 with
        | some ns, some n0 => some (headD n0 w1 ns)
        | _, _ => none) := if_pos c
      rw [e1] at h
      cases ea : allN rest with
      | none => rw [ea] at h; cases h
      | some ns =>
        rw [ea] at h
        cases e0 : numB w0 with
        | none => rw [e0] at h; cases h
        | some n0 =>
          rw [e0] at h
          cases h
          refine ⟨n0, w1, ns, rfl, ?_⟩
          rcases allN_or rest with z | z
          · obtain ⟨ns', a, b⟩ := allN_some z
            rw [ea] at a
            cases a
            rw [b, List.length_map]
            exact c.1
          · rw [allN_none z] at ea
            cases ea
    · have e1 : readW (w0 :: w1 :: rest) = none := if_neg c
      rw [e1] at h
      cases h
theorem dep_nats : ∀ ns : List Nat, deps (ns.map fun n : Nat => PyData.int (n : Int)) = 0 ∧ szs (ns.map fun n : Nat => PyData.int (n : Int)) = ns.length
  | [] => ⟨rfl, rfl⟩
  | n :: ns => by
    obtain ⟨a, b⟩ := dep_nats ns
    refine ⟨?_, ?_⟩
    · show max 0 (deps (ns.map fun n : Nat => PyData.int (n : Int))) = 0
      rw [a]
      rfl
    · show 1 + szs (ns.map fun n : Nat => PyData.int (n : Int)) = (n :: ns).length
      rw [b, List.length_cons]
      omega
theorem readD_some {d e : PyData} (h : readD d = some e) : dep e < 3 ∧ sz e ≤ 16000000 ∧ ∃ es, e = .tuple es := by
  cases d with
  | str z =>
    have h : (if 58 ∈ z.cps.toList then (readW (wordsL z.cps.toList)).map fun d => .tuple [d, .str (S (z.cps.toList.drop ((frontL z.cps.toList).length + 1)))] else none) = some e := h
    split at h
    · cases er : readW (wordsL z.cps.toList) with
      | none => rw [er] at h; cases h
      | some q =>
        rw [er] at h
        cases h
        obtain ⟨n0, w1, ns, rfl, l5⟩ := readW_some er
        obtain ⟨a, b⟩ := dep_nats ns
        refine ⟨?_, ?_, _, rfl⟩
        · show max (max 0 (max 0 (deps (ns.map fun n : Nat => PyData.int (n : Int)))) + 1) (max 0 0) + 1 < 3
          rw [a]
          decide
        · show ((1 + (1 + szs (ns.map fun n : Nat => PyData.int (n : Int)))) + 1) + (1 + 0) + 1 ≤ 16000000
          rw [b, l5]
          decide
    · cases h
  | _ => cases h

section
variable {P : Program} {w : World} {K : PySem.W.Frag} {mg : Str → Option Value} {base : Heap}
theorem scRight : FnScope ["_law_thing", "_law_due"] ["_law_thing"] (defScope sRight) := ⟨rfl, rfl, rfl, by decide +kernel, rfl, by decide +kernel, by decide +kernel⟩
theorem ok_right {f : Addr} {fd : FuncData} (F : Fun K "_law_is_right" "_law_is_right" sRight f fd) (cR : Cd P w K mg base 2 "_law_read" ["_law_thing"] (spLRead K)) (cF : Cd P w K mg base 5 "_law_found" ["_law_thing"] (spFound K)) (cS : Cd P w K mg base 3 "_law_same" ["_law_thing", "_law_due"] (spSame K 3)) : FnOk P w K mg base CX0 6 f fd ["_law_thing"] (spRight K) := by
  obtain ⟨fR, fdR, GR, mR, kR, bR⟩ := cR
  obtain ⟨fF, fdF, GF, mF, kF, bF⟩ := cF
  obtain ⟨fS, fdS, GS, mS, kS, bS⟩ := cS
  refine F.ok scRight (fun vs H Q E h => ?_) (fun cdv A outer s H vs Q E hr h => ?_)
  · obtain ⟨v, d, rfl, _⟩ := h
    rfl
  · obtain ⟨v, d, rfl, hd, hlen, k⟩ := h
    have hr5 : Room 5 _ := hr
    have hr3 : Room 3 _ := hr.mono (by decide)
    have hr2 : Room 2 _ := hr.mono (by decide)
    refine ⟨_, (pss_cons (ps_set (i := 1) scRight.nd rfl (Or.inl rfl) (pe_call GR hr2 rfl mR kR bR .nil pass0 (pa_cons (pv 0) pa_nil)))
       (pss_cons (ps_if (pt_cmp (pc_isN (pv 1)))
       (pss_one (ps_set (i := 1) scRight.nd rfl (Or.inl rfl) pe_str))
       pss_nil)
       (pss_one (ps_ret (pe_call GS hr3 rfl mS kS bS .nil pass0 (pa_cons (pe_call GF hr5 rfl mF kF bF .nil pass0 (pa_cons (pv 0) pa_nil)) (pa_cons (pv 1) pa_nil))))))), ?_⟩
    refine ⟨_, rfl, v, d, rfl, hd, hlen, fun e ee H1 v1 s1 r1 => ?_, fun en H1 s1 => ?_⟩
    · obtain ⟨e1, e2, es, rfl⟩ := readD_some ee
      have r1' := r1
      unfold Rp at r1'
      obtain ⟨a, xs, rfl, _, _⟩ := r1'
      dsimp only [gName, List.set]
      refine ⟨_, rfl, _, rfl, iteF ?_⟩
      refine ⟨_, rfl, v, d, rfl, hd.sm s1, hlen, fun e' ee' H2 v2 s2 r2 => ?_, fun en => absurd (ee.symm.trans en) (fun z => by cases z)⟩
      have : e' = .tuple es := by rw [ee] at ee'; exact (Option.some.inj ee').symm
      subst this
      refine ⟨_, rfl, _, _, _, rfl, r2, Rp.tk (TK.of s2) _ _ r1, e1, e2, fun H3 s3 => k _ ((s1.trans s2).trans s3)⟩
    · dsimp only [gName, List.set]
      refine ⟨_, rfl, _, rfl, iteT ?_⟩
      dsimp only [gName, List.set]
      refine ⟨_, rfl, v, d, rfl, hd.sm s1, hlen, fun e' ee' => absurd (en.symm.trans ee') (fun z => by cases z), fun _ H2 s2 => ?_⟩
      exact ⟨_, rfl, _, _, _, rfl, Rp.str, Rp.str, (by show 0 < 3; decide), (by show 1 ≤ 16000000; decide), fun H3 s3 => k _ ((s1.trans s2).trans s3)⟩
end
end Wn

set_option maxHeartbeats 3200000
namespace Wn
open PySem L2
open SX (S S_len S_cat S_beq_eq join_S)
set_option pp.maxSteps 700
set_option pp.deepTerms false
local macro_rules | `(tactic| walk_at "h") => `(tactic| first | with_reducible assumption | (with_reducible exact upd_same) | (with_reducible apply g_upd; (walk_at "neq"); (walk_at "h")) | (with_reducible apply g_same; (with_reducible assumption); (walk_at "h")) | (with_reducible apply g_kp; (with_reducible assumption); (walk_at "nin"); (walk_at "h")) | (with_reducible apply g_tk; (with_reducible assumption); (walk_at "h")))
local macro_rules | `(tactic| walk_at "neq") => `(tactic| first | with_reducible assumption | (with_reducible apply Ne.symm; with_reducible assumption) | (with_reducible apply ne_upd; (with_reducible assumption)) | (with_reducible apply Ne.symm; with_reducible apply ne_upd; with_reducible assumption) | (with_reducible apply ne_fr; (with_reducible assumption); (walk_at "h")) | (with_reducible apply ne_fr'; (with_reducible assumption); (walk_at "h")) | (with_reducible apply ne_kd; (walk_at "h"); (walk_at "h"); (with_unfolding_all (intro z; cases z))))
local macro_rules | `(tactic| walk_at "nin") => `(tactic| first | (with_reducible exact nin0) | with_reducible assumption | (with_reducible apply ninc; (walk_at "neq"); (walk_at "nin")))
local macro_rules | `(tactic| walk_at "none") => `(tactic| first | with_reducible assumption | (with_reducible apply n_upd; (with_reducible assumption)) | (with_reducible apply n_same; (with_reducible assumption); (walk_at "none")) | (with_reducible apply n_kp; (with_reducible assumption); (walk_at "nin"); (walk_at "none")))
local macro_rules | `(tactic| walk_at "mem") => `(tactic| first | (with_reducible exact List.mem_cons_self) | (with_reducible apply List.mem_cons_of_mem; (walk_at "mem")))
local macro_rules | `(tactic| walk_at "am") => `(tactic| first | (with_reducible exact am0) | (with_reducible apply am1; (first | (apply Or.inl; walk_at "mem") | (apply Or.inr; walk_at "none")); (walk_at "am")))
local macro_rules | `(tactic| walk_at "tk") => `(tactic| first | (with_reducible exact TK.refl _) | with_reducible assumption | (with_reducible apply t_tk; (with_reducible assumption); (walk_at "tk")) | (with_reducible apply t_same; (with_reducible assumption); (walk_at "tk")) | (with_reducible apply t_new; (with_reducible assumption); (walk_at "tk")) | (with_reducible apply t_wr; (walk_at "h"); (with_unfolding_all rfl); (walk_at "tk")))
local macro_rules | `(tactic| walk_at "same") => `(tactic| first | (with_reducible exact L2.Same.refl _) | with_reducible assumption | (with_reducible apply s_same; (with_reducible assumption); (walk_at "same")) | (with_reducible apply s_new; (with_reducible assumption); (walk_at "same")) | (with_reducible apply s_wrn; (walk_at "none"); (walk_at "same")))
local macro_rules | `(tactic| walk_at "kp") => `(tactic| first | (with_reducible exact Kp.refl _ _) | with_reducible assumption | (with_reducible apply k_same; (with_reducible assumption); (walk_at "kp")) | (with_reducible apply k_kp; (with_reducible assumption); (walk_at "kp")) | (with_reducible apply k_kpm; (with_reducible assumption); (walk_at "am"); (walk_at "kp")) | (with_reducible apply k_new; (with_reducible assumption); (walk_at "kp")) | (with_reducible apply k_wr; (walk_at "mem"); (walk_at "kp")) | (with_reducible apply k_wrn; (walk_at "none"); (walk_at "kp")))
local macro_rules | `(tactic| walk_at "rp") => `(tactic| first | with_reducible assumption | (with_reducible exact Rp.int) | (with_reducible exact Rp.str) | (with_reducible exact Rp.none) | (with_reducible exact Rp.bool) | (with_reducible apply Rp.tk'; (with_reducible assumption); (walk_at "tk")) | (with_reducible apply Rp.tup; (walk_at "h"); (walk_at "rpl")))
local macro_rules | `(tactic| walk_at "rpl") => `(tactic| first | with_reducible assumption | (with_reducible exact RpL.nil) | (with_reducible apply RpL.tk'; (with_reducible assumption); (walk_at "tk")) | (with_reducible apply RpL.cons; (walk_at "rp"); (walk_at "rpl")))
local macro_rules | `(tactic| walk_at "g") => `(tactic| repeat (first | refine ⟨_, rfl, ?_⟩ | refine ⟨_, _, rfl, rfl, ?_⟩ | refine ⟨rfl, _, rfl, ?_⟩ | refine ⟨_, _, rfl, rfl, (by first | decide | omega), ?_⟩))
abbrev sLaw : Stmt := top 34

section
variable {P : Program} {w : World} {K : PySem.W.Frag} {mg : Str → Option Value} {base : Heap}
theorem scLaw : FnScope ["_law_script", "_law_deck_here", "_law_thing", "_law_turn", "_law_head_here", "_law_text_here", "_law_k", "_law_kept", "_law_found_here"] ["_law_script"] (defScope sLaw) := ⟨rfl, rfl, rfl, by decide +kernel, rfl, by decide +kernel, by decide +kernel⟩
theorem ok_law {f : Addr} {fd : FuncData} (F : Fun K "law" "law" sLaw f fd) (n_range : mg "range" = none) (n_repr : mg "repr" = none) (n_isinstance : mg "isinstance" = none) (n_bool : mg "bool" = none)
    (cN : Cd P w K mg base 2 "_law_next" ["_law_deck_here", "_law_many"] spNext) (cD : Cd P w K mg base 2 "_law_deck" ["_law_script"] (spDeck K)) (cX : Cd P w K mg base 4 "_law_text" ["_law_deck_here", "_law_most"] spText)
    (cH : Cd P w K mg base 4 "_law_head" ["_law_deck_here"] (spHead K)) (cL : Cd P w K mg base 1 "_law_written" ["_law_head_here", "_law_text_here"] (spWritten K))
    (cT : Cd P w K mg base 4 "_law_bent_text" ["_law_deck_here", "_law_text_here"] spBentT) (cB : Cd P w K mg base 4 "_law_bent_head" ["_law_deck_here", "_law_head_here"] (spBentH K))
    (cI : Cd P w K mg base 3 "is_head" ["thing"] (spIsHeadK K)) (cJ : Cd P w K mg base 1 "_law_is_head" ["_law_thing"] (spIsHeadK K)) (cR : Cd P w K mg base 6 "_law_is_right" ["_law_thing"] (spRight K)) :
    LawOk P w K mg base f fd ["_law_script"] (spLaw K) := by
  obtain ⟨fN, fdN, GN, mN, kN, bN⟩ := cN.tk
  obtain ⟨fD, fdD, GD, mD, kD, bD⟩ := cD
  obtain ⟨fX, fdX, GX, mX, kX, bX⟩ := cX.tk
  obtain ⟨fH, fdH, GH, mH, kH, bH⟩ := cH.tk
  obtain ⟨fL, fdL, GL, mL, kL, bL⟩ := cL
  obtain ⟨fT, fdT, GT, mT, kT, bT⟩ := cT
  obtain ⟨fB, fdB, GB, mB, kB, bB⟩ := cB
  obtain ⟨fI, fdI, GI, mI, kI, bI⟩ := cI
  obtain ⟨fJ, fdJ, GJ, mJ, kJ, bJ⟩ := cJ
  obtain ⟨fR, fdR, GR, mR, kR, bR⟩ := cR
  refine law_ok (k := 6) F scLaw (fun vs H Q E h => ?_) ⟨rfl, by decide, by decide⟩ (fun cdv A s H vs Q hA hr h => ?_)
  · obtain ⟨a, ns, rfl, _⟩ := h
    rfl
  · obtain ⟨a, ns, rfl, hS, hl, k⟩ := h
    subst hA
    have hr6 : Room 6 _ := hr.mono (by decide)
    have hr4 : Room 4 _ := hr.mono (by decide)
    have hr3 : Room 3 _ := hr.mono (by decide)
    have hr2 : Room 2 _ := hr.mono (by decide)
    have hr1 : Room 1 _ := hr.mono (by decide)
    refine ⟨_, (pss_cons (ps_set (i := 1) scLaw.nd rfl (Or.inl rfl) (pe_call GD hr2 rfl mD kD bD .nil pass0 (pa_cons (pv 0) pa_nil)))
       (pss_cons (ps_for PassesOwn.never rfl (pi_list (pe_lst (pa_cons pe_non (pa_cons pe_int (pa_cons pe_bl (pa_cons (pe_tup pa_nil) (pa_cons (pe_lst pa_nil) (pa_cons pe_dnewK (pa_cons pe_str (pa_cons pe_str (pa_cons pe_str (pa_cons pe_str (pa_cons (pe_lst (pa_cons pe_str pa_nil)) (pa_cons (pe_tup (pa_cons pe_str pa_nil)) pa_nil)))))))))))))) (pg_name (i := 2) scLaw.nd rfl (Or.inl rfl))
       (pss_one (ps_if (pt_not (pt_val (pe_call GR hr6 rfl mR kR bR .nil pass0 (pa_cons (pv 2) pa_nil))))
       (pss_one (ps_ret pe_bl))
       pss_nil)))
       (pss_cons (ps_for PassesOwn.never rfl (pi_range1 rfl n_range (pa_cons pe_int pa_nil)) (pg_name (i := 3) scLaw.nd rfl (Or.inl rfl))
       (pss_cons (ps_set (i := 4) scLaw.nd rfl (Or.inl rfl) (pe_call GH hr4 rfl mH kH bH .nil pass0 (pa_cons (pv 1) pa_nil)))
       (pss_cons (ps_set (i := 5) scLaw.nd rfl (Or.inl rfl) (pe_call GL hr1 rfl mL kL bL .nil pass0 (pa_cons (pv 4) (pa_cons (pe_call GX hr4 rfl mX kX bX .nil pass0 (pa_cons (pv 1) (pa_cons pe_int pa_nil))) pa_nil))))
       (pss_cons (ps_for PassesOwn.never rfl (pi_range1 rfl n_range (pa_cons (pe_op op_add pe_int (pe_call GN hr2 rfl mN kN bN .nil pass0 (pa_cons (pv 1) (pa_cons pe_int pa_nil)))) pa_nil)) (pg_name (i := 6) scLaw.nd rfl (Or.inl rfl))
       (pss_one (ps_set (i := 5) scLaw.nd rfl (Or.inl rfl) (pe_call GT hr4 rfl mT kT bT .nil pass0 (pa_cons (pv 1) (pa_cons (pv 5) pa_nil))))))
       (pss_cons (ps_set (i := 2) scLaw.nd rfl (Or.inl rfl) (pe_call GB hr4 rfl mB kB bB .nil pass0 (pa_cons (pv 1) (pa_cons (pv 4) pa_nil))))
       (pss_cons (ps_set (i := 7) scLaw.nd rfl (Or.inl rfl) (pe_callB (reprE (K := K) rfl rfl hr.units) (by rfl) n_repr (by decide +kernel) (pa_cons (pv 2) pa_nil)))
       (pss_cons (ps_set (i := 8) scLaw.nd rfl (Or.inl rfl) (pe_call GI hr3 rfl mI kI bI .nil pass0 (pa_cons (pv 2) pa_nil)))
       (pss_cons (ps_if (PW.pt (pw_or (pt_not (pt_val (pe_call GR hr6 rfl mR kR bR .nil pass0 (pa_cons (pv 5) pa_nil)))) (pw_or (pt_not (pt_val (pe_callB (isiK (K := K) rfl) (by rfl) n_isinstance (by decide +kernel) (pa_cons (pv 8) (pa_cons (pe_bltn (v := .ty "bool") (by rfl) n_bool PyProof.Rows.boot_bool rfl) pa_nil))))) (pw_or1 (pt_cmpR op_ne (pv 8) (pe_call GJ hr1 rfl mJ kJ bJ .nil pass0 (pa_cons (pv 2) pa_nil)) (nomark _))))))
       (pss_one (ps_ret pe_bl))
       pss_nil)
       (pss_one (ps_if (pt_cmpR op_ne (pe_callB (reprE (K := K) rfl rfl hr.units) (by rfl) n_repr (by decide +kernel) (pa_cons (pv 2) pa_nil)) (pv 7) (nomark _))
       (pss_one (ps_ret pe_bl))
       pss_nil))))))))))
       (pss_one (ps_ret pe_bl))))), ?_⟩
    refine ⟨_, rfl, a, ns, rfl, hS, hl, fun H1 d f nd nf s1 D1 => ?_⟩
    refine ⟨(by show 0 ≤ sizeLine; decide), fun p n_p => ?_⟩
    obtain ⟨G1, e_G1, q1, g1⟩ := new_any n_p
    rw [← e_G1]
    clear e_G1
    refine ⟨(by show 0 ≤ sizeLine; decide), fun q n_q => ?_⟩
    obtain ⟨G2, e_G2, q2, g2⟩ := new_any n_q
    rw [← e_G2]
    clear e_G2
    intro r n_r
    obtain ⟨G3, e_G3, q3, g3⟩ := new_any n_r
    rw [← e_G3]
    clear e_G3
    refine ⟨(by show 1 ≤ sizeLine; decide), fun u n_u => ?_⟩
    obtain ⟨G4, e_G4, q4, g4⟩ := new_any n_u
    rw [← e_G4]
    clear e_G4
    refine ⟨(by show 1 ≤ sizeLine; decide), fun t n_t => ?_⟩
    obtain ⟨G5, e_G5, q5, g5⟩ := new_any n_t
    rw [← e_G5]
    clear e_G5
    refine ⟨(by show 12 ≤ sizeLine; decide), fun l n_l => ?_⟩
    obtain ⟨G6, e_G6, q6, g6⟩ := new_any n_l
    rw [← e_G6]
    clear e_G6
    have p6 : G6 p = some (.tup []) := by walk_at "h"
    have h_q : G6 q = some (.lst []) := by walk_at "h"
    have h_r : G6 r = some (.dK []) := by walk_at "h"
    have h_u : G6 u = some (.lst [.str (Str.ofString "0.l.0.0.0.0.0:")]) := by walk_at "h"
    have h_t : G6 t = some (.tup [.str (Str.ofString "0.l.0.0.0.0.0:")]) := by walk_at "h"
    have s16 : Same H1 G6 := by walk_at "same"
    have D6 := D1.same s16
    have fin : ∀ x ∈ [V.non, .int 0, .bl true, .ref p, .ref q, .ref r, .str (Str.ofString ""), .str (Str.ofString ":"), .str (Str.ofString "."), .str (Str.ofString "a"), .ref u, .ref t], ∃ dd, Dk K G6 x dd ∧ ∀ cs, dd = .str (S cs) → cs.length ≤ 1000 := by
      intro x hx
      have no : ∀ {dd : PyData}, (∀ z, dd ≠ .str z) → ∀ cs, dd = .str (S cs) → cs.length ≤ 1000 := fun h cs e => absurd e (h _)
      have st : ∀ {z : Str}, z.length ≤ 1000 → ∀ cs, PyData.str z = .str (S cs) → cs.length ≤ 1000 := fun h cs e => by
        rw [PyData.str.inj e, S_len] at h
        exact h
      simp only [List.mem_cons, List.not_mem_nil, or_false] at hx
      rcases hx with rfl | rfl | rfl | rfl | rfl | rfl | rfl | rfl | rfl | rfl | rfl | rfl
      · exact ⟨_, .non, no fun z => by nofun⟩
      · exact ⟨_, .int _, no fun z => by nofun⟩
      · exact ⟨_, .bl _, no fun z => by nofun⟩
      · exact ⟨_, .tup (SqT.of p6) .nil, no fun z => by nofun⟩
      · exact ⟨_, .lst (SqL.of h_q) .nil, no fun z => by nofun⟩
      · exact ⟨_, .dct h_r .nil, no fun z => by nofun⟩
      · exact ⟨_, .str _, st (by decide +kernel)⟩
      · exact ⟨_, .str _, st (by decide +kernel)⟩
      · exact ⟨_, .str _, st (by decide +kernel)⟩
      · exact ⟨_, .str _, st (by decide +kernel)⟩
      · exact ⟨_, .lst (SqL.of h_u) (.cons (.str _) .nil), no fun z => by nofun⟩
      · exact ⟨_, .tup (SqT.of h_t) (.cons (.str _) .nil), no fun z => by nofun⟩
    generalize [V.non, .int 0, .bl true, .ref p, .ref q, .ref r, .str (Str.ofString ""), .str (Str.ofString ":"), .str (Str.ofString "."), .str (Str.ofString "a"), .ref u, .ref t] = W at g6 fin
    refine ⟨l, rfl, ⟨_, SqL.of g6⟩, ?_⟩
    refine for_it (walk_list (K := K) (a := l) (xs := W)) (fun i σ H' => ∃ (v2 v3 v4 v5 v6 v7 v8 : Option V), σ = [some (.ref a), some (.ref d), v2, v3, v4, v5, v6, v7, v8] ∧ Same G6 H')
      ⟨_, _, _, _, _, _, _, rfl, L2.Same.refl _⟩ (fun i σ H' _ ⟨_, _, _, _, _, _, _, _, s'⟩ => SqL.of (s' _ _ g6)) ?_ ?_
    · rintro i x σ H2 H2' hi ⟨v2, v3, v4, v5, v6, v7, v8, rfl, s2⟩ ⟨rfl, ex⟩
      obtain ⟨dd, hdd, hlen⟩ := fin x (List.mem_of_getElem? ex)
      exact ⟨_, rfl, x, dd, rfl, hdd.sm s2, hlen, fun H3 s3 => ⟨_, rfl, iteF ⟨_, _, _, _, _, _, _, rfl, s2.trans s3⟩⟩⟩
    rintro σ H2 ⟨v2, v3, v4, v5, v6, v7, v8, rfl, s2⟩
    have D2 := D6.same s2
    refine ⟨14, rfl, by decide, by decide, ?_⟩
    refine for_range (lo := 0) (fun i σ H' => ∃ (v2 v3 v4 v5 v6 v7 v8 : Option V), σ = [some (.ref a), some (.ref d), v2, v3, v4, v5, v6, v7, v8] ∧ Deck H' d f (1000 * i)) ⟨_, _, _, _, _, _, _, rfl, D2.mono (by omega)⟩ ?_ ?_
    · rintro i σ H3 hi ⟨v2, v3, v4, v5, v6, v7, v8, rfl, D3⟩
      have hi : i < 14 := hi
      refine ⟨_, rfl, d, f, 1000 * i, rfl, D3, by omega, fun H4 h va ok k4 D4 ra t4 => ?_⟩
      refine ⟨_, rfl, _, rfl, d, f, _, 5, rfl, D4, by omega, by decide, by decide, fun cs H5 lc _ k5 D5 t5 => ?_⟩
      have lc : cs.length ≤ 5 := by omega
      have ra5 := Rp.tk t5 _ _ ra
      refine ⟨h, va, cs, rfl, ra5, ok, by omega, fun H6 s6 => ?_⟩
      have ra6 := Rp.tk (TK.of s6) _ _ ra5
      have D6 := D5.same s6
      have hw := head_len ok
      have lw : (h.wr cs).length ≤ 60 := by
        unfold Hd.wr
        rw [List.length_append, List.length_cons]
        omega
      generalize h.wr cs = tx at lw
      refine ⟨_, rfl, d, f, 3, _, rfl, by decide, by omega, D6, fun r H7 r0 r1 k7 D7 t7 => ?_⟩
      obtain ⟨m, rfl⟩ : ∃ m : Nat, r = (m : Int) := ⟨r.toNat, by omega⟩
      have hm : m < 3 := by omega
      have ra7 := Rp.tk t7 _ _ ra6
      have D7' : Deck H7 d f (1000 * i + 100) := D7.mono (by omega)
      refine ⟨_, _, rfl, rfl, ?_⟩
      refine ⟨((1 + m : Nat) : Int), congrArg (fun z => [V.int z]) (by omega), by omega, by omega, ?_⟩
      refine for_range (lo := 0) (fun j σ H' => ∃ (w6 : Option V) (tx' : List Nat), σ = [some (.ref a), some (.ref d), v2, some (.int (0 + (i : Int))), some va, some (.str (S tx')), w6, v7, v8] ∧ tx'.length + 8 ≤ 68 * 2 ^ j ∧ Rp K H' h.D va ∧ Deck H' d f (1000 * i + 100 + 10 * j)) ⟨_, _, rfl, by omega, ra7, D7'.mono (by omega)⟩ ?_ ?_
      · rintro j σ H8 hj ⟨w6, tx', rfl, lt, ra8, D8⟩
        have hj : j < 3 := by omega
        have l400 : tx'.length ≤ 400 := by
          have c : j = 0 ∨ j = 1 ∨ j = 2 := by omega
          rcases c with rfl | rfl | rfl <;> omega
        refine ⟨_, rfl, _, rfl, d, f, _, tx', rfl, D8, by omega, l400, fun H9 cs' lc' k9 t9 D9 => ?_⟩
        refine ⟨_, cs', rfl, ?_, Rp.tk t9 _ _ ra8, D9.mono (by omega)⟩
        rw [Nat.pow_succ]
        omega
      rintro σ H8 ⟨w6, tx', rfl, lt, ra8, D8⟩
      have l1000 : tx'.length ≤ 1000 := by
        have h8 : (2 : Nat) ^ (((1 + m : Nat) : Int)).toNat ≤ 2 ^ 3 := Nat.pow_le_pow_right (by decide) (by omega)
        have h9 : 68 * (2 : Nat) ^ (((1 + m : Nat) : Int)).toNat ≤ 68 * 2 ^ 3 := Nat.mul_le_mul_left _ h8
        have := Nat.le_trans lt h9
        omega
      refine ⟨_, rfl, _, rfl, d, f, _, h, va, rfl, D8, by omega, ok, ra8, fun H9 v' dd hT k9 t9 D9 => ?_⟩
      obtain ⟨o1, o2, o3⟩ := niceE_ok hT.2.1 hT.2.2.1 hT.2.2.2
      refine ⟨_, rfl, v', dd, rfl, hT.1, o1, o2, o3, ?_⟩
      refine ⟨_, rfl, v', dd, rfl, hT.dk, fun H10 s10 => ?_⟩
      refine ⟨_, rfl, .str (S tx'), .str (S tx'), rfl, .str _, fun cs e => by rw [← SX.S_inj (PyData.str.inj e)]; exact l1000, fun H11 s11 => ⟨_, rfl, iteF ?_⟩⟩
      refine ⟨_, rfl, _, _, _, _, _, rfl, .ty _, (Dk.bl (isHeadD dd)).ty, kit_bool (.bool (isHeadD dd)), _, rfl, iteF ?_⟩
      refine ⟨_, rfl, _, rfl, v', dd, rfl, hT.dk.sm (s10.trans s11), fun H12 s12 => ⟨rfl, _, rfl, iteNS rfl ?_⟩⟩
      have s912 := (s10.trans s11).trans s12
      refine ⟨_, rfl, v', dd, rfl, (hT.sm s912).1, o1, o2, o3, ?_⟩
      refine ⟨_, rfl, rfl, _, rfl, iteNS rfl ?_⟩
      exact ⟨_, _, _, _, _, _, _, rfl, (D9.same s912).mono (by omega)⟩
    · rintro σ H3 ⟨v2, v3, v4, v5, v6, v7, v8, rfl, D3⟩
      exact k _
end
end Wn

namespace Wn
open PySem L2
abbrev sE_NoHead : Stmt := inClass (top 5) 0
abbrev sE_Torn : Stmt := inClass (top 6) 0

section
variable {P : Program} {w : World} {K : PySem.W.Frag} {mg : Str → Option Value} {base : Heap} {NA C : Addr}
theorem scE_NoHead : FnScope ["self"] ["self"] (defScope sE_NoHead) := ⟨rfl, rfl, rfl, by decide +kernel, rfl, by decide +kernel, by decide +kernel⟩
theorem ok_E_NoHead {f : Addr} {fd : FuncData} (F : Fun K "__init__" "NoHead.__init__" sE_NoHead f fd) (N : NetE K mg NA) (T : OexC K C) : FnOk P w K mg base CX0 1 f fd ["self"] (spX0 C) := by
  refine F.ok scE_NoHead (fun vs H Q E h => ?_) (fun cdv A outer s H vs Q E hr h => ?_)
  · obtain ⟨a, rfl, _⟩ := h
    rfl
  · obtain ⟨a, rfl, ha, k⟩ := h
    refine ⟨_, (pss_one (ps_expr (pe_ownInit (by rfl) N.g N.sp N.rd N.v (pa_cons (pv 0) (pa_cons pe_str pa_nil))))), ?_⟩
    refine ⟨_, rfl, a, C, _, rfl, (by simp), T, ha, k⟩
theorem scE_Torn : FnScope ["self", "at"] ["self", "at"] (defScope sE_Torn) := ⟨rfl, rfl, rfl, by decide +kernel, rfl, by decide +kernel, by decide +kernel⟩
theorem ok_E_Torn {f : Addr} {fd : FuncData} (F : Fun K "__init__" "Torn.__init__" sE_Torn f fd) (N : NetE K mg NA) (T : OexC K C) (no0 : PySem.W.findIn K (.ref C) "at" = some none) : FnOk P w K mg base CX0 1 f fd ["self", "at"] (spX1 C "at") := by
  refine F.ok scE_Torn (fun vs H Q E h => ?_) (fun cdv A outer s H vs Q E hr h => ?_)
  · obtain ⟨a, v, rfl, _⟩ := h
    rfl
  · obtain ⟨a, v, rfl, ha, k⟩ := h
    refine ⟨_, (pss_cons (ps_expr (pe_ownInit (by rfl) N.g N.sp N.rd N.v (pa_cons (pv 0) (pa_cons pe_str pa_nil))))
       (pss_one (ps_ost (pv 0) (pv 1)))), ?_⟩
    refine ⟨_, rfl, a, C, _, rfl, (by simp), T, ha, _, rfl, _, rfl, a, C, rfl, T, no0, .inl ⟨ha, fun dx hd ne => k dx hd ne⟩⟩
end
end Wn

namespace Wn
open PySem L2
theorem all_mk {l : PySem.W.OpenLaw} {w : World} {K : PySem.W.Frag} {h : Heap} {mg : Str → Option Value} {fa A_KIND_WORDS C_NetError C_NoHead f_NoHead_init C_Torn f_is_whole f_is_from f_is_head f_number_of f_read f_law_mixed f_law_deck f_law_next f_law_pick f_law_same f_law_count f_law_head f_law_sign f_law_text f_law_written f_law_number f_law_read f_law_bent_text f_law_is_head f_law_bent_head f_law_found f_law_is_right f_law : Addr} (X : K.In h) (G : h.Ns mainGlobals mg) (hfa : mg "law" = some (.ref fa))
    {dd_KIND_WORDS od_NoHead_init an_NoHead_init od_is_whole an_is_whole od_is_from an_is_from od_is_head an_is_head od_number_of an_number_of od_read an_read od_law_mixed an_law_mixed od_law_deck an_law_deck od_law_next an_law_next od_law_pick an_law_pick od_law_same an_law_same od_law_count an_law_count od_law_head an_law_head od_law_sign an_law_sign od_law_text an_law_text od_law_written an_law_written od_law_number an_law_number od_law_read an_law_read od_law_bent_text an_law_bent_text od_law_is_head an_law_is_head od_law_bent_head an_law_bent_head od_law_found an_law_found od_law_is_right an_law_is_right od_law an_law : Option Addr} {sl_KIND_WORDS sl_NoHead_init sl_is_whole sl_is_from sl_is_head sl_number_of sl_read sl_law_mixed sl_law_deck sl_law_next sl_law_pick sl_law_same sl_law_count sl_law_head sl_law_sign sl_law_text sl_law_written sl_law_number sl_law_read sl_law_bent_text sl_law_is_head sl_law_bent_head sl_law_found sl_law_is_right sl_law : Array (Option Value)} {oc_NoHead_init kV_NoHead_init dc_NoHead_init pm_NoHead_init cd_NoHead_init ct_NoHead_init oc_is_whole kV_is_whole dc_is_whole pm_is_whole cd_is_whole ct_is_whole oc_is_from kV_is_from dc_is_from pm_is_from cd_is_from ct_is_from oc_is_head kV_is_head dc_is_head pm_is_head cd_is_head ct_is_head oc_number_of kV_number_of dc_number_of pm_number_of cd_number_of ct_number_of oc_read kV_read dc_read pm_read cd_read ct_read oc_law_mixed kV_law_mixed dc_law_mixed pm_law_mixed cd_law_mixed ct_law_mixed oc_law_deck kV_law_deck dc_law_deck pm_law_deck cd_law_deck ct_law_deck oc_law_next kV_law_next dc_law_next pm_law_next cd_law_next ct_law_next oc_law_pick kV_law_pick dc_law_pick pm_law_pick cd_law_pick ct_law_pick oc_law_same kV_law_same dc_law_same pm_law_same cd_law_same ct_law_same oc_law_count kV_law_count dc_law_count pm_law_count cd_law_count ct_law_count oc_law_head kV_law_head dc_law_head pm_law_head cd_law_head ct_law_head oc_law_sign kV_law_sign dc_law_sign pm_law_sign cd_law_sign ct_law_sign oc_law_text kV_law_text dc_law_text pm_law_text cd_law_text ct_law_text oc_law_written kV_law_written dc_law_written pm_law_written cd_law_written ct_law_written oc_law_number kV_law_number dc_law_number pm_law_number cd_law_number ct_law_number oc_law_read kV_law_read dc_law_read pm_law_read cd_law_read ct_law_read oc_law_bent_text kV_law_bent_text dc_law_bent_text pm_law_bent_text cd_law_bent_text ct_law_bent_text oc_law_is_head kV_law_is_head dc_law_is_head pm_law_is_head cd_law_is_head ct_law_is_head oc_law_bent_head kV_law_bent_head dc_law_bent_head pm_law_bent_head cd_law_bent_head ct_law_bent_head oc_law_found kV_law_found dc_law_found pm_law_found cd_law_found ct_law_found oc_law_is_right kV_law_is_right dc_law_is_right pm_law_is_right cd_law_is_right ct_law_is_right oc_law kV_law dc_law pm_law cd_law ct_law : Value} {t_MANY t_GREATEST_NUMBER t_LONGEST t_FIGURES tk0 tk1 tk2 tk3 tk4 tk5 : Tok}
    {n_tup_KIND_WORDS : Nat}
    {nm_C_NoHead q_C_NoHead : Str} {N_C_NoHead : Addr} {bs_C_NoHead : List Value} {sn_C_NoHead : List Str} {sub_C_NoHead : List Value} {ab_C_NoHead : Bool} {col_C_NoHead : Option Bool} {dd_C_NoHead : Option Addr} {m0_C_NoHead m1_C_NoHead m2_C_NoHead m3_C_NoHead m5_C_NoHead : Option Value}
    (a_MANY : PySem.W.nsIn K mainGlobals "MANY" = some (some (.int 7 t_MANY)))
    (a_GREATEST_NUMBER : PySem.W.nsIn K mainGlobals "GREATEST_NUMBER" = some (some (.int 1000000 t_GREATEST_NUMBER)))
    (a_LONGEST : PySem.W.nsIn K mainGlobals "LONGEST" = some (some (.int 7 t_LONGEST)))
    (a_FIGURES : PySem.W.nsIn K mainGlobals "FIGURES" = some (some (.str (SX.S figsL) t_FIGURES)))
    (a_KIND_WORDS : PySem.W.nsIn K mainGlobals "KIND_WORDS" = some (some (.ref A_KIND_WORDS)))
    (lk_KIND_WORDS : K.lookup A_KIND_WORDS = some ⟨.type "tuple", dd_KIND_WORDS, .seq #[.str (SX.S [108]) tk0, .str (SX.S [117]) tk1, .str (SX.S [97]) tk2, .str (SX.S [102]) tk3, .str (SX.S [104]) tk4, .str (SX.S [116]) tk5] n_tup_KIND_WORDS, sl_KIND_WORDS⟩)
    (a_C_NetError : PySem.W.nsIn K mainGlobals "NetError" = some (some (.ref C_NetError)))
    (sp_C_NetError : PySem.W.specialIn K (.ref C_NetError) "__getattribute__" = some (some (.builtin "type.__getattribute__")))
    (rd_C_NetError : PySem.W.readsIn K C_NetError (.type "type") = true)
    (v_C_NetError : PySem.W.findCls K (.ref C_NetError) (.type "type") "__init__" = some (.val (.builtin "ValueError.__init__")))
    (ex_C_NetError : PySem.W.subIn K (.ref C_NetError) (.type "BaseException") = some true)
    (hd_C_NetError : PySem.W.hasDictIn K C_NetError = true)
    (ty_C_NetError : PySem.W.typeIn K (.ref C_NetError) = some (.type "type"))
    (a_C_NoHead : PySem.W.nsIn K mainGlobals "NoHead" = some (some (.ref C_NoHead)))
    (ex_C_NoHead : PySem.W.subIn K (.ref C_NoHead) (.type "BaseException") = some true)
    (ty_C_NoHead : PySem.W.typeIn K (.ref C_NoHead) = some (.type "type"))
    (xL_C_NoHead : K.lookup C_NoHead = some (excClassObj nm_C_NoHead q_C_NoHead C_NoHead N_C_NoHead bs_C_NoHead [.ref C_NetError, .type "ValueError", .type "Exception", .type "BaseException", .type "object"] true sn_C_NoHead sub_C_NoHead ab_C_NoHead col_C_NoHead dd_C_NoHead m0_C_NoHead m1_C_NoHead m2_C_NoHead m3_C_NoHead m5_C_NoHead "ValueError.__new__"))
    (sa_C_NoHead : PySem.W.findIn K (.ref C_NoHead) "__setattr__" = some (some (.builtin "object.__setattr__")))
    (kc_C_NoHead : PySem.W.keepIn K (.ref C_NoHead) = true)
    (a_NoHead_init : PySem.W.findIn K (.ref C_NoHead) "__init__" = some (some (.ref f_NoHead_init)))
    (i_NoHead_init : PySem.W.isFn K (.ref f_NoHead_init) = true)
    (l_NoHead_init : K.lookup f_NoHead_init = some ⟨oc_NoHead_init, od_NoHead_init, .func (PySem.W.fnOf "__init__" "NoHead.__init__" (defArgs sE_NoHead) (defBody sE_NoHead) (defScope sE_NoHead) .none kV_NoHead_init dc_NoHead_init pm_NoHead_init an_NoHead_init cd_NoHead_init ct_NoHead_init), sl_NoHead_init⟩)
    (c_NoHead_init : PySem.W.codeIn K cd_NoHead_init "NoHead.__init__" = true)
    (k_NoHead_init : PySem.W.keepIn K (.ref f_NoHead_init) = true)
    (tf_C_NoHead : PySem.W.typeIn K (.ref f_NoHead_init) = some (.type "function"))
    (ga_C_NoHead : PySem.W.findIn K (.ref C_NoHead) "__getattribute__" = some (some (.builtin "BaseException.__getattribute__")))
    (gg_C_NoHead : PySem.W.findIn K (.ref C_NoHead) "__getattr__" = some none)
    (hd_C_NoHead : PySem.W.hasDictIn K C_NoHead = true)
    (hc_C_NoHead : PySem.W.findIn K (.ref C_NoHead) "__class__" = some (some (.builtin "object.__class__")))
    (mo_C_NoHead : PySem.W.mroIn K C_NoHead (.type "object") = some true)
    (sn_C_NoHead_b : PySem.W.subIn K (.ref C_NoHead) (.ref C_NetError) = some true)
    (a_C_Torn : PySem.W.nsIn K mainGlobals "Torn" = some (some (.ref C_Torn)))
    (cg_all : PySem.W.specialIn K (.builtin "object.__class__") "__get__" = some (some (.builtin "getset_descriptor.__get__")))
    (tk_all : PySem.W.takesIn K (.builtin "object.__class__") = some true)
    (kit_1 : PySem.W.kitOne K (.ref C_NoHead) (.ref C_NoHead) = some true)
    (kit_2 : PySem.W.kitOne K (.ref C_NoHead) (.ref C_Torn) = some false)
    (kit_3 : PySem.W.kitOne K (.ref C_NoHead) (.type "ValueError") = some true)
    (a_is_whole : PySem.W.nsIn K mainGlobals "is_whole" = some (some (.ref f_is_whole)))
    (l_is_whole : K.lookup f_is_whole = some ⟨oc_is_whole, od_is_whole, .func (PySem.W.fnOf "is_whole" "is_whole" (defArgs sWhole) (defBody sWhole) (defScope sWhole) .none kV_is_whole dc_is_whole pm_is_whole an_is_whole cd_is_whole ct_is_whole), sl_is_whole⟩)
    (c_is_whole : PySem.W.codeIn K cd_is_whole "is_whole" = true)
    (k_is_whole : PySem.W.keepIn K (.ref f_is_whole) = true)
    (a_is_from : PySem.W.nsIn K mainGlobals "is_from" = some (some (.ref f_is_from)))
    (l_is_from : K.lookup f_is_from = some ⟨oc_is_from, od_is_from, .func (PySem.W.fnOf "is_from" "is_from" (defArgs sFrom) (defBody sFrom) (defScope sFrom) .none kV_is_from dc_is_from pm_is_from an_is_from cd_is_from ct_is_from), sl_is_from⟩)
    (c_is_from : PySem.W.codeIn K cd_is_from "is_from" = true)
    (k_is_from : PySem.W.keepIn K (.ref f_is_from) = true)
    (a_is_head : PySem.W.nsIn K mainGlobals "is_head" = some (some (.ref f_is_head)))
    (l_is_head : K.lookup f_is_head = some ⟨oc_is_head, od_is_head, .func (PySem.W.fnOf "is_head" "is_head" (defArgs sIsHead) (defBody sIsHead) (defScope sIsHead) .none kV_is_head dc_is_head pm_is_head an_is_head cd_is_head ct_is_head), sl_is_head⟩)
    (c_is_head : PySem.W.codeIn K cd_is_head "is_head" = true)
    (k_is_head : PySem.W.keepIn K (.ref f_is_head) = true)
    (a_number_of : PySem.W.nsIn K mainGlobals "number_of" = some (some (.ref f_number_of)))
    (l_number_of : K.lookup f_number_of = some ⟨oc_number_of, od_number_of, .func (PySem.W.fnOf "number_of" "number_of" (defArgs sNumber) (defBody sNumber) (defScope sNumber) .none kV_number_of dc_number_of pm_number_of an_number_of cd_number_of ct_number_of), sl_number_of⟩)
    (c_number_of : PySem.W.codeIn K cd_number_of "number_of" = true)
    (k_number_of : PySem.W.keepIn K (.ref f_number_of) = true)
    (a_read : PySem.W.nsIn K mainGlobals "read" = some (some (.ref f_read)))
    (l_read : K.lookup f_read = some ⟨oc_read, od_read, .func (PySem.W.fnOf "read" "read" (defArgs sRead) (defBody sRead) (defScope sRead) .none kV_read dc_read pm_read an_read cd_read ct_read), sl_read⟩)
    (c_read : PySem.W.codeIn K cd_read "read" = true)
    (k_read : PySem.W.keepIn K (.ref f_read) = true)
    (a_law_mixed : PySem.W.nsIn K mainGlobals "_law_mixed" = some (some (.ref f_law_mixed)))
    (l_law_mixed : K.lookup f_law_mixed = some ⟨oc_law_mixed, od_law_mixed, .func (PySem.W.fnOf "_law_mixed" "_law_mixed" (defArgs sMixed) (defBody sMixed) (defScope sMixed) .none kV_law_mixed dc_law_mixed pm_law_mixed an_law_mixed cd_law_mixed ct_law_mixed), sl_law_mixed⟩)
    (c_law_mixed : PySem.W.codeIn K cd_law_mixed "_law_mixed" = true)
    (k_law_mixed : PySem.W.keepIn K (.ref f_law_mixed) = true)
    (a_law_deck : PySem.W.nsIn K mainGlobals "_law_deck" = some (some (.ref f_law_deck)))
    (l_law_deck : K.lookup f_law_deck = some ⟨oc_law_deck, od_law_deck, .func (PySem.W.fnOf "_law_deck" "_law_deck" (defArgs sDeck) (defBody sDeck) (defScope sDeck) .none kV_law_deck dc_law_deck pm_law_deck an_law_deck cd_law_deck ct_law_deck), sl_law_deck⟩)
    (c_law_deck : PySem.W.codeIn K cd_law_deck "_law_deck" = true)
    (k_law_deck : PySem.W.keepIn K (.ref f_law_deck) = true)
    (a_law_next : PySem.W.nsIn K mainGlobals "_law_next" = some (some (.ref f_law_next)))
    (l_law_next : K.lookup f_law_next = some ⟨oc_law_next, od_law_next, .func (PySem.W.fnOf "_law_next" "_law_next" (defArgs sNext) (defBody sNext) (defScope sNext) .none kV_law_next dc_law_next pm_law_next an_law_next cd_law_next ct_law_next), sl_law_next⟩)
    (c_law_next : PySem.W.codeIn K cd_law_next "_law_next" = true)
    (k_law_next : PySem.W.keepIn K (.ref f_law_next) = true)
    (a_law_pick : PySem.W.nsIn K mainGlobals "_law_pick" = some (some (.ref f_law_pick)))
    (l_law_pick : K.lookup f_law_pick = some ⟨oc_law_pick, od_law_pick, .func (PySem.W.fnOf "_law_pick" "_law_pick" (defArgs sPick) (defBody sPick) (defScope sPick) .none kV_law_pick dc_law_pick pm_law_pick an_law_pick cd_law_pick ct_law_pick), sl_law_pick⟩)
    (c_law_pick : PySem.W.codeIn K cd_law_pick "_law_pick" = true)
    (k_law_pick : PySem.W.keepIn K (.ref f_law_pick) = true)
    (a_law_same : PySem.W.nsIn K mainGlobals "_law_same" = some (some (.ref f_law_same)))
    (l_law_same : K.lookup f_law_same = some ⟨oc_law_same, od_law_same, .func (PySem.W.fnOf "_law_same" "_law_same" (defArgs sSame) (defBody sSame) (defScope sSame) .none kV_law_same dc_law_same pm_law_same an_law_same cd_law_same ct_law_same), sl_law_same⟩)
    (c_law_same : PySem.W.codeIn K cd_law_same "_law_same" = true)
    (k_law_same : PySem.W.keepIn K (.ref f_law_same) = true)
    (a_law_count : PySem.W.nsIn K mainGlobals "_law_count" = some (some (.ref f_law_count)))
    (l_law_count : K.lookup f_law_count = some ⟨oc_law_count, od_law_count, .func (PySem.W.fnOf "_law_count" "_law_count" (defArgs sCount) (defBody sCount) (defScope sCount) .none kV_law_count dc_law_count pm_law_count an_law_count cd_law_count ct_law_count), sl_law_count⟩)
    (c_law_count : PySem.W.codeIn K cd_law_count "_law_count" = true)
    (k_law_count : PySem.W.keepIn K (.ref f_law_count) = true)
    (a_law_head : PySem.W.nsIn K mainGlobals "_law_head" = some (some (.ref f_law_head)))
    (l_law_head : K.lookup f_law_head = some ⟨oc_law_head, od_law_head, .func (PySem.W.fnOf "_law_head" "_law_head" (defArgs sHead) (defBody sHead) (defScope sHead) .none kV_law_head dc_law_head pm_law_head an_law_head cd_law_head ct_law_head), sl_law_head⟩)
    (c_law_head : PySem.W.codeIn K cd_law_head "_law_head" = true)
    (k_law_head : PySem.W.keepIn K (.ref f_law_head) = true)
    (a_law_sign : PySem.W.nsIn K mainGlobals "_law_sign" = some (some (.ref f_law_sign)))
    (l_law_sign : K.lookup f_law_sign = some ⟨oc_law_sign, od_law_sign, .func (PySem.W.fnOf "_law_sign" "_law_sign" (defArgs sSign) (defBody sSign) (defScope sSign) .none kV_law_sign dc_law_sign pm_law_sign an_law_sign cd_law_sign ct_law_sign), sl_law_sign⟩)
    (c_law_sign : PySem.W.codeIn K cd_law_sign "_law_sign" = true)
    (k_law_sign : PySem.W.keepIn K (.ref f_law_sign) = true)
    (a_law_text : PySem.W.nsIn K mainGlobals "_law_text" = some (some (.ref f_law_text)))
    (l_law_text : K.lookup f_law_text = some ⟨oc_law_text, od_law_text, .func (PySem.W.fnOf "_law_text" "_law_text" (defArgs sText) (defBody sText) (defScope sText) .none kV_law_text dc_law_text pm_law_text an_law_text cd_law_text ct_law_text), sl_law_text⟩)
    (c_law_text : PySem.W.codeIn K cd_law_text "_law_text" = true)
    (k_law_text : PySem.W.keepIn K (.ref f_law_text) = true)
    (a_law_written : PySem.W.nsIn K mainGlobals "_law_written" = some (some (.ref f_law_written)))
    (l_law_written : K.lookup f_law_written = some ⟨oc_law_written, od_law_written, .func (PySem.W.fnOf "_law_written" "_law_written" (defArgs sLWritten) (defBody sLWritten) (defScope sLWritten) .none kV_law_written dc_law_written pm_law_written an_law_written cd_law_written ct_law_written), sl_law_written⟩)
    (c_law_written : PySem.W.codeIn K cd_law_written "_law_written" = true)
    (k_law_written : PySem.W.keepIn K (.ref f_law_written) = true)
    (a_law_number : PySem.W.nsIn K mainGlobals "_law_number" = some (some (.ref f_law_number)))
    (l_law_number : K.lookup f_law_number = some ⟨oc_law_number, od_law_number, .func (PySem.W.fnOf "_law_number" "_law_number" (defArgs sLNumber) (defBody sLNumber) (defScope sLNumber) .none kV_law_number dc_law_number pm_law_number an_law_number cd_law_number ct_law_number), sl_law_number⟩)
    (c_law_number : PySem.W.codeIn K cd_law_number "_law_number" = true)
    (k_law_number : PySem.W.keepIn K (.ref f_law_number) = true)
    (a_law_read : PySem.W.nsIn K mainGlobals "_law_read" = some (some (.ref f_law_read)))
    (l_law_read : K.lookup f_law_read = some ⟨oc_law_read, od_law_read, .func (PySem.W.fnOf "_law_read" "_law_read" (defArgs sLRead) (defBody sLRead) (defScope sLRead) .none kV_law_read dc_law_read pm_law_read an_law_read cd_law_read ct_law_read), sl_law_read⟩)
    (c_law_read : PySem.W.codeIn K cd_law_read "_law_read" = true)
    (k_law_read : PySem.W.keepIn K (.ref f_law_read) = true)
    (a_law_bent_text : PySem.W.nsIn K mainGlobals "_law_bent_text" = some (some (.ref f_law_bent_text)))
    (l_law_bent_text : K.lookup f_law_bent_text = some ⟨oc_law_bent_text, od_law_bent_text, .func (PySem.W.fnOf "_law_bent_text" "_law_bent_text" (defArgs sLBentT) (defBody sLBentT) (defScope sLBentT) .none kV_law_bent_text dc_law_bent_text pm_law_bent_text an_law_bent_text cd_law_bent_text ct_law_bent_text), sl_law_bent_text⟩)
    (c_law_bent_text : PySem.W.codeIn K cd_law_bent_text "_law_bent_text" = true)
    (k_law_bent_text : PySem.W.keepIn K (.ref f_law_bent_text) = true)
    (a_law_is_head : PySem.W.nsIn K mainGlobals "_law_is_head" = some (some (.ref f_law_is_head)))
    (l_law_is_head : K.lookup f_law_is_head = some ⟨oc_law_is_head, od_law_is_head, .func (PySem.W.fnOf "_law_is_head" "_law_is_head" (defArgs sLIsHead) (defBody sLIsHead) (defScope sLIsHead) .none kV_law_is_head dc_law_is_head pm_law_is_head an_law_is_head cd_law_is_head ct_law_is_head), sl_law_is_head⟩)
    (c_law_is_head : PySem.W.codeIn K cd_law_is_head "_law_is_head" = true)
    (k_law_is_head : PySem.W.keepIn K (.ref f_law_is_head) = true)
    (a_law_bent_head : PySem.W.nsIn K mainGlobals "_law_bent_head" = some (some (.ref f_law_bent_head)))
    (l_law_bent_head : K.lookup f_law_bent_head = some ⟨oc_law_bent_head, od_law_bent_head, .func (PySem.W.fnOf "_law_bent_head" "_law_bent_head" (defArgs sLBentH) (defBody sLBentH) (defScope sLBentH) .none kV_law_bent_head dc_law_bent_head pm_law_bent_head an_law_bent_head cd_law_bent_head ct_law_bent_head), sl_law_bent_head⟩)
    (c_law_bent_head : PySem.W.codeIn K cd_law_bent_head "_law_bent_head" = true)
    (k_law_bent_head : PySem.W.keepIn K (.ref f_law_bent_head) = true)
    (a_law_found : PySem.W.nsIn K mainGlobals "_law_found" = some (some (.ref f_law_found)))
    (l_law_found : K.lookup f_law_found = some ⟨oc_law_found, od_law_found, .func (PySem.W.fnOf "_law_found" "_law_found" (defArgs sFound) (defBody sFound) (defScope sFound) .none kV_law_found dc_law_found pm_law_found an_law_found cd_law_found ct_law_found), sl_law_found⟩)
    (c_law_found : PySem.W.codeIn K cd_law_found "_law_found" = true)
    (k_law_found : PySem.W.keepIn K (.ref f_law_found) = true)
    (a_law_is_right : PySem.W.nsIn K mainGlobals "_law_is_right" = some (some (.ref f_law_is_right)))
    (l_law_is_right : K.lookup f_law_is_right = some ⟨oc_law_is_right, od_law_is_right, .func (PySem.W.fnOf "_law_is_right" "_law_is_right" (defArgs sRight) (defBody sRight) (defScope sRight) .none kV_law_is_right dc_law_is_right pm_law_is_right an_law_is_right cd_law_is_right ct_law_is_right), sl_law_is_right⟩)
    (c_law_is_right : PySem.W.codeIn K cd_law_is_right "_law_is_right" = true)
    (k_law_is_right : PySem.W.keepIn K (.ref f_law_is_right) = true)
    (a_law : PySem.W.nsIn K mainGlobals "law" = some (some (.ref f_law)))
    (l_law : K.lookup f_law = some ⟨oc_law, od_law, .func (PySem.W.fnOf "law" "law" (defArgs sLaw) (defBody sLaw) (defScope sLaw) .none kV_law dc_law pm_law an_law cd_law ct_law), sl_law⟩)
    (c_law : PySem.W.codeIn K cd_law "law" = true)
    (k_law : PySem.W.keepIn K (.ref f_law) = true)
    (z_len : PySem.W.nsIn K mainGlobals "len" = some none)
    (z_range : PySem.W.nsIn K mainGlobals "range" = some none)
    (z_min : PySem.W.nsIn K mainGlobals "min" = some none)
    (z_isinstance : PySem.W.nsIn K mainGlobals "isinstance" = some none)
    (z_tuple : PySem.W.nsIn K mainGlobals "tuple" = some none)
    (z_bool : PySem.W.nsIn K mainGlobals "bool" = some none)
    (z_str : PySem.W.nsIn K mainGlobals "str" = some none)
    (z_int : PySem.W.nsIn K mainGlobals "int" = some none)
    (z_all : PySem.W.nsIn K mainGlobals "all" = some none)
    (z_any : PySem.W.nsIn K mainGlobals "any" = some none)
    (z_enumerate : PySem.W.nsIn K mainGlobals "enumerate" = some none)
    (z_list : PySem.W.nsIn K mainGlobals "list" = some none)
    (z_repr : PySem.W.nsIn K mainGlobals "repr" = some none)
    (z_ValueError : PySem.W.nsIn K mainGlobals "ValueError" = some none) :
    ∃ fd : FuncData, (∀ (s : Shared) (v : Value), BindsTo s fd ⟨[v], []⟩ [("_law_script", v)]) ∧ ∀ base : Heap, K.In base → base.Ns mainGlobals mg → LawOk l.prog w K mg base fa fd ["_law_script"] (spLaw K) := by
  have e := hfa.symm.trans (PySem.W.mg_of X G a_law)
  cases e
  have m_MANY := PySem.W.mg_of X G a_MANY
  have m_GREATEST_NUMBER := PySem.W.mg_of X G a_GREATEST_NUMBER
  have m_LONGEST := PySem.W.mg_of X G a_LONGEST
  have m_FIGURES := PySem.W.mg_of X G a_FIGURES
  have m_KIND_WORDS := PySem.W.mg_of X G a_KIND_WORDS
  have m_C_NetError := PySem.W.mg_of X G a_C_NetError
  have NE : NetE K mg C_NetError := ⟨m_C_NetError, sp_C_NetError, rd_C_NetError, v_C_NetError⟩
  have m_C_NoHead := PySem.W.mg_of X G a_C_NoHead
  have oex_C_NoHead : OexC K C_NoHead := ⟨⟨nm_C_NoHead, q_C_NoHead, N_C_NoHead, bs_C_NoHead, _, sn_C_NoHead, sub_C_NoHead, ab_C_NoHead, col_C_NoHead, dd_C_NoHead, m0_C_NoHead, m1_C_NoHead, m2_C_NoHead, m3_C_NoHead, m5_C_NoHead, xL_C_NoHead, (by show PySem.HandSPX.refsVE [.type "ValueError", .type "Exception", .type "BaseException", .type "object"] = true; decide +kernel)⟩, sa_C_NoHead, ex_C_NoHead, ty_C_NoHead, kc_C_NoHead⟩
  have F_NoHead_init := fun_mk (st := sE_NoHead) l_NoHead_init c_NoHead_init k_NoHead_init
  have b_NoHead_init := F_NoHead_init.binds (ps := ["self"]) fun _ _ _ _ _ _ us hl => match us, hl with | [_], _ => rfl
  have M_NoHead_init : Meth K C_NoHead "__init__" f_NoHead_init := ⟨a_NoHead_init, i_NoHead_init, k_NoHead_init⟩
  have xf_C_NoHead : XfC K C_NoHead := ⟨ga_C_NoHead, gg_C_NoHead, ex_C_NoHead, hd_C_NoHead⟩
  have ec_C_NoHead : ExcC K C_NoHead := ⟨ga_C_NoHead, gg_C_NoHead, ex_C_NoHead, hd_C_NoHead, hc_C_NoHead, cg_all, tk_all, mo_C_NoHead⟩
  have te_C_NoHead : PySem.W.exmOne K (.ref C_NoHead) (.ref C_NetError) = some true := PySem.W.exm_ref ex_C_NetError hd_C_NetError ty_C_NetError sn_C_NoHead_b
  have m_C_Torn := PySem.W.mg_of X G a_C_Torn
  have F_is_whole := fun_mk (st := sWhole) l_is_whole c_is_whole k_is_whole
  have b_is_whole := F_is_whole.binds (ps := ["thing"]) fun _ _ _ _ _ _ us hl => match us, hl with | [_], _ => rfl
  have m_is_whole := PySem.W.mg_of X G a_is_whole
  have F_is_from := fun_mk (st := sFrom) l_is_from c_is_from k_is_from
  have b_is_from := F_is_from.binds (ps := ["thing", "low", "high"]) fun _ _ _ _ _ _ us hl => match us, hl with | [_, _, _], _ => rfl
  have m_is_from := PySem.W.mg_of X G a_is_from
  have F_is_head := fun_mk (st := sIsHead) l_is_head c_is_head k_is_head
  have b_is_head := F_is_head.binds (ps := ["thing"]) fun _ _ _ _ _ _ us hl => match us, hl with | [_], _ => rfl
  have m_is_head := PySem.W.mg_of X G a_is_head
  have F_number_of := fun_mk (st := sNumber) l_number_of c_number_of k_number_of
  have b_number_of := F_number_of.binds (ps := ["word"]) fun _ _ _ _ _ _ us hl => match us, hl with | [_], _ => rfl
  have m_number_of := PySem.W.mg_of X G a_number_of
  have F_read := fun_mk (st := sRead) l_read c_read k_read
  have b_read := F_read.binds (ps := ["text"]) fun _ _ _ _ _ _ us hl => match us, hl with | [_], _ => rfl
  have m_read := PySem.W.mg_of X G a_read
  have F_law_mixed := fun_mk (st := sMixed) l_law_mixed c_law_mixed k_law_mixed
  have b_law_mixed := F_law_mixed.binds (ps := ["_law_cell", "_law_at"]) fun _ _ _ _ _ _ us hl => match us, hl with | [_, _], _ => rfl
  have m_law_mixed := PySem.W.mg_of X G a_law_mixed
  have F_law_deck := fun_mk (st := sDeck) l_law_deck c_law_deck k_law_deck
  have b_law_deck := F_law_deck.binds (ps := ["_law_script"]) fun _ _ _ _ _ _ us hl => match us, hl with | [_], _ => rfl
  have m_law_deck := PySem.W.mg_of X G a_law_deck
  have F_law_next := fun_mk (st := sNext) l_law_next c_law_next k_law_next
  have b_law_next := F_law_next.binds (ps := ["_law_deck_here", "_law_many"]) fun _ _ _ _ _ _ us hl => match us, hl with | [_, _], _ => rfl
  have m_law_next := PySem.W.mg_of X G a_law_next
  have F_law_pick := fun_mk (st := sPick) l_law_pick c_law_pick k_law_pick
  have b_law_pick := F_law_pick.binds (ps := ["_law_deck_here", "_law_things"]) fun _ _ _ _ _ _ us hl => match us, hl with | [_, _], _ => rfl
  have m_law_pick := PySem.W.mg_of X G a_law_pick
  have F_law_same := fun_mk (st := sSame) l_law_same c_law_same k_law_same
  have b_law_same := F_law_same.binds (ps := ["_law_thing", "_law_due"]) fun _ _ _ _ _ _ us hl => match us, hl with | [_, _], _ => rfl
  have m_law_same := PySem.W.mg_of X G a_law_same
  have F_law_count := fun_mk (st := sCount) l_law_count c_law_count k_law_count
  have b_law_count := F_law_count.binds (ps := ["_law_deck_here"]) fun _ _ _ _ _ _ us hl => match us, hl with | [_], _ => rfl
  have m_law_count := PySem.W.mg_of X G a_law_count
  have F_law_head := fun_mk (st := sHead) l_law_head c_law_head k_law_head
  have b_law_head := F_law_head.binds (ps := ["_law_deck_here"]) fun _ _ _ _ _ _ us hl => match us, hl with | [_], _ => rfl
  have m_law_head := PySem.W.mg_of X G a_law_head
  have F_law_sign := fun_mk (st := sSign) l_law_sign c_law_sign k_law_sign
  have b_law_sign := F_law_sign.binds (ps := ["_law_deck_here"]) fun _ _ _ _ _ _ us hl => match us, hl with | [_], _ => rfl
  have m_law_sign := PySem.W.mg_of X G a_law_sign
  have F_law_text := fun_mk (st := sText) l_law_text c_law_text k_law_text
  have b_law_text := F_law_text.binds (ps := ["_law_deck_here", "_law_most"]) fun _ _ _ _ _ _ us hl => match us, hl with | [_, _], _ => rfl
  have m_law_text := PySem.W.mg_of X G a_law_text
  have F_law_written := fun_mk (st := sLWritten) l_law_written c_law_written k_law_written
  have b_law_written := F_law_written.binds (ps := ["_law_head_here", "_law_text_here"]) fun _ _ _ _ _ _ us hl => match us, hl with | [_, _], _ => rfl
  have m_law_written := PySem.W.mg_of X G a_law_written
  have F_law_number := fun_mk (st := sLNumber) l_law_number c_law_number k_law_number
  have b_law_number := F_law_number.binds (ps := ["_law_word"]) fun _ _ _ _ _ _ us hl => match us, hl with | [_], _ => rfl
  have m_law_number := PySem.W.mg_of X G a_law_number
  have F_law_read := fun_mk (st := sLRead) l_law_read c_law_read k_law_read
  have b_law_read := F_law_read.binds (ps := ["_law_thing"]) fun _ _ _ _ _ _ us hl => match us, hl with | [_], _ => rfl
  have m_law_read := PySem.W.mg_of X G a_law_read
  have F_law_bent_text := fun_mk (st := sLBentT) l_law_bent_text c_law_bent_text k_law_bent_text
  have b_law_bent_text := F_law_bent_text.binds (ps := ["_law_deck_here", "_law_text_here"]) fun _ _ _ _ _ _ us hl => match us, hl with | [_, _], _ => rfl
  have m_law_bent_text := PySem.W.mg_of X G a_law_bent_text
  have F_law_is_head := fun_mk (st := sLIsHead) l_law_is_head c_law_is_head k_law_is_head
  have b_law_is_head := F_law_is_head.binds (ps := ["_law_thing"]) fun _ _ _ _ _ _ us hl => match us, hl with | [_], _ => rfl
  have m_law_is_head := PySem.W.mg_of X G a_law_is_head
  have F_law_bent_head := fun_mk (st := sLBentH) l_law_bent_head c_law_bent_head k_law_bent_head
  have b_law_bent_head := F_law_bent_head.binds (ps := ["_law_deck_here", "_law_head_here"]) fun _ _ _ _ _ _ us hl => match us, hl with | [_, _], _ => rfl
  have m_law_bent_head := PySem.W.mg_of X G a_law_bent_head
  have F_law_found := fun_mk (st := sFound) l_law_found c_law_found k_law_found
  have b_law_found := F_law_found.binds (ps := ["_law_thing"]) fun _ _ _ _ _ _ us hl => match us, hl with | [_], _ => rfl
  have m_law_found := PySem.W.mg_of X G a_law_found
  have F_law_is_right := fun_mk (st := sRight) l_law_is_right c_law_is_right k_law_is_right
  have b_law_is_right := F_law_is_right.binds (ps := ["_law_thing"]) fun _ _ _ _ _ _ us hl => match us, hl with | [_], _ => rfl
  have m_law_is_right := PySem.W.mg_of X G a_law_is_right
  have F_law := fun_mk (st := sLaw) l_law c_law k_law
  have b_law := F_law.binds (ps := ["_law_script"]) fun _ _ _ _ _ _ us hl => match us, hl with | [_], _ => rfl
  have n_len := PySem.W.mg_none_of X G z_len
  have n_range := PySem.W.mg_none_of X G z_range
  have n_min := PySem.W.mg_none_of X G z_min
  have n_isinstance := PySem.W.mg_none_of X G z_isinstance
  have n_tuple := PySem.W.mg_none_of X G z_tuple
  have n_bool := PySem.W.mg_none_of X G z_bool
  have n_str := PySem.W.mg_none_of X G z_str
  have n_int := PySem.W.mg_none_of X G z_int
  have n_all := PySem.W.mg_none_of X G z_all
  have n_any := PySem.W.mg_none_of X G z_any
  have n_enumerate := PySem.W.mg_none_of X G z_enumerate
  have n_list := PySem.W.mg_none_of X G z_list
  have n_repr := PySem.W.mg_none_of X G z_repr
  have n_ValueError := PySem.W.mg_none_of X G z_ValueError
  refine ⟨PySem.W.fnOf "law" "law" (defArgs sLaw) (defBody sLaw) (defScope sLaw) .none kV_law dc_law pm_law an_law cd_law ct_law, fun s v => .of_eq rfl, fun base _ _ => ?_⟩
  have E_NoHead : Err l.prog w K mg base "NoHead" C_NoHead ["self"] (spX0 C_NoHead) := ⟨oex_C_NoHead, m_C_NoHead, _, _, a_NoHead_init, tf_C_NoHead, ok_E_NoHead F_NoHead_init NE oex_C_NoHead, b_NoHead_init⟩
  have HBx : HB K mg := ⟨n_isinstance, n_int, n_bool, n_str, n_tuple, n_len, n_all, n_any, ⟨_, m_MANY⟩, ⟨_, m_GREATEST_NUMBER⟩, ⟨_, m_LONGEST⟩, ⟨_, m_FIGURES⟩, ⟨_, m_KIND_WORDS, fun H => .inr ⟨_, _, _, lk_KIND_WORDS, rfl, rfl, (by show 6 ≤ sizeLine; decide), .cons ⟨_, rfl⟩ (.cons ⟨_, rfl⟩ (.cons ⟨_, rfl⟩ (.cons ⟨_, rfl⟩ (.cons ⟨_, rfl⟩ (.cons ⟨_, rfl⟩ .nil)))))⟩⟩⟩
  have B : LB mg := ⟨n_len, n_range, n_tuple, n_int, n_str, n_enumerate⟩
  have LX : LXB mg := ⟨n_isinstance, n_int, n_bool, n_str, n_tuple, n_len, n_all⟩
  have I : IB mg := ⟨n_isinstance, n_int, n_bool⟩
  have SB : SameB mg := ⟨n_isinstance, n_tuple, n_bool, n_str, n_int, n_all, n_len, n_range⟩
  have T : TF K mg C_NetError C_Torn C_NoHead := ⟨te_C_NoHead, kit_1, kit_2, kit_3, ec_C_NoHead, m_C_NetError, m_C_Torn, m_C_NoHead⟩
  have cM : Cd l.prog w K mg base 1 "_law_mixed" ["_law_cell", "_law_at"] spMixed := ⟨_, _, ok_mixed F_law_mixed, m_law_mixed, k_law_mixed, b_law_mixed⟩
  have cN : Cd l.prog w K mg base 2 "_law_next" ["_law_deck_here", "_law_many"] spNext := ⟨_, _, ok_next F_law_next n_len cM, m_law_next, k_law_next, b_law_next⟩
  have cD : Cd l.prog w K mg base 2 "_law_deck" ["_law_script"] (spDeck K) := ⟨_, _, ok_deck F_law_deck n_len n_range n_min cM, m_law_deck, k_law_deck, b_law_deck⟩
  have cS : Cd l.prog w K mg base 3 "_law_same" ["_law_thing", "_law_due"] (spSame K 3) := ⟨_, _, ok_same F_law_same SB m_law_same k_law_same b_law_same 3, m_law_same, k_law_same, b_law_same⟩
  have cG : Cd l.prog w K mg base 3 "_law_sign" ["_law_deck_here"] spSign := ⟨_, _, ok_sign F_law_sign cN, m_law_sign, k_law_sign, b_law_sign⟩
  have cX : Cd l.prog w K mg base 4 "_law_text" ["_law_deck_here", "_law_most"] spText := ⟨_, _, ok_text F_law_text n_range cN cG, m_law_text, k_law_text, b_law_text⟩
  have cP : Cd l.prog w K mg base 3 "_law_pick" ["_law_deck_here", "_law_things"] (spPick K) := ⟨_, _, ok_pick F_law_pick B cN, m_law_pick, k_law_pick, b_law_pick⟩
  have cC : Cd l.prog w K mg base 3 "_law_count" ["_law_deck_here"] spCount := ⟨_, _, ok_count F_law_count B cN, m_law_count, k_law_count, b_law_count⟩
  have cW : Cd l.prog w K mg base 1 "is_whole" ["thing"] (spWholeK K) := ⟨_, _, ok_wholeK F_is_whole I, m_is_whole, k_is_whole, b_is_whole⟩
  have cF : Cd l.prog w K mg base 2 "is_from" ["thing", "low", "high"] (spFromK K) := ⟨_, _, ok_fromK F_is_from cW, m_is_from, k_is_from, b_is_from⟩
  have cI : Cd l.prog w K mg base 3 "is_head" ["thing"] (spIsHeadK K) := ⟨_, _, ok_isheadK F_is_head HBx cF, m_is_head, k_is_head, b_is_head⟩
  have cJ : Cd l.prog w K mg base 1 "_law_is_head" ["_law_thing"] (spIsHeadK K) := ⟨_, _, ok_lishead F_law_is_head LX n_enumerate, m_law_is_head, k_law_is_head, b_law_is_head⟩
  have cLN : Cd l.prog w K mg base 1 "_law_number" ["_law_word"] spLNum := ⟨_, _, ok_lnumber F_law_number LX, m_law_number, k_law_number, b_law_number⟩
  have cLR : Cd l.prog w K mg base 2 "_law_read" ["_law_thing"] (spLRead K) := ⟨_, _, ok_lread F_law_read LX cLN, m_law_read, k_law_read, b_law_read⟩
  have cT : Cd l.prog w K mg base 4 "_law_bent_text" ["_law_deck_here", "_law_text_here"] spBentT := ⟨_, _, ok_lbentt F_law_bent_text LX cN cP, m_law_bent_text, k_law_bent_text, b_law_bent_text⟩
  have cB : Cd l.prog w K mg base 4 "_law_bent_head" ["_law_deck_here", "_law_head_here"] (spBentH K) := ⟨_, _, ok_lbenth F_law_bent_head n_list cN, m_law_bent_head, k_law_bent_head, b_law_bent_head⟩
  have GN := ok_numberX F_number_of HBx E_NoHead
  have GR := ok_readX F_read HBx E_NoHead ⟨_, _, GN, m_number_of, k_number_of, b_number_of⟩
  have cFo : Cd l.prog w K mg base 5 "_law_found" ["_law_thing"] (spFound K) := ⟨_, _, ok_found F_law_found n_str n_isinstance n_ValueError T GR m_read k_read b_read, m_law_found, k_law_found, b_law_found⟩
  have cR : Cd l.prog w K mg base 6 "_law_is_right" ["_law_thing"] (spRight K) := ⟨_, _, ok_right F_law_is_right cLR cFo cS, m_law_is_right, k_law_is_right, b_law_is_right⟩
  exact ok_law F_law n_range n_repr n_isinstance n_bool cN cD cX ⟨_, _, ok_head F_law_head B cP cC, m_law_head, k_law_head, b_law_head⟩ ⟨_, _, ok_lwritten F_law_written B, m_law_written, k_law_written, b_law_written⟩ cT cB cI cJ cR
theorem walk {l : PySem.W.OpenLaw} {q : Program} {loose : List Str} {XP : (Str → Option Value) → Heap → Prop} {YP : World → Heap → Prop} {d : DefRec} {K : Params → PySem.W.Frag} (hn : l.most = some 63) (hdf : d.params.defaults = [])
    (hY : ∀ (w : World) (h : Heap), YP w h → (K w.params).In h)
    (F : ∀ (w : World) (mg : Str → Option Value) (fa : Addr) (h : Heap), (K w.params).In h → h.Ns mainGlobals mg → mg d.name = some (.ref fa) →
      ∃ fd : FuncData, (∀ (s : Shared) (u : Value), BindsTo s fd ⟨[u], []⟩ [("_law_script", u)]) ∧ ∀ base : Heap, (K w.params).In base → base.Ns mainGlobals mg → LawOk l.prog w (K w.params) mg base fa fd ["_law_script"] (spLaw (K w.params))) :
    PySem.W.WalkO q loose XP YP l.row.toRowW d [] (fun f vs => PySem.call f vs) :=
  walkG (n := 63) (x := "_law_script") (sp := fun w => spLaw (K w.params)) hn (by decide) hdf hY F fun _ _ a ns hl hS => ⟨a, ns, rfl, hS, hl, fun _ => rfl⟩
end Wn

open PySem PySem.W PyProof.Rows in
set_option maxRecDepth 100000 in
set_option maxHeartbeats 0 in
theorem PySem.Challenge.cw_wrapnets_k16_whole_no_heads_holds : PySem.Challenge.rw_wrapnets_k16_whole_no_heads.Holds := by
  w_on; o_law; k_head; (case hw => w_witness2)
  k_fill
  refine Wn.walk (l := PySem.Challenge.rw_wrapnets_k16_whole_no_heads) rfl rfl (fun w h Y => PySem.W.kIn_of Y) ?F
  case F =>
    intro w mg fa h KX G hmg
    refine' Wn.all_mk KX G hmg ?a_MANY ?a_GREATEST_NUMBER ?a_LONGEST ?a_FIGURES ?a_KIND_WORDS ?lk_KIND_WORDS ?a_C_NetError ?sp_C_NetError ?rd_C_NetError ?v_C_NetError ?ex_C_NetError ?hd_C_NetError ?ty_C_NetError ?a_C_NoHead ?ex_C_NoHead ?ty_C_NoHead ?xL_C_NoHead ?sa_C_NoHead ?kc_C_NoHead ?a_NoHead_init ?i_NoHead_init ?l_NoHead_init ?c_NoHead_init ?k_NoHead_init ?tf_C_NoHead ?ga_C_NoHead ?gg_C_NoHead ?hd_C_NoHead ?hc_C_NoHead ?mo_C_NoHead ?sn_C_NoHead_b ?a_C_Torn ?cg_all ?tk_all ?kit_1 ?kit_2 ?kit_3 ?a_is_whole ?l_is_whole ?c_is_whole ?k_is_whole ?a_is_from ?l_is_from ?c_is_from ?k_is_from ?a_is_head ?l_is_head ?c_is_head ?k_is_head ?a_number_of ?l_number_of ?c_number_of ?k_number_of ?a_read ?l_read ?c_read ?k_read ?a_law_mixed ?l_law_mixed ?c_law_mixed ?k_law_mixed ?a_law_deck ?l_law_deck ?c_law_deck ?k_law_deck ?a_law_next ?l_law_next ?c_law_next ?k_law_next ?a_law_pick ?l_law_pick ?c_law_pick ?k_law_pick ?a_law_same ?l_law_same ?c_law_same ?k_law_same ?a_law_count ?l_law_count ?c_law_count ?k_law_count ?a_law_head ?l_law_head ?c_law_head ?k_law_head ?a_law_sign ?l_law_sign ?c_law_sign ?k_law_sign ?a_law_text ?l_law_text ?c_law_text ?k_law_text ?a_law_written ?l_law_written ?c_law_written ?k_law_written ?a_law_number ?l_law_number ?c_law_number ?k_law_number ?a_law_read ?l_law_read ?c_law_read ?k_law_read ?a_law_bent_text ?l_law_bent_text ?c_law_bent_text ?k_law_bent_text ?a_law_is_head ?l_law_is_head ?c_law_is_head ?k_law_is_head ?a_law_bent_head ?l_law_bent_head ?c_law_bent_head ?k_law_bent_head ?a_law_found ?l_law_found ?c_law_found ?k_law_found ?a_law_is_right ?l_law_is_right ?c_law_is_right ?k_law_is_right ?a_law ?l_law ?c_law ?k_law ?z_len ?z_range ?z_min ?z_isinstance ?z_tuple ?z_bool ?z_str ?z_int ?z_all ?z_any ?z_enumerate ?z_list ?z_repr ?z_ValueError
    (case a_MANY => k_is)
    (case a_GREATEST_NUMBER => k_is)
    (case a_LONGEST => k_is)
    (case a_FIGURES => k_is)
    (case a_KIND_WORDS => k_is)
    (case lk_KIND_WORDS => k_is)
    (case a_C_NetError => k_is)
    (case sp_C_NetError => k_is)
    (case rd_C_NetError => k_is)
    (case v_C_NetError => k_is)
    (case ex_C_NetError => k_is)
    (case hd_C_NetError => k_is)
    (case ty_C_NetError => k_is)
    (case a_C_NoHead => k_is)
    (case ex_C_NoHead => k_is)
    (case ty_C_NoHead => k_is)
    (case xL_C_NoHead => k_is)
    (case sa_C_NoHead => k_is)
    (case kc_C_NoHead => k_is)
    (case a_NoHead_init => k_is)
    (case i_NoHead_init => k_is)
    (case l_NoHead_init => k_is)
    (case c_NoHead_init => k_is)
    (case k_NoHead_init => k_is)
    (case tf_C_NoHead => k_is)
    (case ga_C_NoHead => k_is)
    (case gg_C_NoHead => k_is)
    (case hd_C_NoHead => k_is)
    (case hc_C_NoHead => k_is)
    (case mo_C_NoHead => k_is)
    (case sn_C_NoHead_b => k_is)
    (case a_C_Torn => k_is)
    (case cg_all => k_is)
    (case tk_all => k_is)
    (case kit_1 => kit_is)
    (case kit_2 => kit_is)
    (case kit_3 => kit_is)
    (case a_is_whole => k_is)
    (case l_is_whole => k_is)
    (case c_is_whole => k_is)
    (case k_is_whole => k_is)
    (case a_is_from => k_is)
    (case l_is_from => k_is)
    (case c_is_from => k_is)
    (case k_is_from => k_is)
    (case a_is_head => k_is)
    (case l_is_head => k_is)
    (case c_is_head => k_is)
    (case k_is_head => k_is)
    (case a_number_of => k_is)
    (case l_number_of => k_is)
    (case c_number_of => k_is)
    (case k_number_of => k_is)
    (case a_read => k_is)
    (case l_read => k_is)
    (case c_read => k_is)
    (case k_read => k_is)
    (case a_law_mixed => k_is)
    (case l_law_mixed => k_is)
    (case c_law_mixed => k_is)
    (case k_law_mixed => k_is)
    (case a_law_deck => k_is)
    (case l_law_deck => k_is)
    (case c_law_deck => k_is)
    (case k_law_deck => k_is)
    (case a_law_next => k_is)
    (case l_law_next => k_is)
    (case c_law_next => k_is)
    (case k_law_next => k_is)
    (case a_law_pick => k_is)
    (case l_law_pick => k_is)
    (case c_law_pick => k_is)
    (case k_law_pick => k_is)
    (case a_law_same => k_is)
    (case l_law_same => k_is)
    (case c_law_same => k_is)
    (case k_law_same => k_is)
    (case a_law_count => k_is)
    (case l_law_count => k_is)
    (case c_law_count => k_is)
    (case k_law_count => k_is)
    (case a_law_head => k_is)
    (case l_law_head => k_is)
    (case c_law_head => k_is)
    (case k_law_head => k_is)
    (case a_law_sign => k_is)
    (case l_law_sign => k_is)
    (case c_law_sign => k_is)
    (case k_law_sign => k_is)
    (case a_law_text => k_is)
    (case l_law_text => k_is)
    (case c_law_text => k_is)
    (case k_law_text => k_is)
    (case a_law_written => k_is)
    (case l_law_written => k_is)
    (case c_law_written => k_is)
    (case k_law_written => k_is)
    (case a_law_number => k_is)
    (case l_law_number => k_is)
    (case c_law_number => k_is)
    (case k_law_number => k_is)
    (case a_law_read => k_is)
    (case l_law_read => k_is)
    (case c_law_read => k_is)
    (case k_law_read => k_is)
    (case a_law_bent_text => k_is)
    (case l_law_bent_text => k_is)
    (case c_law_bent_text => k_is)
    (case k_law_bent_text => k_is)
    (case a_law_is_head => k_is)
    (case l_law_is_head => k_is)
    (case c_law_is_head => k_is)
    (case k_law_is_head => k_is)
    (case a_law_bent_head => k_is)
    (case l_law_bent_head => k_is)
    (case c_law_bent_head => k_is)
    (case k_law_bent_head => k_is)
    (case a_law_found => k_is)
    (case l_law_found => k_is)
    (case c_law_found => k_is)
    (case k_law_found => k_is)
    (case a_law_is_right => k_is)
    (case l_law_is_right => k_is)
    (case c_law_is_right => k_is)
    (case k_law_is_right => k_is)
    (case a_law => k_is)
    (case l_law => k_is)
    (case c_law => k_is)
    (case k_law => k_is)
    (case z_len => k_is)
    (case z_range => k_is)
    (case z_min => k_is)
    (case z_isinstance => k_is)
    (case z_tuple => k_is)
    (case z_bool => k_is)
    (case z_str => k_is)
    (case z_int => k_is)
    (case z_all => k_is)
    (case z_any => k_is)
    (case z_enumerate => k_is)
    (case z_list => k_is)
    (case z_repr => k_is)
    (case z_ValueError => k_is)
