import PyProof.Rows.All
import Wide.All
import OpenK.AllK
import Wide.FinOn
import KE.KStateDown
import HandS.Head0
import HandS.Head1
import HandS.Head2
import HandS.HeadEnd
import HandS.HeadHook1
import HandS.ForMost
import HandS.IsInst
import HandS.Flow
import HandS.SortInts
import HandS.More
import HandS.Text
import HandS.Walk
import HandS.Conv
import PyProof.Draws
import PyProof.EnumMake
import HandS.Codes
import HandS.TupAny
import HandS.TryOnly
import HandS.Deep
import HandS.Style
import HandS.TupLe
import HandS.DictTup
import HandS.TupSets
import HandS.ForExc
import HandS.ExcInit
import HandS.ExcField
import HandS.ExcIs
import PyProof.Rows.ChunkEnd
import PyProof.ReprRoads
import KE.KRevSl
import HandS.Zip0
import HandS.RaiseMore
import HandS.Replace
import HandS.Zip
import HandS.SetFor
import HandS.DictComp
import HandS.Dict
import KE.KDictPairs
import HandS.Defaults
import PyProof.NeKinds
import PySem.Challenge.RW_wrapnets_k02_roads_fall_and_rise
set_option Elab.async false
set_option maxRecDepth 100000
set_option linter.all false
noncomputable section
namespace Wn
open PySem PySem.W PySem.Calls PyProof.Rows HandSHeadRun
/-! ### the top's run in pieces that fit the memory: the run to its very end, each look by itself, the steps' checks by themselves -/
section
variable (st : SharedT → Thread → Option (SharedT × Thread))
/-- so many steps -/
def goE : Nat → SharedT → Thread → Option (SharedT × Thread)
  | 0, s, t => some (s, t)
  | m + 1, s, t => match st s t with
    | some (s', t') => frS s' fun s' => goE m s' t'
    | none => none
/-- to the end, without the checks -/
def goT : Nat → SharedT → Thread → Option SharedT
  | 0, _, _ => none
  | m + 1, s, t => match through t with
    | true => some s
    | false => match st s t with
      | some (s', t') => frS s' fun s' => goT m s' t'
      | none => none
end
section
variable {st : SharedT → Thread → Option (SharedT × Thread)} {n0 : Nat} {ann : Option Value}
theorem goE_succ {m : Nat} {s s1 s' : SharedT} {t t1 t' : Thread} (h : st s t = some (s1, t1)) (e : goE st (m + 1) s t = some (s', t')) : goE st m s1 t1 = some (s', t') := by
  have e1 : (match st s t with
    | some (s', t') => frS s' fun s' => goE st m s' t'
    | none => none) = some (s', t') := e
  rw [h] at e1
  have e2 : (frS s1 fun s' => goE st m s' t1) = some (s', t') := e1
  rw [frS_eq] at e2
  exact e2
theorem goN_succ {m : Nat} {s : SharedT} {t : Thread} (h : goN st n0 ann (m + 1) s t = true) : through t = true ∨ through t = false ∧ stepOk n0 ann t = true ∧ ∃ s1 t1, st s t = some (s1, t1) ∧ goN st n0 ann m s1 t1 = true := by
  have h1 : (match through t with
    | true => true
    | false => match stepOk n0 ann t with
      | false => false
      | true => match st s t with
        | some (s', t') => frS s' fun s' => goN st n0 ann m s' t'
        | none => false) = true := h
  cases a : through t with
  | true => exact .inl rfl
  | false =>
    rw [a] at h1
    cases b : stepOk n0 ann t with
    | false => rw [b] at h1; cases h1
    | true =>
      rw [b] at h1
      cases c : st s t with
      | none => rw [c] at h1; cases h1
      | some x =>
        obtain ⟨s1, t1⟩ := x
        rw [c] at h1
        have h2 : (frS s1 fun s' => goN st n0 ann m s' t1) = true := h1
        rw [frS_eq] at h2
        exact .inr ⟨rfl, rfl, s1, t1, rfl, h2⟩
theorem goF_of : ∀ (m : Nat) {s s' : SharedT} {t : Thread}, goN st n0 ann m s t = true → goT st m s t = some s' → goF st n0 ann m s t = some s'
  | 0, s, s', t, _, e => by cases e
  | m + 1, s, s', t, c, e => by
    have e1 : (match through t with
      | true => some s
      | false => match st s t with
        | some (s', t') => frS s' fun s' => goT st m s' t'
        | none => none) = some s' := e
    show (match through t with
      | true => some s
      | false => match stepOk n0 ann t with
        | false => none
        | true => match st s t with
          | some (s', t') => frS s' fun s' => goF st n0 ann m s' t'
          | none => none) = some s'
    rcases goN_succ c with a | ⟨a, b, s1, t1, d, c1⟩
    · rw [a] at e1 ⊢
      exact e1
    · rw [a, d] at e1
      rw [a, b, d]
      have e2 : (frS s1 fun s' => goT st m s' t1) = some s' := e1
      rw [frS_eq] at e2
      show (frS s1 fun s' => goF st n0 ann m s' t1) = some s'
      rw [frS_eq]
      exact goF_of m c1 e2
theorem goN_add : ∀ (k : Nat) {m : Nat} {s s1 : SharedT} {t t1 : Thread}, goN st n0 ann k s t = true → goE st k s t = some (s1, t1) → goN st n0 ann m s1 t1 = true → goN st n0 ann (k + m) s t = true
  | 0, m, s, s1, t, t1, _, e, h => by
    cases e
    rw [Nat.zero_add]
    exact h
  | k + 1, m, s, s1, t, t1, c, e, h => by
    rw [show k + 1 + m = (k + m) + 1 by omega]
    show (match through t with
      | true => true
      | false => match stepOk n0 ann t with
        | false => false
        | true => match st s t with
          | some (s', t') => frS s' fun s' => goN st n0 ann (k + m) s' t'
          | none => false) = true
    rcases goN_succ c with a | ⟨a, b, s2, t2, d, c1⟩
    · rw [a]
    · rw [a, b, d]
      show (frS s2 fun s' => goN st n0 ann (k + m) s' t2) = true
      rw [frS_eq]
      exact goN_add k c1 (goE_succ d e) h
end
/-- the state behind the top -/
def endT (st : SharedT → Thread → Option (SharedT × Thread)) (M : Nat) (p : Program) (w : World) (os : OsState) : Option SharedT := match putAll (boot_heap w.params).objs.toList .nil 0 with
  | some (t, n) => frNat n fun n0 => goT st M (bootT w os (t, n0)) (topStub p)
  | none => none
/-- the checks of m steps behind k -/
def endC (st : SharedT → Thread → Option (SharedT × Thread)) (k m : Nat) (p : Program) (w : World) (os : OsState) : Bool := match putAll (boot_heap w.params).objs.toList .nil 0 with
  | some (t, n) => frNat n fun n0 => match goE st k (bootT w os (t, n0)) (topStub p) with
    | some (s, t) => goN st n0 (bootAnn w) m s t
    | none => false
  | none => false
theorem endF_of {st : SharedT → Thread → Option (SharedT × Thread)} {k m : Nat} {p : Program} {w : World} {os : OsState} {s : SharedT} (c1 : endC st 0 k p w os = true) (c2 : endC st k m p w os = true) (e : endT st (k + m) p w os = some s) :
    endF st (k + m) p w os = some s := by
  unfold endC at c1 c2
  unfold endT at e
  unfold endF
  cases q : putAll (boot_heap w.params).objs.toList .nil 0 with
  | none => rw [q] at e; cases e
  | some r =>
    obtain ⟨T, n⟩ := r
    rw [q] at c1 c2 e
    have e1 : (frNat n fun n0 => goT st (k + m) (bootT w os (T, n0)) (topStub p)) = some s := e
    have d1 : (frNat n fun n0 => match goE st 0 (bootT w os (T, n0)) (topStub p) with
      | some (s, t) => goN st n0 (bootAnn w) k s t
      | none => false) = true := c1
    have d2 : (frNat n fun n0 => match goE st k (bootT w os (T, n0)) (topStub p) with
      | some (s, t) => goN st n0 (bootAnn w) m s t
      | none => false) = true := c2
    rw [frNat_eq] at e1 d1 d2
    have d1 : goN st n (bootAnn w) k (bootT w os (T, n)) (topStub p) = true := d1
    cases z : goE st k (bootT w os (T, n)) (topStub p) with
    | none => rw [z] at d2; cases d2
    | some x =>
      obtain ⟨s1, t1⟩ := x
      rw [z] at d2
      have d2 : goN st n (bootAnn w) m s1 t1 = true := d2
      show (frNat n fun n0 => goF st n0 (bootAnn w) (k + m) (bootT w os (T, n0)) (topStub p)) = some s
      rw [frNat_eq]
      exact goF_of (k + m) (goN_add k d1 z d2) e1
/-! ### the facts of the names that are told alone -/
def entV (es : List DictEntry) (x : PySem.Str) : Option Addr := match es with
  | [] => none
  | e :: r => match e.key, e.val with
    | .str k _, .ref b => (match k == x with
      | true => some b
      | false => entV r x)
    | _, _ => entV r x
def dicR (g : Addr → Option Obj) (a : Addr) (xs : List PySem.Str) : List Addr := match g a with
  | some ⟨_, _, .dict es _, _⟩ => xs.filterMap (entV es.toList)
  | _ => []
def objR (g : Addr → Option Obj) (a : Addr) : List Addr := match g a with
  | some ⟨_, _, .func fd, _⟩ => He.refV fd.code
  | some ⟨_, _, .cls cd, _⟩ => cd.ns :: cd.mro.flatMap He.refV
  | _ => []
/-- the module, its names told, their classes' dicts, the methods told, their code -/
def selN (g : Addr → Option Obj) (xs ms : List PySem.Str) : List Addr :=
  let c := dicR g mainGlobals xs
  let c1 := c.flatMap (objR g)
  let c2 := c1.flatMap fun a => dicR g a ms
  mainGlobals :: (c ++ (c1 ++ (c2 ++ c2.flatMap (objR g))))
def hookN (xs ms : List PySem.Str) (fa : List He.Fa) (fn : List He.FnD) : PySem.W.Hook where
  α := He.Al
  obs := fun s => He.obsE fa fn (He.frG s.heap.get? (selN s.heap.get? xs ms))
  val := fun _ => He.valE fn
  says := fun _ h => ∃ K : PySem.W.Frag, K.In h ∧ He.SaysE fa fn K
  of := fun _ _ e => ⟨_, He.frG_in, e⟩
  keeps := fun _ _ _ ⟨K, hK, c⟩ k => ⟨K, PySem.W.Frag.In.keeps hK k, c⟩
def obsN (xs ms : List PySem.Str) (fa : List He.Fa) (fn : List He.FnD) (g : Addr → Option Obj) : He.Al := He.obsE fa fn (He.frG g (selN g xs ms))
theorem obsN_eq {xs ms : List PySem.Str} {fa : List He.Fa} {fn : List He.FnD} {g : Addr → Option Obj} {s : Shared} (h : ∀ a, g a = s.heap.get? a) : obsN xs ms fa fn g = (hookN xs ms fa fn).obs s := by
  have e : g = s.heap.get? := funext h
  rw [e] <;> rfl
/-- the machine -/
def stQ (r : OpenRow) (w : World) : SharedT → Thread → Option (SharedT × Thread) := stepQ (denQ tabQ) r.prog w
theorem run_of {r : OpenRow} {q : Program} {H : Hook} {ob : SharedT → H.α} (k m : Nat) {loose : List PySem.Str} {w : World}
    (c1 : ∀ os : OsState, endC (stQ r w) 0 k r.prog w os = true) (c2 : ∀ os : OsState, endC (stQ r w) k m r.prog w os = true)
    (l1 : ∀ os : OsState, (endT (stQ r w) (k + m) r.prog w os).map (fun x => looksF r.prog (boot_heap w.params) x.abs) = some true)
    (l2 : ∀ os : OsState, (endT (stQ r w) (k + m) r.prog w os).map (fun x => seenQ q loose (importedModules r.prog.main.body) (fun s => xlAt q [] s && recOk r.toRowW.records s) x.abs) = some (openGood q loose))
    (l3 : ∀ os : OsState, (endT (stQ r w) (k + m) r.prog w os).map (fun x => ob x) = some (H.val w)) : RunEq r q H ob (k + m) loose w := fun os => by
  obtain ⟨s, e, a⟩ := Option.map_eq_some_iff.mp (l1 os)
  have b := l2 os
  have c := l3 os
  rw [e] at b c
  have b := Option.some.inj b
  have c := Option.some.inj c
  have f' : endF (stepQ (denQ tabQ) r.prog w) (k + m) r.prog w os = some s := endF_of (c1 os) (c2 os) e
  rw [f']
  show some (looksF r.prog (boot_heap w.params) s.abs, seenQ q loose (importedModules r.prog.main.body) (fun s => xlAt q [] s && recOk r.toRowW.records s) s.abs, ob s) = _
  rw [show looksF r.prog (boot_heap w.params) s.abs = true from a, show seenQ q loose (importedModules r.prog.main.body) (fun s => xlAt q [] s && recOk r.toRowW.records s) s.abs = openGood q loose from b, show ob s = H.val w from c]
end Wn
end

noncomputable section
namespace Wn
open PySem PySem.W PySem.Calls PyProof.Rows HandSHeadRun
/-! ### as hookN, with further checks of the part of the heap; defs' keyword defaults are in it -/
def kwR (g : Addr → Option Obj) (a : Addr) : List Addr := match g a with
  | some ⟨_, _, .func fd, _⟩ => He.refV fd.kwdefaults
  | _ => []
def selX (g : Addr → Option Obj) (xs ms : List PySem.Str) : List Addr :=
  let c := dicR g mainGlobals xs
  let c1 := c.flatMap (objR g)
  let c2 := c1.flatMap fun a => dicR g a ms
  mainGlobals :: cStatics :: (c ++ (c1 ++ (c2 ++ (c2.flatMap (objR g) ++ c2.flatMap (kwR g)))))
def obsX (xb : List (PySem.W.Frag → Bool)) (fa : List He.Fa) (fn : List He.FnD) (K : PySem.W.Frag) : Bool × He.Al := (xb.all fun b => b K, He.obsE fa fn K)
def hookX (xs ms : List PySem.Str) (xb : List (PySem.W.Frag → Bool)) (fa : List He.Fa) (fn : List He.FnD) : PySem.W.Hook where
  α := Bool × He.Al
  obs := fun s => obsX xb fa fn (He.frG s.heap.get? (selX s.heap.get? xs ms))
  val := fun _ => (true, He.valE fn)
  says := fun _ h => ∃ K : PySem.W.Frag, K.In h ∧ He.SaysE fa fn K ∧ (xb.all fun b => b K) = true
  of := fun _ _ e => ⟨_, He.frG_in, congrArg (fun z : Bool × He.Al => z.2) e, congrArg (fun z : Bool × He.Al => z.1) e⟩
  keeps := fun _ _ _ ⟨K, hK, c, d⟩ k => ⟨K, PySem.W.Frag.In.keeps hK k, c, d⟩
def obsXN (xs ms : List PySem.Str) (xb : List (PySem.W.Frag → Bool)) (fa : List He.Fa) (fn : List He.FnD) (g : Addr → Option Obj) : Bool × He.Al := obsX xb fa fn (He.frG g (selX g xs ms))
theorem obsXN_eq {xs ms : List PySem.Str} {xb : List (PySem.W.Frag → Bool)} {fa : List He.Fa} {fn : List He.FnD} {g : Addr → Option Obj} {s : Shared} (h : ∀ a, g a = s.heap.get? a) : obsXN xs ms xb fa fn g = (hookX xs ms xb fa fn).obs s := by
  have e : g = s.heap.get? := funext h
  rw [e] <;> rfl
/-- a tuple of the top that is empty -/
def bNone (x : PySem.Str) (K : PySem.W.Frag) : Bool := match K.lookup (He.ga K x) with
  | some ⟨.type t, none, .seq its _, _⟩ => t == "tuple" && its.isEmpty
  | _ => false
/-- a method's keyword default, a name of the top -/
def bKw (C m k x : PySem.Str) (K : PySem.W.Frag) : Bool := match K.lookup (He.fAd K (C, some m)) with
  | some ⟨_, _, .func fd, _⟩ => (match fd.kwdefaults with
    | .ref D => He.eqO (PySem.W.nsIn K D k) (some (some (.ref (He.ga K x))))
    | _ => false)
  | _ => false
theorem bNone_ok {x : PySem.Str} {K : PySem.W.Frag} (h : bNone x K = true) : ∃ (o : Obj) (n : Nat), K.lookup (He.ga K x) = some o ∧ o.cls = .type "tuple" ∧ o.dict = none ∧ o.data = .seq #[] n := by
  unfold bNone at h
  split at h
  · rename_i t its n sl e
    rw [Bool.and_eq_true, beq_iff_eq, Array.isEmpty_iff] at h
    obtain ⟨rfl, rfl⟩ := h
    exact ⟨_, _, e, rfl, rfl, rfl⟩
  · cases h
theorem bKw_ok {C m k x : PySem.Str} {K : PySem.W.Frag} (h : bKw C m k x K = true) {oc : Value} {od : Option Addr} {fd : FuncData} {sl : Array (Option Value)} (l : K.lookup (He.fAd K (C, some m)) = some ⟨oc, od, .func fd, sl⟩) : ∃ D, fd.kwdefaults = .ref D ∧ PySem.W.nsIn K D k = some (some (.ref (He.ga K x))) := by
  unfold bKw at h
  rw [l] at h
  dsimp only at h
  split at h
  · rename_i D e
    exact ⟨D, e, He.eqO_ok h⟩
  · cases h
theorem xb_at {xb : List (PySem.W.Frag → Bool)} {K : PySem.W.Frag} (h : (xb.all fun b => b K) = true) (i : Nat) {b : PySem.W.Frag → Bool} (e : xb[i]? = some b := by rfl) : b K = true := List.all_eq_true.mp h b (List.mem_of_getElem? e)
end Wn
end

noncomputable section
namespace Wn
open PySem PySem.W PySem.Calls PyProof.Rows HandSHeadRun
/-! ### checks of the classes of refusals -/
/-- NetError: over ValueError, without an __init__ of its own -/
def bNE (x : PySem.Str) (K : PySem.W.Frag) : Bool :=
  decide (PySem.W.specialIn K (.ref (He.ga K x)) "__getattribute__" = some (some (.builtin "type.__getattribute__"))) && (PySem.W.readsIn K (He.ga K x) (.type "type") && ((match PySem.W.findCls K (.ref (He.ga K x)) (.type "type") "__init__" with
    | some (.val v) => decide (v = .builtin "ValueError.__init__")
    | _ => false) && (decide (PySem.W.subIn K (.ref (He.ga K x)) (.type "BaseException") = some true) && (PySem.W.hasDictIn K (He.ga K x) && decide (PySem.W.typeIn K (.ref (He.ga K x)) = some (.type "type"))))))
theorem bNE_ok {x : PySem.Str} {K : PySem.W.Frag} (h : bNE x K = true) : PySem.W.specialIn K (.ref (He.ga K x)) "__getattribute__" = some (some (.builtin "type.__getattribute__")) ∧ PySem.W.readsIn K (He.ga K x) (.type "type") = true ∧
    PySem.W.findCls K (.ref (He.ga K x)) (.type "type") "__init__" = some (.val (.builtin "ValueError.__init__")) ∧ PySem.W.subIn K (.ref (He.ga K x)) (.type "BaseException") = some true ∧ PySem.W.hasDictIn K (He.ga K x) = true ∧ PySem.W.typeIn K (.ref (He.ga K x)) = some (.type "type") := by
  obtain ⟨h1, h⟩ := Bool.and_eq_true_iff.mp h
  obtain ⟨h2, h⟩ := Bool.and_eq_true_iff.mp h
  obtain ⟨h3, h⟩ := Bool.and_eq_true_iff.mp h
  obtain ⟨h4, h⟩ := Bool.and_eq_true_iff.mp h
  obtain ⟨h5, h6⟩ := Bool.and_eq_true_iff.mp h
  refine ⟨of_decide_eq_true h1, h2, ?_, of_decide_eq_true h4, h5, of_decide_eq_true h6⟩
  split at h3
  · rename_i v e
    rw [e, of_decide_eq_true h3]
  · cases h3
/-- the object of a class x over N, which is over ValueError -/
def bXL (x n : PySem.Str) (K : PySem.W.Frag) : Bool := match K.lookup (He.ga K x) with
  | some ⟨.type t, _, .cls cd, sl⟩ => (match cd.mro, sl.toList with
    | .ref C :: .ref N :: bm, [_, _, _, _, some (.builtin b), _] => t == "type" && (C == He.ga K x && (N == He.ga K n && (decide (bm = [.type "ValueError", .type "Exception", .type "BaseException", .type "object"]) && (b == "ValueError.__new__" && (!cd.hasDel && cd.hasDict)))))
    | _, _ => false)
  | _ => false
theorem bXL_ok {x n : PySem.Str} {K : PySem.W.Frag} (h : bXL x n K = true) : ∃ (nm q : PySem.Str) (N : Addr) (bs : List Value) (sn : List PySem.Str) (sub : List Value) (ab : Bool) (col : Option Bool) (dd : Option Addr) (m0 m1 m2 m3 m5 : Option Value),
    K.lookup (He.ga K x) = some (excClassObj nm q (He.ga K x) N bs [.ref (He.ga K n), .type "ValueError", .type "Exception", .type "BaseException", .type "object"] true sn sub ab col dd m0 m1 m2 m3 m5 "ValueError.__new__") := by
  unfold bXL at h
  split at h
  · rename_i t dd cd sl e
    split at h
    · rename_i C N bm m0 m1 m2 m3 b m5 e1 e2
      simp only [Bool.and_eq_true, beq_iff_eq, decide_eq_true_eq, Bool.not_eq_true'] at h
      obtain ⟨rfl, rfl, rfl, rfl, rfl, h1, h2⟩ := h
      obtain ⟨nm, bs, mro, ns, q, hd, sn, sub, ab, col, del⟩ := cd
      dsimp only at e1 h1 h2
      subst e1 h1 h2
      have e3 : sl = #[m0, m1, m2, m3, some (.builtin "ValueError.__new__"), m5] := by
        rw [← Array.toList_inj]
        exact e2
      subst e3
      exact ⟨nm, q, ns, bs, sn, sub, ab, col, dd, m0, m1, m2, m3, m5, e⟩
    · cases h
  · cases h
def bSub (x : PySem.Str) (K : PySem.W.Frag) : Bool := decide (PySem.W.subIn K (.ref (He.ga K x)) (.type "BaseException") = some true)
def bTyp (x : PySem.Str) (K : PySem.W.Frag) : Bool := decide (PySem.W.typeIn K (.ref (He.ga K x)) = some (.type "type"))
def bFnd (x n : PySem.Str) (v : Option Value) (K : PySem.W.Frag) : Bool := He.eqO (PySem.W.findIn K (.ref (He.ga K x)) n) (some v)
def bKeep (x : PySem.Str) (K : PySem.W.Frag) : Bool := PySem.W.keepIn K (.ref (He.ga K x))
def bTf (x : PySem.Str) (K : PySem.W.Frag) : Bool := decide (PySem.W.typeIn K (.ref (He.ma K (He.ga K x) "__init__")) = some (.type "function"))
def bHd (x : PySem.Str) (K : PySem.W.Frag) : Bool := PySem.W.hasDictIn K (He.ga K x)
def bMo (x : PySem.Str) (K : PySem.W.Frag) : Bool := decide (PySem.W.mroIn K (He.ga K x) (.type "object") = some true)
def bSn (x n : PySem.Str) (K : PySem.W.Frag) : Bool := decide (PySem.W.subIn K (.ref (He.ga K x)) (.ref (He.ga K n)) = some true)
def bCg (K : PySem.W.Frag) : Bool := He.eqO (PySem.W.specialIn K (.builtin "object.__class__") "__get__") (some (some (.builtin "getset_descriptor.__get__")))
def bTk (K : PySem.W.Frag) : Bool := decide (PySem.W.takesIn K (.builtin "object.__class__") = some true)
end Wn
end

namespace Wn
open PySem L2

/-- what a caller knows of a def: that it keeps a promise, and where it stands -/
def Cd (P : Program) (w : World) (K : PySem.W.Frag) (mg : Str → Option Value) (base : Heap) (k : Nat) (name : Str) (ps : List Str) (sp : Sp) : Prop :=
  ∃ (f : Addr) (fd : FuncData), FnOk P w K mg base CX0 k f fd ps sp ∧ mg name = some (.ref f) ∧ PySem.W.keepIn K (.ref f) = true ∧ Binds K fd ps []
/-- what a caller knows of a method -/
def Md (P : Program) (w : World) (K : PySem.W.Frag) (mg : Str → Option Value) (base : Heap) (k : Nat) (C : Addr) (name : Str) (ps : List Str) (sp : Sp) : Prop :=
  ∃ (f : Addr) (fd : FuncData), FnOk P w K mg base CX0 k f fd ps sp ∧ Meth K C name f ∧ Binds K fd ps []

/-- all but some addresses stay -/
def Kp (M : List Addr) (H H' : Hp) : Prop := ∀ b o, b ∉ M → H b = some o → H' b = some o
theorem Kp.refl (M : List Addr) (H : Hp) : Kp M H H := fun _ _ _ h => h
theorem Kp.trans {M : List Addr} {H H1 H2 : Hp} (a : Kp M H H1) (b : Kp M H1 H2) : Kp M H H2 := fun c o hc h => b c o hc (a c o hc h)
theorem Kp.mono {M M' : List Addr} {H H1 : Hp} (a : Kp M H H1) (h : ∀ x ∈ M, x ∈ M') : Kp M' H H1 := fun c o hc q => a c o (fun z => hc (h c z)) q
theorem Kp.of {M : List Addr} {H H1 : Hp} (a : Same H H1) : Kp M H H1 := fun c o _ q => a c o q
theorem Kp.new {M : List Addr} {H H1 : Hp} {p : Addr} {o : HO} (a : Kp M H H1) (hp : H1 p = none) : Kp M H (upd H1 p o) := fun c u hc q => by
  rw [upd_ne (ne_of_none (a c u hc q) hp)]
  exact a c u hc q
theorem Kp.wr {M : List Addr} {H H1 : Hp} {p : Addr} {o : HO} (a : Kp M H H1) (hp : p ∈ M) : Kp M H (upd H1 p o) := fun c u hc q => by
  rw [upd_ne (show c ≠ p from fun z => hc (by rw [z]; exact hp))]
  exact a c u hc q
/-- a write to what wasn't there at first -/
theorem Kp.wrn {M : List Addr} {H H1 : Hp} {p : Addr} {o : HO} (a : Kp M H H1) (hp : H p = none) : Kp M H (upd H1 p o) := fun c u hc q => by
  rw [upd_ne (ne_of_none q hp)]
  exact a c u hc q
theorem _root_.L2.Same.new {H H1 : Hp} {p : Addr} {o : HO} (a : Same H H1) (hp : H1 p = none) : Same H (upd H1 p o) := fun c u q => by
  rw [upd_ne (ne_of_none (a c u q) hp)]
  exact a c u q
theorem _root_.L2.Same.wrn {H H1 : Hp} {p : Addr} {o : HO} (a : Same H H1) (hp : H p = none) : Same H (upd H1 p o) := fun c u q => by
  rw [upd_ne (ne_of_none q hp)]
  exact a c u q

/-- a while by a word and a measure -/
theorem while_m {c : TT} {tb : TS} {D : Ends} {σ : L2.St} {H : Hp} (Pv : L2.St → Hp → Prop) (μ : L2.St → Hp → Nat) (h0 : Pv σ H)
    (hs : ∀ m σ H, m = μ σ H → Pv σ H → c σ H fun b H1 => if b = true then ∃ N : L2.St → Hp → Prop, (∀ σ' H', N σ' H' → ∃ m', m' < m ∧ (m' = μ σ' H' ∧ Pv σ' H')) ∧ tb { D with nx := N, ct := N, bk := D.nx } σ H1 else D.nx σ H1) : tWhile c tb D σ H :=
  ⟨fun m σ H => m = μ σ H ∧ Pv σ H, ⟨_, rfl, h0⟩, fun m σ H ⟨e, p⟩ => hs m σ H e p⟩

/-! ### the deck -/
def spMixed : Sp := fun vs H Q _ => ∃ (c a : Int), vs = [.int c, .int a] ∧ -1 ≤ a ∧ a < 2 ^ 60 ∧ ∀ r : Int, Q (.int r) H
/-- a deck at d, of which n draws were taken at most -/
def Deck (H : Hp) (d f : Addr) (n : Int) : Prop :=
  ∃ (a wh : Int) (xs : List Int), H d = some (.lst [.int a, .int wh, .ref f]) ∧ H f = some (.lst (xs.map V.int)) ∧ 0 ≤ a ∧ a ≤ n ∧ xs.length ≤ 100000
def spNext : Sp := fun vs H Q _ => ∃ (d f : Addr) (m n : Int), vs = [.ref d, .int m] ∧ 0 < m ∧ n < 2 ^ 60 ∧ Deck H d f n ∧
  ∀ (r : Int) (H' : Hp), 0 ≤ r → r < m → Kp [d] H H' → Deck H' d f (n + 1) → Q (.int r) H'
def spDeck (K : PySem.W.Frag) : Sp := fun vs H Q _ => ∃ (a : Addr) (ns : List Int), vs = [.ref a] ∧ SqL K H a (ns.map V.int) ∧ ns.length ≤ 63 ∧
  ∀ (H' : Hp) (d f : Addr), H d = none → H f = none → Same H H' → Deck H' d f 0 → Q (.ref d) H'
end Wn

namespace Wn
open PySem L2
/-! ### tuples stay, whatever is called -/
def TK (H H' : Hp) : Prop := (∀ b xs, H b = some (.tup xs) → H' b = some (.tup xs)) ∧ (∀ b o u, H b = some (.frz o u) → H' b = some (.frz o u))
theorem TK.refl (H : Hp) : TK H H := ⟨fun _ _ h => h, fun _ _ _ h => h⟩
theorem TK.trans {H H1 H2 : Hp} (a : TK H H1) (b : TK H1 H2) : TK H H2 := ⟨fun c o h => b.1 c o (a.1 c o h), fun c o u h => b.2 c o u (a.2 c o u h)⟩
theorem TK.of {H H1 : Hp} (a : Same H H1) : TK H H1 := ⟨fun c o h => a _ _ h, fun c o u h => a _ _ h⟩
theorem TK.new {H H1 : Hp} {p : Addr} {o : HO} (a : TK H H1) (hp : H1 p = none) : TK H (upd H1 p o) :=
  ⟨fun c u q => by rw [upd_ne (ne_of_none (a.1 c u q) hp)]; exact a.1 c u q, fun c u z q => by rw [upd_ne (ne_of_none (a.2 c u z q) hp)]; exact a.2 c u z q⟩
/-- what is neither a tuple nor locked may be written -/
def Wrt : HO → Bool
  | .tup _ => false
  | .frz _ _ => false
  | _ => true
theorem TK.wr {H H1 : Hp} {p : Addr} {o u : HO} (a : TK H H1) (hp : H1 p = some u) (hu : Wrt u = true) : TK H (upd H1 p o) :=
  ⟨fun c v q => by
    have h1 := a.1 c v q
    rw [upd_ne (ne_of h1 hp (fun z => by rw [← z] at hu; cases hu))]
    exact h1, fun c v z q => by
    have h1 := a.2 c v z q
    rw [upd_ne (ne_of h1 hp (fun z => by rw [← z] at hu; cases hu))]
    exact h1⟩
theorem _root_.L2.FnOk.tk {P : Program} {w : World} {K : PySem.W.Frag} {mg : Str → Option Value} {base : Heap} {k : Nat} {f : Addr} {fd : FuncData} {ps : List Str} {sp : Sp} (F : FnOk P w K mg base CX0 k f fd ps sp) :
    FnOk P w K mg base CX0 k f fd ps (fun vs H Q E => sp vs H (fun v H' => TK H H' → Q v H') E) := by
  refine ⟨fun vs H Q E q => F.len vs H _ E q, fun A outer s H args us vs Q E hr he hb hv hs => ?_⟩
  refine codeAny_mono (F.run A outer s H args us vs _ E hr he hb hv hs) fun r s' h => ?_
  cases r with
  | ok fl =>
    cases fl with
    | ret u =>
      obtain ⟨v, H', e1, e2, e3, e4, e5, q⟩ := h
      exact ⟨v, H', e1, e2, e3, e4, e5, q ⟨e3.tups, e3.frzs⟩⟩
    | _ => exact h
  | error e => exact h
/-- a promise, tuples kept besides -/
def Tk (sp : Sp) : Sp := fun vs H Q E => sp vs H (fun v H' => TK H H' → Q v H') E
theorem Cd.tk {P : Program} {w : World} {K : PySem.W.Frag} {mg : Str → Option Value} {base : Heap} {k : Nat} {name : Str} {ps : List Str} {sp : Sp} (h : Cd P w K mg base k name ps sp) : Cd P w K mg base k name ps (Tk sp) := by
  obtain ⟨f, fd, G, a, b, c⟩ := h
  exact ⟨f, fd, G.tk, a, b, c⟩
theorem Md.tk {P : Program} {w : World} {K : PySem.W.Frag} {mg : Str → Option Value} {base : Heap} {k : Nat} {C : Addr} {name : Str} {ps : List Str} {sp : Sp} (h : Md P w K mg base k C name ps sp) : Md P w K mg base k C name ps (Tk sp) := by
  obtain ⟨f, fd, G, a, b⟩ := h
  exact ⟨f, fd, G.tk, a, b⟩

/-! ### data: None, truths, ints, texts, tuples of these -/
mutual
def Rp (K : PySem.W.Frag) (H : Hp) : PyData → V → Prop
  | .none, v => v = .non
  | .bool b, v => v = .bl b
  | .int i, v => v = .int i
  | .str s, v => v = .str s
  | .tuple ds, v => ∃ a xs, v = .ref a ∧ SqT K H a xs ∧ RpL K H ds xs
  | .list _, _ => False
  | .dict _, _ => False
def RpL (K : PySem.W.Frag) (H : Hp) : List PyData → List V → Prop
  | [], xs => xs = []
  | d :: ds, xs => ∃ v r, xs = v :: r ∧ Rp K H d v ∧ RpL K H ds r
end
mutual
def dep : PyData → Nat
  | .tuple xs => deps xs + 1
  | _ => 0
def deps : List PyData → Nat
  | [] => 0
  | x :: xs => max (dep x) (deps xs)
end
mutual
def sz : PyData → Nat
  | .tuple xs => szs xs + 1
  | _ => 1
def szs : List PyData → Nat
  | [] => 0
  | x :: xs => sz x + szs xs
end
theorem SqT.tk {K : PySem.W.Frag} {H H' : Hp} {a : Addr} {xs : List V} (h : SqT K H a xs) (e : TK H H') : SqT K H' a xs := by
  rcases h with (h | ⟨o, h⟩) | h
  · exact .inl (.inl (e.1 _ _ h))
  · exact .inl (.inr ⟨o, e.2 _ _ _ h⟩)
  · exact .inr h
mutual
theorem Rp.tk {K : PySem.W.Frag} {H H' : Hp} (e : TK H H') : ∀ (d : PyData) (v : V), Rp K H d v → Rp K H' d v
  | .none, _, h => h
  | .bool _, _, h => h
  | .int _, _, h => h
  | .str _, _, h => h
  | .tuple ds, v, h => by
    unfold Rp at h ⊢
    obtain ⟨a, xs, rfl, hs, hl⟩ := h
    exact ⟨a, xs, rfl, SqT.tk hs e, RpL.tk e ds xs hl⟩
  | .list _, _, h => h
  | .dict _, _, h => h
theorem RpL.tk {K : PySem.W.Frag} {H H' : Hp} (e : TK H H') : ∀ (ds : List PyData) (xs : List V), RpL K H ds xs → RpL K H' ds xs
  | [], _, h => h
  | d :: ds, xs, h => by
    unfold RpL at h ⊢
    obtain ⟨v, r, rfl, h1, h2⟩ := h
    exact ⟨v, r, rfl, Rp.tk e d v h1, RpL.tk e ds r h2⟩
end
theorem RpL.len {K : PySem.W.Frag} {H : Hp} : ∀ (ds : List PyData) (xs : List V), RpL K H ds xs → xs.length = ds.length
  | [], xs, h => by
    unfold RpL at h
    rw [h]
    rfl
  | d :: ds, xs, h => by
    unfold RpL at h
    obtain ⟨v, r, rfl, h1, h2⟩ := h
    rw [List.length_cons, List.length_cons, RpL.len ds r h2]
theorem RpL.get {K : PySem.W.Frag} {H : Hp} : ∀ (ds : List PyData) (xs : List V), RpL K H ds xs → ∀ (i : Nat) (d : PyData), ds[i]? = some d → ∃ v, xs[i]? = some v ∧ Rp K H d v
  | [], xs, h, i, d, e => by cases e
  | d :: ds, xs, h, i, d', e => by
    unfold RpL at h
    obtain ⟨v, r, rfl, h1, h2⟩ := h
    cases i with
    | zero =>
      simp only [List.getElem?_cons_zero, Option.some.injEq] at e
      exact ⟨v, rfl, e ▸ h1⟩
    | succ i =>
      simp only [List.getElem?_cons_succ] at e ⊢
      exact RpL.get ds r h2 i d' e
theorem RpL.of {K : PySem.W.Frag} {H : Hp} : ∀ (ds : List PyData) (xs : List V), xs.length = ds.length → (∀ (i : Nat) (d : PyData) (v : V), ds[i]? = some d → xs[i]? = some v → Rp K H d v) → RpL K H ds xs
  | [], xs, h, _ => by
    unfold RpL
    exact List.length_eq_zero_iff.mp h
  | d :: ds, [], h, _ => by cases h
  | d :: ds, v :: r, h, k => by
    unfold RpL
    refine ⟨v, r, rfl, k 0 d v rfl rfl, RpL.of ds r (by simpa using h) fun i d' v' h1 h2 => k (i + 1) d' v' ?_ ?_⟩
    · simpa using h1
    · simpa using h2
theorem RpL.snoc {K : PySem.W.Frag} {H : Hp} {d : PyData} {v : V} (h : Rp K H d v) : ∀ (ds : List PyData) (xs : List V), RpL K H ds xs → RpL K H (ds ++ [d]) (xs ++ [v])
  | [], xs, q => by
    unfold RpL at q
    subst q
    show RpL K H [d] [v]
    unfold RpL
    exact ⟨v, [], rfl, h, by unfold RpL; rfl⟩
  | d' :: ds, xs, q => by
    unfold RpL at q
    obtain ⟨v', r, rfl, h1, h2⟩ := q
    show RpL K H (d' :: (ds ++ [d])) (v' :: (r ++ [v]))
    unfold RpL
    exact ⟨_, _, rfl, h1, RpL.snoc h ds r h2⟩
theorem dep_get : ∀ (ds : List PyData) (i : Nat) (d : PyData), ds[i]? = some d → dep d ≤ deps ds
  | [], i, d, e => by cases e
  | x :: xs, 0, d, e => by
    simp only [List.getElem?_cons_zero, Option.some.injEq] at e
    unfold deps
    rw [e]
    exact Nat.le_max_left _ _
  | x :: xs, i + 1, d, e => by
    simp only [List.getElem?_cons_succ] at e
    unfold deps
    exact Nat.le_trans (dep_get xs i d e) (Nat.le_max_right _ _)
theorem sz_get : ∀ (ds : List PyData) (i : Nat) (d : PyData), ds[i]? = some d → sz d ≤ szs ds
  | [], i, d, e => by cases e
  | x :: xs, 0, d, e => by
    simp only [List.getElem?_cons_zero, Option.some.injEq] at e
    unfold szs
    rw [e]
    exact Nat.le_add_right _ _
  | x :: xs, i + 1, d, e => by
    simp only [List.getElem?_cons_succ] at e
    unfold szs
    exact Nat.le_trans (sz_get xs i d e) (Nat.le_add_left _ _)
theorem sz_pos : ∀ d : PyData, 1 ≤ sz d
  | .tuple xs => by unfold sz; omega
  | .none | .bool _ | .int _ | .str _ | .list _ | .dict _ => by unfold sz; exact Nat.le_refl _
theorem szs_len : ∀ ds : List PyData, ds.length ≤ szs ds
  | [] => Nat.zero_le _
  | x :: xs => by
    have := szs_len xs
    have := sz_pos x
    unfold szs
    rw [List.length_cons]
    omega
/-- the type of such a thing -/
theorem ty_tup {K : PySem.W.Frag} {H : Hp} {a : Addr} {xs : List V} (h : SqT K H a xs) : TyX K H (.ref a) (.type "tuple") := by
  rcases h with (h | ⟨o, h⟩) | ⟨o, its, n, h, c, _⟩
  · exact .base (.tup h)
  · exact .fTuple h
  · exact .kTuple h c
/-- the same data handed in twice, of depth below n: True -/
def spSame (K : PySem.W.Frag) (n : Nat) : Sp := fun vs H Q _ => ∃ (x y : V) (d : PyData), vs = [x, y] ∧ Rp K H d x ∧ Rp K H d y ∧ dep d < n ∧ sz d ≤ 1000000 ∧ ∀ H', Same H H' → Q (.bl true) H'
end Wn

namespace Wn
open PySem L2
theorem fld1 {f : Str} {v : V} : ([(f, v)] : List (Str × V)).lookup f = some v := by
  show (match f == f with | true => some v | false => _) = some v
  rw [beq_self_eq_true]
theorem fld1_ne {f g : Str} {v : V} (h : (g == f) = false) : ([(f, v)] : List (Str × V)).lookup g = none := by
  show (match g == f with | true => some v | false => _) = none
  rw [h]
  rfl
theorem putF1 {f : Str} {v u : V} : putF f u [(f, v)] = [(f, u)] := by
  show (if f = f then (f, u) :: [] else _) = _
  rw [if_pos rfl]
/-! ### dicts by whole numbers, their values data -/
section
variable {α : Type}
def lookA (m : List (Int × α)) (k : Int) : Option α := (m.find? fun p => decide (p.1 = k)).map (·.2)
def putA (m : List (Int × α)) (k : Int) (v : α) : List (Int × α) :=
  if (m.any fun kv => decide (kv.1 = k)) = true then m.map (fun kv => if kv.1 = k then (kv.1, v) else kv) else m ++ [(k, v)]
def dropA (m : List (Int × α)) (k : Int) : List (Int × α) := m.filter fun kv => decide (kv.1 ≠ k)
theorem putA_len (m : List (Int × α)) (k : Int) (v : α) : (putA m k v).length ≤ m.length + 1 := by
  unfold putA
  split
  · rw [List.length_map]
    omega
  · rw [List.length_append, List.length_singleton]
    exact Nat.le_refl _
theorem dropA_len (m : List (Int × α)) (k : Int) : (dropA m k).length ≤ m.length := List.length_filter_le _ _
def RpD (enc : α → PyData) (K : PySem.W.Frag) (H : Hp) : List (Int × α) → List (Key × V) → Prop
  | [], kvs => kvs = []
  | p :: m, kvs => ∃ v r, kvs = (Sum.inl p.1, v) :: r ∧ Rp K H (enc p.2) v ∧ RpD enc K H m r
variable {enc : α → PyData} {K : PySem.W.Frag} {H H' : Hp}
theorem RpD.tk (e : TK H H') : ∀ {m : List (Int × α)} {kvs : List (Key × V)}, RpD enc K H m kvs → RpD enc K H' m kvs
  | [], _, h => h
  | p :: m, kvs, h => by
    obtain ⟨v, r, rfl, h1, h2⟩ := h
    exact ⟨v, r, rfl, Rp.tk e _ _ h1, RpD.tk e h2⟩
theorem RpD.len : ∀ {m : List (Int × α)} {kvs : List (Key × V)}, RpD enc K H m kvs → kvs.length = m.length
  | [], kvs, h => by rw [show kvs = [] from h]; rfl
  | p :: m, kvs, h => by
    obtain ⟨v, r, rfl, h1, h2⟩ := h
    rw [List.length_cons, List.length_cons, RpD.len h2]
theorem RpD.keys : ∀ {m : List (Int × α)} {kvs : List (Key × V)}, RpD enc K H m kvs → (kvs.map fun kv => kV kv.1) = (m.map (·.1)).map V.int
  | [], kvs, h => by rw [show kvs = [] from h]; rfl
  | p :: m, kvs, h => by
    obtain ⟨v, r, rfl, h1, h2⟩ := h
    rw [List.map_cons, List.map_cons, List.map_cons, RpD.keys h2]
    rfl
theorem inl_iff {a b : Int} : ((Sum.inl a : Key) = Sum.inl b) ↔ a = b := ⟨fun h => by cases h; rfl, fun h => by rw [h]⟩
theorem RpD.val {k : Int} : ∀ {m : List (Int × α)} {kvs : List (Key × V)}, RpD enc K H m kvs → (lookA m k = none ∧ valV kvs (Sum.inl k) = none) ∨ ∃ x v, lookA m k = some x ∧ valV kvs (Sum.inl k) = some v ∧ Rp K H (enc x) v
  | [], kvs, h => by
    rw [show kvs = [] from h]
    exact .inl ⟨rfl, rfl⟩
  | p :: m, kvs, h => by
    obtain ⟨v, r, rfl, h1, h2⟩ := h
    by_cases e : p.1 = k
    · refine .inr ⟨p.2, v, ?_, valV_pos (by rw [e]), h1⟩
      simp [lookA, List.find?_cons, e]
    · have e1 : lookA (p :: m) k = lookA m k := by simp [lookA, List.find?_cons, e]
      rw [e1, valV_neg (p := (Sum.inl p.1, v)) (fun z => e (inl_iff.mp z))]
      exact RpD.val h2
theorem RpD.any {k : Int} : ∀ {m : List (Int × α)} {kvs : List (Key × V)}, RpD enc K H m kvs → (kvs.any fun kv => decide (kv.1 = Sum.inl k)) = (m.any fun kv => decide (kv.1 = k))
  | [], kvs, h => by rw [show kvs = [] from h]; rfl
  | p :: m, kvs, h => by
    obtain ⟨v, r, rfl, h1, h2⟩ := h
    rw [List.any_cons, List.any_cons, RpD.any h2]
    congr 1
    exact decide_eq_decide.mpr inl_iff
theorem RpD.snoc {k : Int} {x : α} {v : V} (hv : Rp K H (enc x) v) : ∀ {m : List (Int × α)} {kvs : List (Key × V)}, RpD enc K H m kvs → RpD enc K H (m ++ [(k, x)]) (kvs ++ [(Sum.inl k, v)])
  | [], kvs, h => by
    rw [show kvs = [] from h]
    exact ⟨v, [], rfl, hv, rfl⟩
  | p :: m, kvs, h => by
    obtain ⟨u, r, rfl, h1, h2⟩ := h
    exact ⟨u, _, rfl, h1, RpD.snoc hv h2⟩
theorem RpD.map {k : Int} {x : α} {v : V} (hv : Rp K H (enc x) v) : ∀ {m : List (Int × α)} {kvs : List (Key × V)}, RpD enc K H m kvs → RpD enc K H (m.map fun kv => if kv.1 = k then (kv.1, x) else kv) (kvs.map fun kv => if kv.1 = Sum.inl k then (kv.1, v) else kv)
  | [], kvs, h => by rw [show kvs = [] from h]; rfl
  | p :: m, kvs, h => by
    obtain ⟨u, r, rfl, h1, h2⟩ := h
    have h3 := RpD.map (k := k) hv h2
    rw [List.map_cons, List.map_cons]
    by_cases e : p.1 = k
    · rw [if_pos e, if_pos (inl_iff.mpr e)]
      exact ⟨v, _, rfl, hv, h3⟩
    · rw [if_neg e, if_neg (fun z => e (inl_iff.mp z))]
      exact ⟨u, _, rfl, h1, h3⟩
theorem RpD.put {k : Int} {x : α} {v : V} {m : List (Int × α)} {kvs : List (Key × V)} (h : RpD enc K H m kvs) (hv : Rp K H (enc x) v) : RpD enc K H (putA m k x) (putK kvs (Sum.inl k) v) := by
  unfold putA putK
  rw [h.any]
  split
  · exact h.map hv
  · exact h.snoc hv
theorem RpD.drop {k : Int} : ∀ {m : List (Int × α)} {kvs : List (Key × V)}, RpD enc K H m kvs → RpD enc K H (dropA m k) (dropK kvs (Sum.inl k))
  | [], kvs, h => by rw [show kvs = [] from h]; rfl
  | p :: m, kvs, h => by
    obtain ⟨u, r, rfl, h1, h2⟩ := h
    have h3 := RpD.drop (k := k) h2
    unfold dropA dropK at *
    by_cases e : p.1 = k
    · rw [List.filter_cons_of_neg (by simp [e]), List.filter_cons_of_neg (by simp [e])]
      exact h3
    · rw [List.filter_cons_of_pos (by simp [e]), List.filter_cons_of_pos (by simp [inl_iff, e])]
      exact ⟨u, _, rfl, h1, h3⟩
/-- a dict at q that stands for m -/
def DictAt (enc : α → PyData) (K : PySem.W.Frag) (H : Hp) (q : Addr) (m : List (Int × α)) : Prop := ∃ kvs, H q = some (.dK kvs) ∧ RpD enc K H m kvs
theorem DictAt.kp {M : List Addr} {q : Addr} {m : List (Int × α)} (h : DictAt enc K H q m) (k : Kp M H H') (t : TK H H') (n : q ∉ M) : DictAt enc K H' q m := by
  obtain ⟨kvs, a, b⟩ := h
  exact ⟨kvs, k _ _ n a, b.tk t⟩
def sortI (ns : List Int) : List Int := ns.mergeSort (fun a b => decide (a ≤ b))
theorem sortI_perm (ns : List Int) : (sortI ns).Perm ns := List.mergeSort_perm _ _
theorem sortI_sorted (ns : List Int) : (sortI ns).Pairwise (· ≤ ·) := by
  have h := List.pairwise_mergeSort (le := fun a b : Int => decide (a ≤ b)) (fun a b c h1 h2 => by simp only [decide_eq_true_eq] at *; omega) (fun a b => by simp only [Bool.or_eq_true, decide_eq_true_eq]; omega) ns
  exact h.imp fun h => of_decide_eq_true h
theorem sortI_eq {ns ms : List Int} (p : ms.Perm ns) (s : ms.Pairwise (· ≤ ·)) : ms = sortI ns :=
  PySem.W.ksm_same (p.trans (sortI_perm ns).symm) s (sortI_sorted ns)
/-- rows by hands: (hand,) and what stands there -/
def rowsD (encL : α → List PyData) (m : List (Int × α)) : PyData := .tuple ((sortI (m.map (·.1))).map fun k => .tuple (.int k :: ((lookA m k).map encL).getD []))
theorem lookA_mem {m : List (Int × α)} {k : Int} (h : k ∈ m.map (·.1)) : ∃ x, lookA m k = some x ∧ (k, x) ∈ m := by
  obtain ⟨p, hp, rfl⟩ := List.mem_map.mp h
  unfold lookA
  cases e : m.find? fun q => decide (q.1 = p.1) with
  | none =>
    have := List.find?_eq_none.mp e p hp
    simp at this
  | some q =>
    have h1 := List.find?_some e
    have h2 := List.mem_of_find?_eq_some e
    simp only [decide_eq_true_eq] at h1
    exact ⟨q.2, rfl, by rw [← h1]; exact h2⟩
theorem szs_map_le {β : Type} {f : β → PyData} {c : Nat} : ∀ (l : List β), (∀ x ∈ l, sz (f x) ≤ c) → szs (l.map f) ≤ c * l.length
  | [], _ => Nat.zero_le _
  | x :: l, h => by
    have h1 := szs_map_le l fun y hy => h y (List.mem_cons_of_mem _ hy)
    have h2 := h x List.mem_cons_self
    rw [List.map_cons, List.length_cons]
    unfold szs
    rw [Nat.mul_succ]
    omega
theorem deps_map_le {β : Type} {f : β → PyData} {c : Nat} : ∀ (l : List β), (∀ x ∈ l, dep (f x) ≤ c) → deps (l.map f) ≤ c
  | [], _ => Nat.zero_le _
  | x :: l, h => by
    have h1 := deps_map_le l fun y hy => h y (List.mem_cons_of_mem _ hy)
    have h2 := h x List.mem_cons_self
    rw [List.map_cons]
    unfold deps
    omega
theorem Rp.tup {ds : List PyData} {a : Addr} {xs : List V} (h : H a = some (.tup xs)) (r : RpL K H ds xs) : Rp K H (.tuple ds) (.ref a) := by
  unfold Rp
  exact ⟨a, xs, rfl, SqT.of h, r⟩
theorem Rp.tupS {ds : List PyData} {a : Addr} {xs : List V} (h : SqT K H a xs) (r : RpL K H ds xs) : Rp K H (.tuple ds) (.ref a) := by
  unfold Rp
  exact ⟨a, xs, rfl, h, r⟩
theorem RpL.cons {d : PyData} {ds : List PyData} {v : V} {xs : List V} (h : Rp K H d v) (r : RpL K H ds xs) : RpL K H (d :: ds) (v :: xs) := by
  unfold RpL
  exact ⟨v, xs, rfl, h, r⟩
theorem RpL.nil : RpL K H [] [] := by
  unfold RpL
  rfl
theorem Rp.int {i : Int} : Rp K H (.int i) (.int i) := by
  unfold Rp
  rfl
theorem Rp.none : Rp K H .none .non := by
  unfold Rp
  rfl
theorem Rp.str {z : Str} : Rp K H (.str z) (.str z) := by
  unfold Rp
  rfl
end
end Wn

namespace Wn
open PySem L2
theorem tYes_t {σ : L2.St} {H : Hp} {F : Bool → Hp → Prop} (h : F true H) : tYes σ H F := h
theorem rows_lc {α : Type} {encL : α → List PyData} {K : PySem.W.Frag} {td : TE} {i : Nat} {σ : L2.St} {H2 : Hp} {S D q : Addr} {ns : List Int} {m : List (Int × α)} {kvs : List (Key × V)} {Qd : Hp → Prop}
    (hS : H2 S = some (.lst (ns.map V.int))) (hq : H2 q = some (.dK kvs)) (hm : RpD (fun x => .tuple (encL x)) K H2 m kvs) (hns : ∀ k ∈ ns, k ∈ m.map (·.1)) (hz : ∀ x, (encL x).length ≤ 100) (hln : ns.length ≤ 1000000)
    (htd : ∀ (σ' : L2.St) (H' : Hp) (Q : VK), wipe σ' [i] = wipe σ [i] → Same H2 H' → Q (.ref q) H' → td σ' H' Q) (hD : H2 D = none) (hσ : i < σ.length)
    (hd : ∀ (H' : Hp) (xs : List V), Same H2 H' → H' D = some (.lst xs) → RpL K H' (ns.map fun k => .tuple (.int k :: ((lookA m k).map encL).getD [])) xs → Qd H') :
    ∃ W : Nat → Nat → Hp → Prop, (∃ m, W 0 m (upd H2 D (.lst []))) ∧ ∀ j m H, W j m H →
      ((Itl K S).stop j H ∧ Qd H) ∨ ((Itl K S).go j H ∧ ∃ Nx : Hp → Prop, (∀ H', Nx H' → ∃ m', m' < m ∧ W (j + 1) m' H') ∧ ∀ x H', (Itl K S).yld j H x H' → gName i x (wipe σ [i]) H' fun σ2 H2 => wipe σ2 [i] = wipe σ [i] ∧ tYes σ2 H2 fun b H3 =>
        if b = true then tOp (rCatT K) (tTup (tCons (tVar i) tNil)) (tDGet td (tVar i)) σ2 H3 fun y H4 => ∃ acc, H4 D = some (.lst acc) ∧ acc.length < sizeLine ∧ Nx (upd H4 D (.lst (acc ++ [y]))) else Nx H3) := by
  have nSD : S ≠ D := ne_of_none hS hD
  refine lc_list (K := K) (a := S) (xs := ns.map V.int) (fun j H => ∃ xs, Same H2 H ∧ H D = some (.lst xs) ∧ RpL K H ((ns.take j).map fun k => .tuple (.int k :: ((lookA m k).map encL).getD [])) xs)
    ⟨[], (L2.Same.refl H2).new hD, upd_same, RpL.nil⟩ (fun j H _ ⟨xs, s, _, _⟩ => SqL.of (s _ _ hS)) ?_ ?_
  · rintro j x H3 hx ⟨xs, s3, hD3, hr⟩
    have hj : j < ns.length := by
      have q := (List.getElem?_eq_some_iff.mp hx).1
      rw [List.length_map] at q
      exact q
    obtain rfl : x = V.int ns[j] := by
      rw [List.getElem?_map, List.getElem?_eq_getElem hj] at hx
      exact (Option.some.inj hx).symm
    have hmem : ns[j] ∈ m.map (·.1) := hns _ (List.getElem_mem hj)
    have eσ : (((wipe σ [i]).set i (some (V.int ns[j]))))[i]? = some (some (V.int ns[j])) := by
      rw [List.getElem?_set_self]
      rw [wipe_length]
      exact hσ
    have ew : wipe ((wipe σ [i]).set i (some (V.int ns[j]))) [i] = wipe σ [i] := by
      show ((σ.set i none).set i (some (V.int ns[j]))).set i none = σ.set i none
      rw [List.set_set, List.set_set]
    refine ⟨ew, ?_⟩
    refine tYes_t (iteT ?_)
    have hlx : xs.length < sizeLine := by
      have := RpL.len _ _ hr
      rw [List.length_map, List.length_take] at this
      exact Nat.lt_of_le_of_lt (show xs.length ≤ 1000000 by omega) (by decide)
    refine ⟨_, eσ, (by show 1 ≤ sizeLine; decide), fun t ht => ?_⟩
    have s4 := s3.new (o := .tup [V.int ns[j]]) ht
    have t4 := TK.of s4
    refine htd _ _ _ ew s4 ⟨_, eσ, ?_⟩
    rcases hm.val (k := ns[j]) with ⟨e1, e2⟩ | ⟨y, v, e1, e2, r⟩
    · obtain ⟨z, e3, _⟩ := lookA_mem hmem
      rw [e1] at e3
      cases e3
    · have r4 := Rp.tk t4 _ _ r
      unfold Rp at r4
      obtain ⟨b, ys, rfl, hb, hl⟩ := r4
      have hly := RpL.len _ _ hl
      refine ⟨q, .ref b, rfl, by rw [← e2]; exact DGet.k (k := Sum.inl ns[j]) (s4 _ _ hq), ?_⟩
      have hD4 : (upd H3 t (.tup [V.int ns[j]])) D = some (.lst xs) := by
        rw [upd_ne (ne_of_none hD3 ht)]
        exact hD3
      have etk : (ns.take (j + 1)).map (fun k => PyData.tuple (.int k :: ((lookA m k).map encL).getD [])) = (ns.take j).map (fun k => PyData.tuple (.int k :: ((lookA m k).map encL).getD [])) ++ [PyData.tuple (.int ns[j] :: encL y)] := by
        rw [List.take_succ_eq_append_getElem hj, List.map_append, List.map_singleton, e1]
        rfl
      have s34 : TK H3 (upd H3 t (.tup [V.int ns[j]])) := (TK.refl _).new ht
      refine ⟨t, b, _, ys, rfl, rfl, SqT.of upd_same, hb, List.cons_ne_nil _ _, ?_, fun ey => ?_, fun _ p hp => ?_⟩
      · have := hz y
        rw [hly, List.length_singleton]
        exact Nat.le_trans (show 1 + (encL y).length ≤ 1000 by omega) (by decide)
      · refine ⟨xs, hD4, hlx, _, s4.wrn hD, upd_same, ?_⟩
        rw [etk]
        have tE : TK (upd H3 t (.tup [V.int ns[j]])) (upd (upd H3 t (.tup [V.int ns[j]])) D (.lst (xs ++ [V.ref t]))) := (TK.refl _).wr hD4 rfl
        refine RpL.snoc (Rp.tk tE _ _ (Rp.tup upd_same ?_)) _ _ (RpL.tk (s34.trans tE) _ _ hr)
        have e0 : encL y = [] := List.length_eq_zero_iff.mp (by rw [← hly, ey]; rfl)
        rw [e0]
        exact RpL.cons Rp.int RpL.nil
      · have s5 := s4.new (o := .tup ([V.int ns[j]] ++ ys)) hp
        have hD5 : upd (upd H3 t (.tup [V.int ns[j]])) p (.tup ([V.int ns[j]] ++ ys)) D = some (.lst xs) := by
          rw [upd_ne (ne_of_none hD4 hp)]
          exact hD4
        have tE : TK (upd (upd H3 t (.tup [V.int ns[j]])) p (.tup ([V.int ns[j]] ++ ys))) (upd (upd (upd H3 t (.tup [V.int ns[j]])) p (.tup ([V.int ns[j]] ++ ys))) D (.lst (xs ++ [V.ref p]))) := (TK.refl _).wr hD5 rfl
        have s45 : TK (upd H3 t (.tup [V.int ns[j]])) (upd (upd H3 t (.tup [V.int ns[j]])) p (.tup ([V.int ns[j]] ++ ys))) := (TK.refl _).new hp
        refine ⟨xs, hD5, hlx, _, s5.wrn hD, upd_same, ?_⟩
        rw [etk]
        refine RpL.snoc (Rp.tk tE _ _ (Rp.tup upd_same ?_)) _ _ (RpL.tk ((s34.trans s45).trans tE) _ _ hr)
        exact RpL.cons Rp.int (RpL.tk s45 _ _ hl)
  · rintro H3 ⟨xs, s3, hD3, hr⟩
    rw [List.length_map, List.take_length] at hr
    exact hd H3 xs s3 hD3 hr
end Wn

namespace Wn
open PySem L2
section
variable {X : Cx} {K : PySem.W.Frag}
theorem ixL (hK : X.K = K) : IxR X (rIxL K) := hK ▸ ix_list
theorem ixT (hK : X.K = K) : IxR X (rIxT K) := hK ▸ ix_tup
theorem opCatT (hK : X.K = K) : OpR X (binaryOp .Add) (rCatT K) := hK ▸ op_catT
theorem slL (hK : X.K = K) : SlR X (rSlL K) := hK ▸ sl_list
theorem slT (hK : X.K = K) : SlR X (rSlT K) := hK ▸ sl_tup
theorem fldK {e : Expr} {ta : TE} {f : Str} {pos : Pos} (hK : X.K = K) (he : PE X e ta) (hb : attributeBase e f X.env (eval e X.env) = eval e X.env) : PE X (.Attribute e f pos) (tFld K ta f) := hK ▸ pe_fld he hb
theorem lenK (hK : X.K = K) : CallR X (.builtin "len") (fun xs H Q => ∃ x n, xs = [x] ∧ LenV K x H n ∧ Q (.int n) H) := hK ▸ call_len
theorem crMaxK (hK : X.K = K) (hc : X.calm = true) : CallR X (.builtin "max") (rMax K) := hK ▸ cr_max hc
theorem crMinK (hK : X.K = K) (hc : X.calm = true) : CallR X (.builtin "min") (rMin K) := hK ▸ cr_min hc
theorem crAllK (hK : X.K = K) (hc : X.calm = true) : CallR X (.builtin "all") (rAll K) := hK ▸ cr_all hc
theorem crAnyK (hK : X.K = K) (hc : X.calm = true) : CallR X (.builtin "any") (rAny K) := hK ▸ cr_any hc
theorem isiK (hK : X.K = K) : CallR X (.builtin "isinstance") (rIsi K) := hK ▸ call_isi
theorem tupOfK (hK : X.K = K) : CallR X (.type "tuple") (fun xs H Q => ∃ p ys, xs = [.ref p] ∧ ((SqL K H p ys ∧ ∀ l, H l = none → Q (.ref l) (upd H l (.tup ys))) ∨ (SqT K H p ys ∧ Q (.ref p) H))) := hK ▸ call_tuple_of
theorem lstOfK (hK : X.K = K) : CallR X (.type "list") (fun xs H Q => ∃ p ys, xs = [.ref p] ∧ (SqL K H p ys ∨ SqT K H p ys) ∧ ∀ l, H l = none → Q (.ref l) (upd H l (.lst ys))) := hK ▸ call_list_of
theorem sortIK (hK : X.K = K) : CallR X (.builtin "sorted") (rSortedI K) := hK ▸ cr_sortedI
theorem inSeqK (hK : X.K = K) : OpR X (compareOp .In) (rIn K false) := hK ▸ op_in_seq
theorem notInSeqK (hK : X.K = K) : OpR X (compareOp .NotIn) (rIn K true) := hK ▸ op_notIn_seq
theorem eqDK (hK : X.K = K) (hu : X.A.units + 64 < cLine) : OpR X (compareOp .Eq) (rEqD K) := hK ▸ op_eqD hu
theorem neDK (hK : X.K = K) (hu : X.A.units + 64 < cLine) : OpR X (compareOp .NotEq) (rNeD K) := hK ▸ op_neD hu
end
end Wn

namespace Wn
open PySem L2
theorem Deck.kp {M : List Addr} {H H' : Hp} {d f : Addr} {n : Int} (h : Deck H d f n) (k : Kp M H H') (n1 : d ∉ M) (n2 : f ∉ M) : Deck H' d f n := by
  obtain ⟨a, wh, xs, h1, h2, h3⟩ := h
  exact ⟨a, wh, xs, k _ _ n1 h1, k _ _ n2 h2, h3⟩
theorem Deck.mono {H : Hp} {d f : Addr} {n m : Int} (h : Deck H d f n) (hm : n ≤ m) : Deck H d f m := by
  obtain ⟨a, wh, xs, h1, h2, h3, h4, h5⟩ := h
  exact ⟨a, wh, xs, h1, h2, h3, by omega, h5⟩
theorem Deck.lst {H : Hp} {d f : Addr} {n : Int} (h : Deck H d f n) : ∃ zs, H d = some (.lst zs) := by
  obtain ⟨a, wh, xs, h1, h2, h3⟩ := h
  exact ⟨_, h1⟩
theorem Deck.lst2 {H : Hp} {d f : Addr} {n : Int} (h : Deck H d f n) : ∃ zs, H f = some (.lst zs) := by
  obtain ⟨a, wh, xs, h1, h2, h3⟩ := h
  exact ⟨_, h2⟩
theorem seq_have {t u : TS} {D : Ends} {σ : L2.St} {H : Hp} (Mid : L2.St → Hp → Prop) (h2 : ∀ σ' H', Mid σ' H' → u D σ' H') (h1 : (∀ σ' H', Mid σ' H' → u D σ' H') → t { D with nx := u D } σ H) : tSeq t u D σ H := h1 h2
theorem seq_if {c : TT} {t1 t2 u : TS} {D : Ends} {σ : L2.St} {H : Hp} (Mid : L2.St → Hp → Prop) (h2 : ∀ σ' H', Mid σ' H' → u D σ' H') (h1 : (∀ σ' H', Mid σ' H' → u D σ' H') → tIfS c t1 t2 { D with nx := u D } σ H) : tSeq (tIfS c t1 t2) u D σ H := h1 h2
theorem nin1 {a b : Addr} (h : a ≠ b) : a ∉ [b] := fun z => h (List.mem_singleton.mp z)
theorem nin2 {a b c : Addr} (h : a ≠ b) (h' : a ≠ c) : a ∉ [b, c] := fun z => by
  rcases List.mem_cons.mp z with z | z
  · exact h z
  · exact h' (List.mem_singleton.mp z)
section
variable {α : Type}
/-- an object at p whose dict by_hand stands at q -/
def HoldAt (enc : α → PyData) (K : PySem.W.Frag) (C : Addr) (H : Hp) (p q : Addr) (m : List (Int × α)) : Prop :=
  (∃ dx, H p = some (.ins C dx [("by_hand", .ref q)])) ∧ DictAt enc K H q m
variable {enc : α → PyData} {K : PySem.W.Frag} {C : Addr} {H H' : Hp}
theorem HoldAt.kp {M : List Addr} {p q : Addr} {m : List (Int × α)} (h : HoldAt enc K C H p q m) (k : Kp M H H') (t : TK H H') (n1 : p ∉ M) (n2 : q ∉ M) : HoldAt enc K C H' p q m := by
  obtain ⟨⟨dx, a⟩, b⟩ := h
  exact ⟨⟨dx, k _ _ n1 a⟩, b.kp k t n2⟩
/-- n objects and n dicts, in two lists -/
structure Rack (enc : α → PyData) (K : PySem.W.Frag) (C : Addr) (H : Hp) (L1 L2 : Addr) (n : Nat) (p q md : Nat → Addr) (m m' : Nat → List (Int × α)) : Prop where
  l1 : H L1 = some (.lst ((List.range n).map fun j => V.ref (p j)))
  l2 : H L2 = some (.lst ((List.range n).map fun j => V.ref (md j)))
  ok : ∀ j, j < n → HoldAt enc K C H (p j) (q j) (m j)
  mo : ∀ j, j < n → DictAt enc K H (md j) (m' j)
  dq : ∀ i j, i < n → j < n → i ≠ j → q i ≠ q j
  dm : ∀ i j, i < n → j < n → i ≠ j → md i ≠ md j
  dx : ∀ i j, i < n → j < n → q i ≠ md j
variable {L1 L2 : Addr} {n : Nat} {p q md : Nat → Addr} {m m' : Nat → List (Int × α)}
theorem Rack.kp {M : List Addr} (R : Rack enc K C H L1 L2 n p q md m m') (k : Kp M H H') (t : TK H H') (h : ∀ x ∈ M, x ≠ L1 ∧ x ≠ L2 ∧ ∀ j, j < n → x ≠ p j ∧ x ≠ q j ∧ x ≠ md j) : Rack enc K C H' L1 L2 n p q md m m' where
  l1 := k _ _ (fun z => (h _ z).1 rfl) R.l1
  l2 := k _ _ (fun z => (h _ z).2.1 rfl) R.l2
  ok := fun j hj => (R.ok j hj).kp k t (fun z => ((h _ z).2.2 j hj).1 rfl) (fun z => ((h _ z).2.2 j hj).2.1 rfl)
  mo := fun j hj => (R.mo j hj).kp k t (fun z => ((h _ z).2.2 j hj).2.2 rfl)
  dq := R.dq
  dm := R.dm
  dx := R.dx
/-- a list beside was written -/
theorem Rack.lst {d : Addr} {zs : List V} (R : Rack enc K C H L1 L2 n p q md m m') (k : Kp [d] H H') (t : TK H H') (hd : H d = some (.lst zs)) (n1 : d ≠ L1) (n2 : d ≠ L2) : Rack enc K C H' L1 L2 n p q md m m' :=
  R.kp k t fun x hx => by
    rw [List.mem_singleton] at hx
    subst hx
    refine ⟨n1, n2, fun j hj => ?_⟩
    obtain ⟨⟨dx, a⟩, kvs, b, _⟩ := R.ok j hj
    obtain ⟨kvs', c, _⟩ := R.mo j hj
    exact ⟨ne_of hd a (by intro z; cases z), ne_of hd b (by intro z; cases z), ne_of hd c (by intro z; cases z)⟩
theorem Rack.same (R : Rack enc K C H L1 L2 n p q md m m') (s : Same H H') : Rack enc K C H' L1 L2 n p q md m m' :=
  R.kp (M := []) (Kp.of s) (TK.of s) fun x hx => by cases hx
/-- the k-th object's dict is another one -/
theorem Rack.setq {i : Nat} {mn : List (Int × α)} (R : Rack enc K C H L1 L2 n p q md m m') (hi : i < n) (k : Kp [q i] H H') (t : TK H H') (h : HoldAt enc K C H' (p i) (q i) mn) :
    Rack enc K C H' L1 L2 n p q md (fun j => if j = i then mn else m j) m' := by
  obtain ⟨_, kvq, hq, _⟩ := R.ok i hi
  refine ⟨k _ _ (nin1 (ne_of R.l1 hq (by intro z; cases z))) R.l1, k _ _ (nin1 (ne_of R.l2 hq (by intro z; cases z))) R.l2, fun j hj => ?_, fun j hj => ?_, R.dq, R.dm, R.dx⟩
  · by_cases e : j = i
    · subst e
      simp only [if_true]
      exact h
    · simp only [if_neg e]
      obtain ⟨⟨dx, a⟩, _⟩ := R.ok j hj
      exact (R.ok j hj).kp k t (nin1 (ne_of a hq (by intro z; cases z))) (nin1 (R.dq j i hj hi e))
  · exact (R.mo j hj).kp k t (nin1 (fun z => R.dx i j hi hj z.symm))
theorem Rack.setm {i : Nat} {mn : List (Int × α)} (R : Rack enc K C H L1 L2 n p q md m m') (hi : i < n) (k : Kp [md i] H H') (t : TK H H') (h : DictAt enc K H' (md i) mn) :
    Rack enc K C H' L1 L2 n p q md m (fun j => if j = i then mn else m' j) := by
  obtain ⟨kvq, hq, _⟩ := R.mo i hi
  refine ⟨k _ _ (nin1 (ne_of R.l1 hq (by intro z; cases z))) R.l1, k _ _ (nin1 (ne_of R.l2 hq (by intro z; cases z))) R.l2, fun j hj => ?_, fun j hj => ?_, R.dq, R.dm, R.dx⟩
  · obtain ⟨⟨dx, a⟩, _⟩ := R.ok j hj
    exact (R.ok j hj).kp k t (nin1 (ne_of a hq (by intro z; cases z))) (nin1 (R.dx j i hj hi))
  · by_cases e : j = i
    · subst e
      simp only [if_true]
      exact h
    · simp only [if_neg e]
      exact (R.mo j hj).kp k t (nin1 (R.dm j i hj hi e))
/-- one more -/
theorem Rack.push {pn qn mdn : Addr} {mn : List (Int × α)} (R : Rack enc K C H L1 L2 n p q md m m') (k : Kp [L1, L2] H H') (t : TK H H') (h1 : H' L1 = some (.lst (((List.range n).map fun j => V.ref (p j)) ++ [V.ref pn]))) (h2 : H' L2 = some (.lst (((List.range n).map fun j => V.ref (md j)) ++ [V.ref mdn])))
    (hp : HoldAt enc K C H' pn qn mn) (hm : DictAt enc K H' mdn mn) (nq : H qn = none) (nm : H mdn = none) (nqm : qn ≠ mdn) :
    Rack enc K C H' L1 L2 (n + 1) (fun j => if j = n then pn else p j) (fun j => if j = n then qn else q j) (fun j => if j = n then mdn else md j) (fun j => if j = n then mn else m j) (fun j => if j = n then mn else m' j) := by
  have e1 : ∀ (f : Nat → Addr) (x : Addr), (List.range (n + 1)).map (fun j => V.ref (if j = n then x else f j)) = ((List.range n).map fun j => V.ref (f j)) ++ [V.ref x] := fun f x => by
    rw [List.range_succ, List.map_append, List.map_singleton, if_pos rfl]
    congr 1
    refine List.map_congr_left fun j hj => ?_
    rw [List.mem_range] at hj
    rw [if_neg (by omega)]
  have hq : ∀ j, j < n → q j ≠ qn ∧ q j ≠ mdn := fun j hj => by
    obtain ⟨_, kv, a, _⟩ := R.ok j hj
    exact ⟨ne_of_none a nq, ne_of_none a nm⟩
  have hmd : ∀ j, j < n → md j ≠ qn ∧ md j ≠ mdn := fun j hj => by
    obtain ⟨kv, a, _⟩ := R.mo j hj
    exact ⟨ne_of_none a nq, ne_of_none a nm⟩
  refine ⟨by rw [e1]; exact h1, by rw [e1]; exact h2, fun j hj => ?_, fun j hj => ?_, fun i j hi hj e => ?_, fun i j hi hj e => ?_, fun i j hi hj => ?_⟩
  · by_cases e : j = n
    · simp only [if_pos e]
      exact hp
    · simp only [if_neg e]
      obtain ⟨⟨dx, a⟩, kv, b, _⟩ := R.ok j (by omega)
      exact (R.ok j (by omega)).kp k t (nin2 (ne_of a R.l1 (by intro z; cases z)) (ne_of a R.l2 (by intro z; cases z))) (nin2 (ne_of b R.l1 (by intro z; cases z)) (ne_of b R.l2 (by intro z; cases z)))
  · by_cases e : j = n
    · simp only [if_pos e]
      exact hm
    · simp only [if_neg e]
      obtain ⟨kv, b, _⟩ := R.mo j (by omega)
      exact (R.mo j (by omega)).kp k t (nin2 (ne_of b R.l1 (by intro z; cases z)) (ne_of b R.l2 (by intro z; cases z)))
  · by_cases ei : i = n
    · have ej : ¬ j = n := by omega
      simp only [if_pos ei, if_neg ej]
      exact (hq j (by omega)).1.symm
    · by_cases ej : j = n
      · simp only [if_neg ei, if_pos ej]
        exact (hq i (by omega)).1
      · simp only [if_neg ei, if_neg ej]
        exact R.dq i j (by omega) (by omega) e
  · by_cases ei : i = n
    · have ej : ¬ j = n := by omega
      simp only [if_pos ei, if_neg ej]
      exact (hmd j (by omega)).2.symm
    · by_cases ej : j = n
      · simp only [if_neg ei, if_pos ej]
        exact (hmd i (by omega)).2
      · simp only [if_neg ei, if_neg ej]
        exact R.dm i j (by omega) (by omega) e
  · by_cases ei : i = n
    · by_cases ej : j = n
      · simp only [if_pos ei, if_pos ej]
        exact nqm
      · simp only [if_pos ei, if_neg ej]
        exact (hmd j (by omega)).1.symm
    · by_cases ej : j = n
      · simp only [if_neg ei, if_pos ej]
        exact (hq i (by omega)).2
      · simp only [if_neg ei, if_neg ej]
        exact R.dx i j (by omega) (by omega)
end
section
variable {α : Type} {enc : α → PyData} {K : PySem.W.Frag} {C : Addr} {H H' : Hp}
theorem HoldAt.lst {d p q : Addr} {zs : List V} {m : List (Int × α)} (h : HoldAt enc K C H p q m) (k : Kp [d] H H') (t : TK H H') (hd : H d = some (.lst zs)) : HoldAt enc K C H' p q m := by
  obtain ⟨⟨dx, a⟩, kv, b, _⟩ := id h
  exact h.kp k t (nin1 (ne_of a hd (by intro z; cases z))) (nin1 (ne_of b hd (by intro z; cases z)))
theorem HoldAt.same {p q : Addr} {m : List (Int × α)} (h : HoldAt enc K C H p q m) (s : Same H H') : HoldAt enc K C H' p q m :=
  h.kp (M := []) (Kp.of s) (TK.of s) (by simp) (by simp)
theorem DictAt.lst {d q : Addr} {zs : List V} {m : List (Int × α)} (h : DictAt enc K H q m) (k : Kp [d] H H') (t : TK H H') (hd : H d = some (.lst zs)) : DictAt enc K H' q m := by
  obtain ⟨kv, b, _⟩ := id h
  exact h.kp k t (nin1 (ne_of b hd (by intro z; cases z)))
theorem DictAt.same {q : Addr} {m : List (Int × α)} (h : DictAt enc K H q m) (s : Same H H') : DictAt enc K H' q m :=
  h.kp (M := []) (Kp.of s) (TK.of s) (by simp)
theorem Deck.same {d f : Addr} {n : Int} (h : Deck H d f n) (s : Same H H') : Deck H' d f n := h.kp (M := []) (Kp.of s) (by simp) (by simp)
/-- a dict beside was written -/
theorem Deck.dict {d f q : Addr} {n : Int} {m : List (Int × α)} (h : Deck H d f n) (k : Kp [q] H H') (hq : DictAt enc K H q m) : Deck H' d f n := by
  obtain ⟨kv, b, _⟩ := hq
  obtain ⟨zs, h1⟩ := h.lst
  obtain ⟨zf, h2⟩ := h.lst2
  exact h.kp k (nin1 (ne_of h1 b (by intro z; cases z))) (nin1 (ne_of h2 b (by intro z; cases z)))
variable {La Lb : Addr} {n : Nat} {p q md : Nat → Addr} {m m' : Nat → List (Int × α)}
/-- the k-th object's dict, the k-th dict and a list beside are others -/
theorem Rack.set2 {d : Addr} {zs : List V} {i : Nat} {mn mn' : List (Int × α)} (R : Rack enc K C H La Lb n p q md m m') (hi : i < n) (k : Kp [d, q i, md i] H H') (t : TK H H') (hd : H d = some (.lst zs)) (n1 : d ≠ La) (n2 : d ≠ Lb)
    (h : HoldAt enc K C H' (p i) (q i) mn) (h' : DictAt enc K H' (md i) mn') :
    Rack enc K C H' La Lb n p q md (fun j => if j = i then mn else m j) (fun j => if j = i then mn' else m' j) := by
  obtain ⟨_, kvq, hq, _⟩ := R.ok i hi
  obtain ⟨kvm, hm, _⟩ := R.mo i hi
  have nin : ∀ {x : Addr}, x ≠ d → x ≠ q i → x ≠ md i → x ∉ [d, q i, md i] := fun a b c z => by
    rcases List.mem_cons.mp z with z | z
    · exact a z
    · exact nin2 b c z
  refine ⟨k _ _ (nin n1.symm (ne_of R.l1 hq (by intro z; cases z)) (ne_of R.l1 hm (by intro z; cases z))) R.l1, k _ _ (nin n2.symm (ne_of R.l2 hq (by intro z; cases z)) (ne_of R.l2 hm (by intro z; cases z))) R.l2, fun j hj => ?_, fun j hj => ?_, R.dq, R.dm, R.dx⟩
  · by_cases e : j = i
    · subst e
      simp only [if_true]
      exact h
    · simp only [if_neg e]
      obtain ⟨⟨dx, a⟩, kv, b, _⟩ := R.ok j hj
      exact (R.ok j hj).kp k t (nin (ne_of a hd (by intro z; cases z)) (ne_of a hq (by intro z; cases z)) (ne_of a hm (by intro z; cases z))) (nin (ne_of b hd (by intro z; cases z)) (R.dq j i hj hi e) (R.dx j i hj hi))
  · by_cases e : j = i
    · subst e
      simp only [if_true]
      exact h'
    · simp only [if_neg e]
      obtain ⟨kv, b, _⟩ := R.mo j hj
      exact (R.mo j hj).kp k t (nin (ne_of b hd (by intro z; cases z)) (fun z => R.dx i j hi hj z.symm) (R.dm j i hj hi e))
end
theorem at3 {x y z : V} {r : Int} (h0 : 0 ≤ r) (h1 : r < 3) : ∃ v, atI [x, y, z] r = some v ∧ (v = x ∨ v = y ∨ v = z) := by
  have h : r = 0 ∨ r = 1 ∨ r = 2 := by omega
  rcases h with rfl | rfl | rfl
  · exact ⟨x, rfl, .inl rfl⟩
  · exact ⟨y, rfl, .inr (.inl rfl)⟩
  · exact ⟨z, rfl, .inr (.inr rfl)⟩
theorem at5 {a b c d e : Int} {r : Int} (h0 : 0 ≤ r) (h1 : r < 5) : ∃ v : Int, atI [V.int a, .int b, .int c, .int d, .int e] r = some (.int v) := by
  have h : r = 0 ∨ r = 1 ∨ r = 2 ∨ r = 3 ∨ r = 4 := by omega
  rcases h with rfl | rfl | rfl | rfl | rfl <;> exact ⟨_, rfl⟩
theorem atR {n : Nat} {f : Nat → Addr} {r : Int} (h0 : 0 ≤ r) (h1 : r < n) : atI ((List.range n).map fun j => V.ref (f j)) r = some (.ref (f r.toNat)) := by
  have e : ((r.toNat : Nat) : Int) = r := by omega
  have := atI_nat (xs := (List.range n).map fun j => V.ref (f j)) (j := r.toNat) (v := .ref (f r.toNat)) (by
    rw [List.getElem?_map, List.getElem?_range (by omega)]
    rfl)
  rw [e] at this
  exact this
def spLaw (K : PySem.W.Frag) : Sp := fun vs H Q _ => ∃ (a : Addr) (ns : List Int), vs = [.ref a] ∧ SqL K H a (ns.map V.int) ∧ ns.length ≤ 63 ∧ ∀ H', Q (.bl true) H'
/-! ### lists of data -/
def LstAt (K : PySem.W.Frag) (H : Hp) (a : Addr) (ds : List PyData) : Prop := ∃ xs, H a = some (.lst xs) ∧ RpL K H ds xs
section
variable {K : PySem.W.Frag} {H H' : Hp}
theorem LstAt.kp {M : List Addr} {a : Addr} {ds : List PyData} (h : LstAt K H a ds) (k : Kp M H H') (t : TK H H') (n : a ∉ M) : LstAt K H' a ds := by
  obtain ⟨xs, h1, h2⟩ := h
  exact ⟨xs, k _ _ n h1, RpL.tk t _ _ h2⟩
theorem LstAt.same {a : Addr} {ds : List PyData} (h : LstAt K H a ds) (s : Same H H') : LstAt K H' a ds := h.kp (M := []) (Kp.of s) (TK.of s) (by simp)
theorem LstAt.lst {a : Addr} {ds : List PyData} (h : LstAt K H a ds) : ∃ zs, H a = some (.lst zs) := ⟨_, h.choose_spec.1⟩
theorem RpL.app : ∀ {ds es : List PyData} {xs ys : List V}, RpL K H ds xs → RpL K H es ys → RpL K H (ds ++ es) (xs ++ ys)
  | [], es, xs, ys, h1, h2 => by
    unfold RpL at h1
    subst h1
    exact h2
  | d :: ds, es, xs, ys, h1, h2 => by
    unfold RpL at h1
    obtain ⟨v, r, rfl, a, b⟩ := h1
    show RpL K H (d :: (ds ++ es)) (v :: (r ++ ys))
    exact RpL.cons a (RpL.app b h2)
theorem RpL.take : ∀ (k : Nat) {ds : List PyData} {xs : List V}, RpL K H ds xs → RpL K H (ds.take k) (xs.take k)
  | 0, ds, xs, _ => by
    rw [List.take_zero, List.take_zero]
    exact RpL.nil
  | k + 1, [], xs, h => by
    unfold RpL at h
    subst h
    exact RpL.nil
  | k + 1, d :: ds, xs, h => by
    unfold RpL at h
    obtain ⟨v, r, rfl, a, b⟩ := h
    exact RpL.cons a (RpL.take k b)
theorem RpL.drop : ∀ (k : Nat) {ds : List PyData} {xs : List V}, RpL K H ds xs → RpL K H (ds.drop k) (xs.drop k)
  | 0, ds, xs, h => h
  | k + 1, [], xs, h => by
    unfold RpL at h
    subst h
    exact RpL.nil
  | k + 1, d :: ds, xs, h => by
    unfold RpL at h
    obtain ⟨v, r, rfl, a, b⟩ := h
    exact RpL.drop k b
theorem inV_int {k : Int} : ∀ ns : List Int, inV (.int k) (ns.map V.int) = decide (k ∈ ns)
  | [] => by simp [inV]
  | n :: ns => by
    have h := inV_int (k := k) ns
    unfold inV at h ⊢
    rw [List.map_cons, List.any_cons, h]
    show ((n == k) || _) = _
    by_cases e : n = k
    · simp [e]
    · have e2 : ¬ k = n := fun z => e z.symm
      simp [e, e2]
theorem flat_ints (ns : List Int) : (ns.map V.int).all flatV = true := by
  rw [List.all_eq_true]
  intro x hx
  obtain ⟨n, _, rfl⟩ := List.mem_map.mp hx
  rfl
theorem set_wipe {σ : L2.St} {i : Nat} {x : Option V} : (wipe σ [i]).set i x = σ.set i x := by
  show (σ.set i none).set i x = _
  rw [List.set_set]
theorem wipe_set {σ : L2.St} {i : Nat} {x : Option V} : wipe (σ.set i x) [i] = wipe σ [i] := by
  show (σ.set i x).set i none = σ.set i none
  rw [List.set_set]
/-- [x for x in xs if test] -/
theorem filt_lc {β : Type} {enc : β → PyData} {tt : TT} {i : Nat} {σ : L2.St} {H2 : Hp} {S D : Addr} {xs : List V} {L : List β} {Qd : Hp → Prop} (p : β → Bool) (hS : H2 S = some (.lst xs)) (hr : RpL K H2 (L.map enc) xs) (hD : H2 D = none) (hσ : i < σ.length) (hl : L.length ≤ 1000000)
    (htt : ∀ (b : β) (x : V) (H' : Hp) (Q : Bool → Hp → Prop), b ∈ L → Rp K H' (enc b) x → Same H2 H' → Q (p b) H' → tt (σ.set i (some x)) H' Q)
    (hd : ∀ (H' : Hp) (ys : List V), Same H2 H' → H' D = some (.lst ys) → RpL K H' ((L.filter p).map enc) ys → Qd H') :
    ∃ W : Nat → Nat → Hp → Prop, (∃ m, W 0 m (upd H2 D (.lst []))) ∧ ∀ j m H, W j m H →
      ((Itl K S).stop j H ∧ Qd H) ∨ ((Itl K S).go j H ∧ ∃ Nx : Hp → Prop, (∀ H', Nx H' → ∃ m', m' < m ∧ W (j + 1) m' H') ∧ ∀ x H', (Itl K S).yld j H x H' → gName i x (wipe σ [i]) H' fun σ2 H2 => wipe σ2 [i] = wipe σ [i] ∧ tt σ2 H2 fun b H3 =>
        if b = true then tVar i σ2 H3 fun y H4 => ∃ acc, H4 D = some (.lst acc) ∧ acc.length < sizeLine ∧ Nx (upd H4 D (.lst (acc ++ [y]))) else Nx H3) := by
  refine lc_list (K := K) (a := S) (xs := xs) (fun j H => ∃ ys, Same H2 H ∧ H D = some (.lst ys) ∧ RpL K H (((L.take j).filter p).map enc) ys)
    ⟨[], (L2.Same.refl H2).new hD, upd_same, RpL.nil⟩ (fun j H _ ⟨ys, s, _, _⟩ => SqL.of (s _ _ hS)) ?_ ?_
  · rintro j x H3 hx ⟨ys, s3, hD3, hr3⟩
    have hlen := RpL.len _ _ hr
    have hj : j < L.length := by
      have q := (List.getElem?_eq_some_iff.mp hx).1
      rw [hlen, List.length_map] at q
      exact q
    obtain ⟨v, ev, rv⟩ := RpL.get _ _ hr j (enc L[j]) (by rw [List.getElem?_map, List.getElem?_eq_getElem hj]; rfl)
    have ex : v = x := Option.some.inj (ev.symm.trans hx)
    rw [ex] at rv
    have rx := Rp.tk (TK.of s3) _ _ rv
    show wipe ((wipe σ [i]).set i (some x)) [i] = wipe σ [i] ∧ _
    rw [set_wipe]
    refine ⟨wipe_set, ?_⟩
    have hly : ys.length < sizeLine := by
      have := RpL.len _ _ hr3
      rw [List.length_map] at this
      have h2 := List.length_filter_le p (L.take j)
      rw [List.length_take] at h2
      exact Nat.lt_of_le_of_lt (show ys.length ≤ 1000000 by omega) (by decide)
    refine htt L[j] x H3 _ (List.getElem_mem hj) rx s3 ?_
    have et : L.take (j + 1) = L.take j ++ [L[j]] := List.take_succ_eq_append_getElem hj
    cases e : p L[j] with
    | false =>
      refine iteF ⟨ys, s3, hD3, ?_⟩
      rw [et, List.filter_append, List.filter_cons, e]
      simpa using hr3
    | true =>
      refine iteT ⟨x, ?_, ys, hD3, hly, ys ++ [x], s3.wrn hD, upd_same, ?_⟩
      · rw [List.getElem?_set_self hσ]
      · have tE : TK H3 (upd H3 D (.lst (ys ++ [x]))) := (TK.refl _).wr hD3 rfl
        rw [et, List.filter_append, List.filter_cons, e, List.map_append]
        exact RpL.app (RpL.tk tE _ _ hr3) (RpL.cons (Rp.tk tE _ _ rx) RpL.nil)
  · rintro H3 ⟨ys, s3, hD3, hr3⟩
    have hlen := RpL.len _ _ hr
    rw [hlen, List.length_map, List.take_length] at hr3
    exact hd H3 ys s3 hD3 hr3
/-- [number of x for x in xs] -/
theorem mapI_lc {β : Type} {enc : β → PyData} {te : TE} {i : Nat} {σ : L2.St} {H2 : Hp} {S D : Addr} {xs : List V} {L : List β} {Qd : Hp → Prop} (f : β → Int) (hS : H2 S = some (.lst xs)) (hr : RpL K H2 (L.map enc) xs) (hD : H2 D = none) (hl : L.length ≤ 1000000)
    (hte : ∀ (b : β) (x : V) (H' : Hp) (Q : VK), b ∈ L → Rp K H' (enc b) x → Same H2 H' → Q (.int (f b)) H' → te (σ.set i (some x)) H' Q)
    (hd : ∀ (H' : Hp), Same H2 H' → H' D = some (.lst ((L.map f).map V.int)) → Qd H') :
    ∃ W : Nat → Nat → Hp → Prop, (∃ m, W 0 m (upd H2 D (.lst []))) ∧ ∀ j m H, W j m H →
      ((Itl K S).stop j H ∧ Qd H) ∨ ((Itl K S).go j H ∧ ∃ Nx : Hp → Prop, (∀ H', Nx H' → ∃ m', m' < m ∧ W (j + 1) m' H') ∧ ∀ x H', (Itl K S).yld j H x H' → gName i x (wipe σ [i]) H' fun σ2 H2 => wipe σ2 [i] = wipe σ [i] ∧ tYes σ2 H2 fun b H3 =>
        if b = true then te σ2 H3 fun y H4 => ∃ acc, H4 D = some (.lst acc) ∧ acc.length < sizeLine ∧ Nx (upd H4 D (.lst (acc ++ [y]))) else Nx H3) := by
  refine lc_list (K := K) (a := S) (xs := xs) (fun j H => Same H2 H ∧ H D = some (.lst (((L.take j).map f).map V.int)))
    ⟨(L2.Same.refl H2).new hD, upd_same⟩ (fun j H _ ⟨s, _⟩ => SqL.of (s _ _ hS)) ?_ ?_
  · rintro j x H3 hx ⟨s3, hD3⟩
    have hlen := RpL.len _ _ hr
    have hj : j < L.length := by
      have q := (List.getElem?_eq_some_iff.mp hx).1
      rw [hlen, List.length_map] at q
      exact q
    obtain ⟨v, ev, rv⟩ := RpL.get _ _ hr j (enc L[j]) (by rw [List.getElem?_map, List.getElem?_eq_getElem hj]; rfl)
    have ex : v = x := Option.some.inj (ev.symm.trans hx)
    rw [ex] at rv
    have rx := Rp.tk (TK.of s3) _ _ rv
    show wipe ((wipe σ [i]).set i (some x)) [i] = wipe σ [i] ∧ _
    rw [set_wipe]
    refine ⟨wipe_set, tYes_t (iteT ?_)⟩
    refine hte L[j] x H3 _ (List.getElem_mem hj) rx s3 ⟨_, hD3, ?_, s3.wrn hD, ?_⟩
    · rw [List.length_map, List.length_map, List.length_take]
      exact Nat.lt_of_le_of_lt (show min j L.length ≤ 1000000 by omega) (by decide)
    · rw [upd_same, List.take_succ_eq_append_getElem hj, List.map_append, List.map_append]
      rfl
  · rintro H3 ⟨s3, hD3⟩
    have hlen := RpL.len _ _ hr
    rw [hlen, List.length_map, List.take_length] at hD3
    exact hd H3 s3 hD3
end
section
variable {K : PySem.W.Frag} {H H' : Hp}
/-- [e for x in xs], each e data -/
theorem mapD_it {J : It} {G : Hp → Prop} {β : Type} {enc : β → PyData} {te : TE} {i : Nat} {σ : L2.St} {H2 : Hp} {D : Addr} {xs : List V} {L : List β} {Qd : Hp → Prop} (w : Walk J xs.length G (YAt xs)) (hG : ∀ H', Same H2 H' → G H') (g : β → PyData) (hr : RpL K H2 (L.map enc) xs) (hD : H2 D = none) (hl : L.length ≤ 1000000)
    (hte : ∀ (b : β) (x : V) (H' : Hp) (Q : VK), b ∈ L → Rp K H' (enc b) x → Same H2 H' → (∀ (H'' : Hp) (y : V), Same H' H'' → Rp K H'' (g b) y → Q y H'') → te (σ.set i (some x)) H' Q)
    (hd : ∀ (H' : Hp) (ys : List V), Same H2 H' → H' D = some (.lst ys) → RpL K H' (L.map g) ys → Qd H') :
    ∃ W : Nat → Nat → Hp → Prop, (∃ m, W 0 m (upd H2 D (.lst []))) ∧ ∀ j m H, W j m H →
      (J.stop j H ∧ Qd H) ∨ (J.go j H ∧ ∃ Nx : Hp → Prop, (∀ H', Nx H' → ∃ m', m' < m ∧ W (j + 1) m' H') ∧ ∀ x H', J.yld j H x H' → gName i x (wipe σ [i]) H' fun σ2 H2 => wipe σ2 [i] = wipe σ [i] ∧ tYes σ2 H2 fun b H3 =>
        if b = true then te σ2 H3 fun y H4 => ∃ acc, H4 D = some (.lst acc) ∧ acc.length < sizeLine ∧ Nx (upd H4 D (.lst (acc ++ [y]))) else Nx H3) := by
  refine lc_it w (fun j H => ∃ ys, Same H2 H ∧ H D = some (.lst ys) ∧ RpL K H ((L.take j).map g) ys)
    ⟨[], (L2.Same.refl H2).new hD, upd_same, RpL.nil⟩ (fun j H _ ⟨ys, s, _⟩ => hG H s) ?_ ?_
  · rintro j x H3 H3' hj ⟨ys, s3, hD3, hr3⟩ ⟨rfl, hx⟩
    have hlen := RpL.len _ _ hr
    rw [List.length_map] at hlen
    have hj : j < L.length := by omega
    obtain ⟨v, ev, rv⟩ := RpL.get _ _ hr j (enc L[j]) (by rw [List.getElem?_map, List.getElem?_eq_getElem hj]; rfl)
    have ex : v = x := Option.some.inj (ev.symm.trans hx)
    rw [ex] at rv
    have rx := Rp.tk (TK.of s3) _ _ rv
    show wipe ((wipe σ [i]).set i (some x)) [i] = wipe σ [i] ∧ _
    rw [set_wipe]
    refine ⟨wipe_set, tYes_t (iteT ?_)⟩
    refine hte L[j] x H3' _ (List.getElem_mem hj) rx s3 fun H4 y s4 ry => ⟨ys, s4 _ _ hD3, ?_, ys ++ [y], (s3.trans s4).wrn hD, upd_same, ?_⟩
    · have := RpL.len _ _ hr3
      rw [List.length_map, List.length_take] at this
      exact Nat.lt_of_le_of_lt (show ys.length ≤ 1000000 by omega) (by decide)
    · have tE : TK H4 (upd H4 D (.lst (ys ++ [y]))) := (TK.refl _).wr (s4 _ _ hD3) rfl
      rw [List.take_succ_eq_append_getElem hj, List.map_append]
      exact RpL.app (RpL.tk ((TK.of s4).trans tE) _ _ hr3) (RpL.cons (Rp.tk tE _ _ ry) RpL.nil)
  · rintro H3 ⟨ys, s3, hD3, hr3⟩
    have hlen := RpL.len _ _ hr
    rw [hlen, List.length_map, List.take_length] at hr3
    exact hd H3 ys s3 hD3 hr3
theorem RpL.ints : ∀ {ns : List Int} {ys : List V}, RpL K H (ns.map PyData.int) ys → ys = ns.map V.int
  | [], ys, h => by
    unfold List.map RpL at h
    exact h
  | n :: ns, ys, h => by
    rw [List.map_cons] at h
    unfold RpL at h
    obtain ⟨v, r, rfl, h1, h2⟩ := h
    unfold Rp at h1
    rw [RpL.ints h2, h1]
    rfl
theorem dp_ints : ∀ (ns : List Int), DpAll K H (ns.map V.int) (ns.map PyData.int)
  | [] => .nil
  | n :: ns => .cons (.int n) (dp_ints ns)
theorem LstAt.dict {α : Type} {enc : α → PyData} {a q : Addr} {ds : List PyData} {m : List (Int × α)} (h : LstAt K H a ds) (k : Kp [q] H H') (t : TK H H') (hq : DictAt enc K H q m) : LstAt K H' a ds := by
  obtain ⟨xs, h1, _⟩ := id h
  obtain ⟨kv, h2, _⟩ := hq
  exact h.kp k t (nin1 (ne_of h1 h2 (by intro z; cases z)))
theorem dep_ints (ns : List Int) : dep (.tuple (ns.map PyData.int)) ≤ 1 := by
  unfold dep
  have := deps_map_le (c := 0) (f := PyData.int) ns fun x _ => Nat.le_refl _
  omega
end
section
variable {K : PySem.W.Frag} {H H' : Hp}
/-- [e for i in range(..)], each e data -/
theorem mapR_it {J : It} {n : Nat} {fv : Nat → V} {te : TE} {i : Nat} {σ : L2.St} {H2 : Hp} {D : Addr} {Qd : Hp → Prop} (w : Walk J n (fun _ => True) (YFn fv)) (g : Nat → PyData) (hD : H2 D = none) (hl : n ≤ 1000000)
    (hte : ∀ (j : Nat) (H' : Hp) (Q : VK), j < n → Same H2 H' → (∀ (H'' : Hp) (y : V), Same H' H'' → Rp K H'' (g j) y → Q y H'') → te (σ.set i (some (fv j))) H' Q)
    (hd : ∀ (H' : Hp) (ys : List V), Same H2 H' → H' D = some (.lst ys) → RpL K H' ((List.range n).map g) ys → Qd H') :
    ∃ W : Nat → Nat → Hp → Prop, (∃ m, W 0 m (upd H2 D (.lst []))) ∧ ∀ j m H, W j m H →
      (J.stop j H ∧ Qd H) ∨ (J.go j H ∧ ∃ Nx : Hp → Prop, (∀ H', Nx H' → ∃ m', m' < m ∧ W (j + 1) m' H') ∧ ∀ x H', J.yld j H x H' → gName i x (wipe σ [i]) H' fun σ2 H2 => wipe σ2 [i] = wipe σ [i] ∧ tYes σ2 H2 fun b H3 =>
        if b = true then te σ2 H3 fun y H4 => ∃ acc, H4 D = some (.lst acc) ∧ acc.length < sizeLine ∧ Nx (upd H4 D (.lst (acc ++ [y]))) else Nx H3) := by
  refine lc_it w (fun j H => ∃ ys, Same H2 H ∧ H D = some (.lst ys) ∧ RpL K H ((List.range j).map g) ys)
    ⟨[], (L2.Same.refl H2).new hD, upd_same, RpL.nil⟩ (fun j H _ _ => trivial) ?_ ?_
  · rintro j x H3 H3' hj ⟨ys, s3, hD3, hr3⟩ ⟨rfl, rfl⟩
    show wipe ((wipe σ [i]).set i (some (fv j))) [i] = wipe σ [i] ∧ _
    rw [set_wipe]
    refine ⟨wipe_set, tYes_t (iteT ?_)⟩
    refine hte j H3' _ hj s3 fun H4 y s4 ry => ⟨ys, s4 _ _ hD3, ?_, ys ++ [y], (s3.trans s4).wrn hD, upd_same, ?_⟩
    · have := RpL.len _ _ hr3
      rw [List.length_map, List.length_range] at this
      exact Nat.lt_of_le_of_lt (show ys.length ≤ 1000000 by omega) (by decide)
    · have tE : TK H4 (upd H4 D (.lst (ys ++ [y]))) := (TK.refl _).wr (s4 _ _ hD3) rfl
      rw [List.range_succ, List.map_append]
      exact RpL.app (RpL.tk ((TK.of s4).trans tE) _ _ hr3) (RpL.cons (Rp.tk tE _ _ ry) RpL.nil)
  · rintro H3 ⟨ys, s3, hD3, hr3⟩
    exact hd H3 ys s3 hD3 hr3
end
end Wn

namespace Wn
open PySem L2
def top (i : Nat) : Stmt := PySem.Challenge.pw_wrapnets_k02_roads_fall_and_rise.main.body.getD i (.Pass ⟨0, 0, 0, 0⟩)
end Wn

set_option maxHeartbeats 4000000
namespace Wn
open PySem L2
def d3_NoRoad_init : He.FnD := ⟨("NoRoad", some "__init__"), "__init__", "NoRoad.__init__", defArgs (inClass (top 41) 0), defBody (inClass (top 41) 0), defScope (inClass (top 41) 0)⟩
def d3_Same_init : He.FnD := ⟨("Same", some "__init__"), "__init__", "Same.__init__", defArgs (inClass (top 42) 0), defBody (inClass (top 42) 0), defScope (inClass (top 42) 0)⟩
def d3_Roads_init : He.FnD := ⟨("Roads", some "__init__"), "__init__", "Roads.__init__", defArgs (inClass (top 50) 0), defBody (inClass (top 50) 0), defScope (inClass (top 50) 0)⟩
def d3_Roads_up : He.FnD := ⟨("Roads", some "up"), "up", "Roads.up", defArgs (inClass (top 50) 2), defBody (inClass (top 50) 2), defScope (inClass (top 50) 2)⟩
def d3_Roads_pair_of : He.FnD := ⟨("Roads", some "pair_of"), "pair_of", "Roads.pair_of", defArgs (inClass (top 50) 3), defBody (inClass (top 50) 3), defScope (inClass (top 50) 3)⟩
def d3_Roads_fall : He.FnD := ⟨("Roads", some "fall"), "fall", "Roads.fall", defArgs (inClass (top 50) 4), defBody (inClass (top 50) 4), defScope (inClass (top 50) 4)⟩
def d3_Roads_rise : He.FnD := ⟨("Roads", some "rise"), "rise", "Roads.rise", defArgs (inClass (top 50) 5), defBody (inClass (top 50) 5), defScope (inClass (top 50) 5)⟩
def d3_Roads_neighbours : He.FnD := ⟨("Roads", some "neighbours"), "neighbours", "Roads.neighbours", defArgs (inClass (top 50) 6), defBody (inClass (top 50) 6), defScope (inClass (top 50) 6)⟩
def d3_Fars_init : He.FnD := ⟨("Fars", some "__init__"), "__init__", "Fars.__init__", defArgs (inClass (top 59) 0), defBody (inClass (top 59) 0), defScope (inClass (top 59) 0)⟩
def d3_Fars_rows : He.FnD := ⟨("Fars", some "rows"), "rows", "Fars.rows", defArgs (inClass (top 59) 5), defBody (inClass (top 59) 5), defScope (inClass (top 59) 5)⟩
def d3_Ground_init : He.FnD := ⟨("Ground", some "__init__"), "__init__", "Ground.__init__", defArgs (inClass (top 65) 0), defBody (inClass (top 65) 0), defScope (inClass (top 65) 0)⟩
def d3_Ground_told : He.FnD := ⟨("Ground", some "told"), "told", "Ground.told", defArgs (inClass (top 65) 4), defBody (inClass (top 65) 4), defScope (inClass (top 65) 4)⟩
def d3_Ground_drops : He.FnD := ⟨("Ground", some "drops"), "drops", "Ground.drops", defArgs (inClass (top 65) 6), defBody (inClass (top 65) 6), defScope (inClass (top 65) 6)⟩
def d3_Ground_forget : He.FnD := ⟨("Ground", some "forget"), "forget", "Ground.forget", defArgs (inClass (top 65) 12), defBody (inClass (top 65) 12), defScope (inClass (top 65) 12)⟩
def d3_Ground_fall : He.FnD := ⟨("Ground", some "fall"), "fall", "Ground.fall", defArgs (inClass (top 65) 21), defBody (inClass (top 65) 21), defScope (inClass (top 65) 21)⟩
def d3_Ground_rise : He.FnD := ⟨("Ground", some "rise"), "rise", "Ground.rise", defArgs (inClass (top 65) 22), defBody (inClass (top 65) 22), defScope (inClass (top 65) 22)⟩
def d3_Wraps_init : He.FnD := ⟨("Wraps", some "__init__"), "__init__", "Wraps.__init__", defArgs (inClass (top 135) 0), defBody (inClass (top 135) 0), defScope (inClass (top 135) 0)⟩
def d3_Wraps_tell_drops : He.FnD := ⟨("Wraps", some "tell_drops"), "tell_drops", "Wraps.tell_drops", defArgs (inClass (top 135) 4), defBody (inClass (top 135) 4), defScope (inClass (top 135) 4)⟩
def d3_World_init : He.FnD := ⟨("World", some "__init__"), "__init__", "World.__init__", defArgs (inClass (top 137) 0), defBody (inClass (top 137) 0), defScope (inClass (top 137) 0)⟩
def d3_World_ground : He.FnD := ⟨("World", some "ground"), "ground", "World.ground", defArgs (inClass (top 137) 26), defBody (inClass (top 137) 26), defScope (inClass (top 137) 26)⟩
def d3_World_look_open : He.FnD := ⟨("World", some "look_open"), "look_open", "World.look_open", defArgs (inClass (top 137) 1), defBody (inClass (top 137) 1), defScope (inClass (top 137) 1)⟩
def d3_World_done : He.FnD := ⟨("World", some "done"), "done", "World.done", defArgs (inClass (top 137) 2), defBody (inClass (top 137) 2), defScope (inClass (top 137) 2)⟩
def d3_World_fall : He.FnD := ⟨("World", some "fall"), "fall", "World.fall", defArgs (inClass (top 137) 17), defBody (inClass (top 137) 17), defScope (inClass (top 137) 17)⟩
def d3_World_rise : He.FnD := ⟨("World", some "rise"), "rise", "World.rise", defArgs (inClass (top 137) 18), defBody (inClass (top 137) 18), defScope (inClass (top 137) 18)⟩
def d3_is_whole : He.FnD := ⟨("is_whole", none), "is_whole", "is_whole", defArgs (top 23), defBody (top 23), defScope (top 23)⟩
def d3_is_from : He.FnD := ⟨("is_from", none), "is_from", "is_from", defArgs (top 24), defBody (top 24), defScope (top 24)⟩
def d3_is_road : He.FnD := ⟨("is_road", none), "is_road", "is_road", defArgs (top 48), defBody (top 48), defScope (top 48)⟩
def d3_bad_rows : He.FnD := ⟨("bad_rows", none), "bad_rows", "bad_rows", defArgs (top 49), defBody (top 49), defScope (top 49)⟩
def d3_near_rows : He.FnD := ⟨("near_rows", none), "near_rows", "near_rows", defArgs (top 55), defBody (top 55), defScope (top 55)⟩
def d3_turned_row : He.FnD := ⟨("turned_row", none), "turned_row", "turned_row", defArgs (top 56), defBody (top 56), defScope (top 56)⟩
def d3_turned_all : He.FnD := ⟨("turned_all", none), "turned_all", "turned_all", defArgs (top 57), defBody (top 57), defScope (top 57)⟩
def d3_far_paper : He.FnD := ⟨("far_paper", none), "far_paper", "far_paper", defArgs (top 58), defBody (top 58), defScope (top 58)⟩
def d3_law_deck : He.FnD := ⟨("_law_deck", none), "_law_deck", "_law_deck", defArgs (top 139), defBody (top 139), defScope (top 139)⟩
def d3_law_draw : He.FnD := ⟨("_law_draw", none), "_law_draw", "_law_draw", defArgs (top 140), defBody (top 140), defScope (top 140)⟩
def d3_law_roads : He.FnD := ⟨("_law_roads", none), "_law_roads", "_law_roads", defArgs (top 141), defBody (top 141), defScope (top 141)⟩
def d3_law_done : He.FnD := ⟨("_law_done", none), "_law_done", "_law_done", defArgs (top 142), defBody (top 142), defScope (top 142)⟩
def d3_law_pair : He.FnD := ⟨("_law_pair", none), "_law_pair", "_law_pair", defArgs (top 143), defBody (top 143), defScope (top 143)⟩
def d3_law_row_of : He.FnD := ⟨("_law_row_of", none), "_law_row_of", "_law_row_of", defArgs (top 144), defBody (top 144), defScope (top 144)⟩
def d3_law_near : He.FnD := ⟨("_law_near", none), "_law_near", "_law_near", defArgs (top 145), defBody (top 145), defScope (top 145)⟩
def d3_law : He.FnD := ⟨("law", none), "law", "law", defArgs (top 146), defBody (top 146), defScope (top 146)⟩
def fn3_0 : List He.FnD := [d3_NoRoad_init, d3_Same_init, d3_Roads_init, d3_Roads_up, d3_Roads_pair_of, d3_Roads_fall, d3_Roads_rise, d3_Roads_neighbours, d3_Fars_init, d3_Fars_rows, d3_Ground_init, d3_Ground_told, d3_Ground_drops, d3_Ground_forget, d3_Ground_fall, d3_Ground_rise, d3_Wraps_init, d3_Wraps_tell_drops, d3_World_init, d3_World_ground, d3_World_look_open, d3_World_done, d3_World_fall, d3_World_rise, d3_is_whole, d3_is_from, d3_is_road, d3_bad_rows, d3_near_rows, d3_turned_row]
def fn3_1 : List He.FnD := [d3_turned_all, d3_far_paper, d3_law_deck, d3_law_draw, d3_law_roads, d3_law_done, d3_law_pair, d3_law_row_of, d3_law_near, d3_law]
def fn3 : List He.FnD := fn3_0 ++ fn3_1
def fa3_0 : List He.Fa := [.int "HOUSES" 8, .int "ROADS" 14, .int "DELAY" 2, .int "NARROW" 16, .int "WIDE" 80, .int "FAR" 24, .int "DEEDS_bounds" 300, .glo "NetError", .glo "BadGround", .glo "NoRoad", .noat "NoRoad" "a", .noat "NoRoad" "b", .meth "NoRoad" "__init__", .glo "Same", .meth "Same" "__init__", .glo "Roads", .cls "Roads", .mkr "Roads", .noat "Roads" "many", .noat "Roads" "lines", .noat "Roads" "fallen", .meth "Roads" "__init__", .meth "Roads" "up", .meth "Roads" "pair_of", .meth "Roads" "fall", .meth "Roads" "rise", .meth "Roads" "neighbours", .glo "Fars", .cls "Fars", .mkr "Fars"]
def fa3_1 : List He.Fa := [.noat "Fars" "lanes", .noat "Fars" "grid", .meth "Fars" "__init__", .meth "Fars" "rows", .glo "Frame", .cls "Frame", .mkr "Frame", .noat "Frame" "number", .noat "Frame" "letter", .noat "Frame" "first", .noat "Frame" "signs", .noat "Frame" "hops", .noat "Frame" "start", .noat "Frame" "end", .noat "Frame" "left", .glo "Heap", .cls "Heap", .mkr "Heap", .glo "Ground", .cls "Ground", .mkr "Ground", .noat "Ground" "lanes", .noat "Ground" "known", .noat "Ground" "clock", .noat "Ground" "running", .noat "Ground" "moving", .noat "Ground" "piles", .noat "Ground" "made_letters", .noat "Ground" "made_frames", .noat "Ground" "lost"]
def fa3_2 : List He.Fa := [.meth "Ground" "__init__", .meth "Ground" "told", .meth "Ground" "drops", .meth "Ground" "forget", .meth "Ground" "fall", .meth "Ground" "rise", .glo "Wraps", .cls "Wraps", .mkr "Wraps", .noat "Wraps" "below", .noat "Wraps" "kept_rooms", .noat "Wraps" "kept_gates", .noat "Wraps" "made_rooms", .noat "Wraps" "made_gates", .noat "Wraps" "log_rows", .noat "Wraps" "borne", .noat "Wraps" "told_drops", .meth "Wraps" "__init__", .meth "Wraps" "tell_drops", .glo "World", .cls "World", .mkr "World", .noat "World" "net", .noat "World" "stood", .noat "World" "telling", .noat "World" "batch_rows", .meth "World" "__init__", .meth "World" "ground", .meth "World" "look_open", .meth "World" "done"]
def fa3_3 : List He.Fa := [.meth "World" "fall", .meth "World" "rise", .glo "is_whole", .keep "is_whole", .glo "is_from", .keep "is_from", .glo "is_road", .keep "is_road", .glo "bad_rows", .keep "bad_rows", .glo "near_rows", .keep "near_rows", .glo "turned_row", .keep "turned_row", .glo "turned_all", .keep "turned_all", .glo "far_paper", .keep "far_paper", .glo "_law_deck", .keep "_law_deck", .glo "_law_draw", .keep "_law_draw", .glo "_law_roads", .keep "_law_roads", .glo "_law_done", .keep "_law_done", .glo "_law_pair", .keep "_law_pair", .glo "_law_row_of", .keep "_law_row_of"]
def fa3_4 : List He.Fa := [.glo "_law_near", .keep "_law_near", .glo "law", .keep "law", .free "abs", .free "all", .free "bool", .free "dict", .free "enumerate", .free "int", .free "isinstance", .free "len", .free "list", .free "min", .free "range", .free "repr", .free "set", .free "sorted", .free "str", .free "tuple", .free "zip"]
def fa3 : List He.Fa := fa3_0 ++ fa3_1 ++ fa3_2 ++ fa3_3 ++ fa3_4
def na3_0 : List PySem.Str := ["_wall", "HOUSES", "ROADS", "DELAY", "NARROW", "WIDE", "FAR", "HOPS", "COUNT", "AGE", "NOTES", "JOIN", "WEAVE", "ROOMS", "NUMBERS", "HANDS", "GATES", "TEXT", "DEEDS_bounds", "BEATS", "BATCH", "NONE", "is_whole", "is_from", "NetError", "BadGround", "BadWeave", "NoHead", "BadRoom", "NoRoom"]
def na3_1 : List PySem.Str := ["NoNumber", "Taken", "NoHand", "NoPlace", "InUse", "Full", "BadText", "BadGate", "NoGate", "NoRoad", "Same", "Long", "Busy", "BadDeeds", "Broken", "is_road", "bad_rows", "Roads", "cut", "Heap", "near_rows", "turned_row", "turned_all", "far_paper", "Fars", "LOSE", "DOUBLE", "HOLD", "Frame", "Ground"]
def na3_2 : List PySem.Str := ["TAKES", "MORE", "is_deed", "is_deeds", "put_room_by", "step_by", "close_room_by", "enter_by", "leave_by", "move_by", "send_by", "put_gate_by", "close_gate_by", "fall_by", "rise_by", "DEEDS_batches", "call", "KINDS", "HEARD", "AGAIN", "LATE", "Filter", "Loose", "Once", "Turn", "filter_of", "OUT", "INTO", "are_unlike", "is_number"]
def na3_3 : List PySem.Str := ["is_pair", "are_pairs", "is_rule", "are_rules", "hand_of", "alias_of", "may_pass", "Table", "Notes", "HAND", "ALIAS", "Being", "Room", "LEAST", "GREATEST", "BARRED", "is_text", "view_of_edge", "view_of_room", "view_of", "KIND_WORDS", "FIGURES", "MANY", "GREATEST_NUMBER", "LONGEST", "written", "number_of", "read", "PLAIN", "WRAPPED"]
def na3_4 : List PySem.Str := ["Wraps", "World", "_law_deck", "_law_draw", "_law_roads", "_law_done", "_law_pair", "_law_row_of", "_law_near"]
def na3 : List PySem.Str := na3_0 ++ na3_1 ++ na3_2 ++ na3_3 ++ na3_4
abbrev R3 : PySem.W.OpenRow := PySem.W.OpenLaw.row PySem.Challenge.rw_wrapnets_k02_roads_fall_and_rise
abbrev q3 : Program := PySem.W.view R3.prog [146]
def xs3_0 : List PySem.Str := ["Roads", "Fars", "Frame", "Heap", "Ground", "Wraps", "World", "is_whole", "is_from", "is_road", "bad_rows", "near_rows", "turned_row", "turned_all", "far_paper", "_law_deck", "_law_draw", "_law_roads", "_law_done", "_law_pair", "_law_row_of", "_law_near", "law", "NetError", "BadGround", "NoRoad", "Same"]
def xs3 : List PySem.Str := xs3_0
def ms3_0 : List PySem.Str := ["__init__", "done", "drops", "fall", "forget", "ground", "look_open", "neighbours", "pair_of", "rise", "rows", "tell_drops", "told", "up"]
def ms3 : List PySem.Str := ms3_0
def xb3 : List (PySem.W.Frag → Bool) := [bNE "NetError", bCg, bTk, bSub "NoRoad", bTyp "NoRoad", bXL "NoRoad" "NetError", bFnd "NoRoad" "__setattr__" (some (.builtin "object.__setattr__")), bKeep "NoRoad", bTf "NoRoad", bFnd "NoRoad" "__getattribute__" (some (.builtin "BaseException.__getattribute__")), bFnd "NoRoad" "__getattr__" none, bHd "NoRoad", bFnd "NoRoad" "__class__" (some (.builtin "object.__class__")), bMo "NoRoad", bSn "NoRoad" "NetError", bSub "Same", bTyp "Same", bXL "Same" "NetError", bFnd "Same" "__setattr__" (some (.builtin "object.__setattr__")), bKeep "Same", bTf "Same", bFnd "Same" "__getattribute__" (some (.builtin "BaseException.__getattribute__")), bFnd "Same" "__getattr__" none, bHd "Same", bFnd "Same" "__class__" (some (.builtin "object.__class__")), bMo "Same", bSn "Same" "NetError", (fun K : PySem.W.Frag => decide (PySem.W.exmOne K (.ref (He.ga K "Same")) (.ref (He.ga K "Same")) = some true)), (fun K : PySem.W.Frag => decide (PySem.W.exmOne K (.ref (He.ga K "NoRoad")) (.ref (He.ga K "Same")) = some false)), (fun K : PySem.W.Frag => decide (PySem.W.exmOne K (.ref (He.ga K "NoRoad")) (.ref (He.ga K "NoRoad")) = some true)), (fun K : PySem.W.Frag => decide (PySem.W.kitOne K (.ref (He.ga K "Same")) (.ref (He.ga K "NetError")) = some true)), (fun K : PySem.W.Frag => decide (PySem.W.kitOne K (.ref (He.ga K "NoRoad")) (.ref (He.ga K "NetError")) = some true)), (fun K : PySem.W.Frag => decide (PySem.W.kitAny K (.ref (He.ga K "Same")) [.ref (He.ga K "NoRoad"), .ref (He.ga K "BadGround")] = some false)), (fun K : PySem.W.Frag => decide (PySem.W.kitAny K (.ref (He.ga K "NoRoad")) [.ref (He.ga K "Same"), .ref (He.ga K "BadGround")] = some false))]
abbrev hk3 : PySem.W.Hook := hookX xs3 ms3 xb3 fa3 fn3
def ob3 (s : PySem.W.SharedT) : (Bool × He.Al) := obsXN xs3 ms3 xb3 fa3 fn3 (HandSHeadRun.getT s)
theorem ob3_eq (s : PySem.W.SharedT) : ob3 s = hk3.obs s.abs := obsXN_eq (HandSHeadRun.getT_eq s)
open PySem PySem.W PySem.Calls PyProof.Rows in
set_option maxHeartbeats 0 in
theorem c1_f (w : World) (os : PySem.OsState) : endC (stQ R3 (w.withFollow "special-get-raises" false)) 0 8000 R3.prog (w.withFollow "special-get-raises" false) os = true := by kernel_rfl
open PySem PySem.W PySem.Calls PyProof.Rows in
set_option maxHeartbeats 0 in
theorem c2_f (w : World) (os : PySem.OsState) : endC (stQ R3 (w.withFollow "special-get-raises" false)) 8000 12000 R3.prog (w.withFollow "special-get-raises" false) os = true := by kernel_rfl
open PySem PySem.W PySem.Calls PyProof.Rows in
set_option maxHeartbeats 0 in
theorem l1_f (w : World) (os : PySem.OsState) : (endT (stQ R3 (w.withFollow "special-get-raises" false)) 20000 R3.prog (w.withFollow "special-get-raises" false) os).map (fun x => HandSHeadRun.looksF R3.prog (boot_heap (w.withFollow "special-get-raises" false).params) x.abs) = some true := by kernel_rfl
open PySem PySem.W PySem.Calls PyProof.Rows in
set_option maxHeartbeats 0 in
theorem l2_f (w : World) (os : PySem.OsState) : (endT (stQ R3 (w.withFollow "special-get-raises" false)) 20000 R3.prog (w.withFollow "special-get-raises" false) os).map (fun x => HandSHeadRun.seenQ q3 na3 (PySem.importedModules R3.prog.main.body) (fun s => PySem.W.xlAt q3 [] s && PySem.W.recOk R3.toRowW.records s) x.abs) = some (PySem.W.openGood q3 na3) := by kernel_rfl
open PySem PySem.W PySem.Calls PyProof.Rows in
set_option maxHeartbeats 0 in
theorem l3_f (w : World) (os : PySem.OsState) : (endT (stQ R3 (w.withFollow "special-get-raises" false)) 20000 R3.prog (w.withFollow "special-get-raises" false) os).map (fun x => ob3 x) = some (hk3.val (w.withFollow "special-get-raises" false)) := by kernel_rfl
open PySem PySem.W PySem.Calls PyProof.Rows in
set_option maxHeartbeats 0 in
theorem c1_t (w : World) (os : PySem.OsState) : endC (stQ R3 (w.withFollow "special-get-raises" true)) 0 8000 R3.prog (w.withFollow "special-get-raises" true) os = true := by kernel_rfl
open PySem PySem.W PySem.Calls PyProof.Rows in
set_option maxHeartbeats 0 in
theorem c2_t (w : World) (os : PySem.OsState) : endC (stQ R3 (w.withFollow "special-get-raises" true)) 8000 12000 R3.prog (w.withFollow "special-get-raises" true) os = true := by kernel_rfl
open PySem PySem.W PySem.Calls PyProof.Rows in
set_option maxHeartbeats 0 in
theorem l1_t (w : World) (os : PySem.OsState) : (endT (stQ R3 (w.withFollow "special-get-raises" true)) 20000 R3.prog (w.withFollow "special-get-raises" true) os).map (fun x => HandSHeadRun.looksF R3.prog (boot_heap (w.withFollow "special-get-raises" true).params) x.abs) = some true := by kernel_rfl
open PySem PySem.W PySem.Calls PyProof.Rows in
set_option maxHeartbeats 0 in
theorem l2_t (w : World) (os : PySem.OsState) : (endT (stQ R3 (w.withFollow "special-get-raises" true)) 20000 R3.prog (w.withFollow "special-get-raises" true) os).map (fun x => HandSHeadRun.seenQ q3 na3 (PySem.importedModules R3.prog.main.body) (fun s => PySem.W.xlAt q3 [] s && PySem.W.recOk R3.toRowW.records s) x.abs) = some (PySem.W.openGood q3 na3) := by kernel_rfl
open PySem PySem.W PySem.Calls PyProof.Rows in
set_option maxHeartbeats 0 in
theorem l3_t (w : World) (os : PySem.OsState) : (endT (stQ R3 (w.withFollow "special-get-raises" true)) 20000 R3.prog (w.withFollow "special-get-raises" true) os).map (fun x => ob3 x) = some (hk3.val (w.withFollow "special-get-raises" true)) := by kernel_rfl
theorem run3 (w : World) : HandSHeadRun.RunEq R3 q3 hk3 ob3 (8000 + 12000) na3 w := PySem.W.byRow2 "special-get-raises" (P := HandSHeadRun.RunEq R3 q3 hk3 ob3 (8000 + 12000) na3) (fun w => run_of (H := hk3) (ob := ob3) 8000 12000 (c1_f w) (c2_f w) (l1_f w) (l2_f w) (l3_f w)) (fun w => run_of (H := hk3) (ob := ob3) 8000 12000 (c1_t w) (c2_t w) (l1_t w) (l2_t w) (l3_t w)) w
end Wn

namespace Wn
open PySem PySem.Spec PyProof.Rows L2
/-- enumerate of a text: each sign in a new pair -/
def ItsE (x : Str) : It :=
  ⟨fun i _ => i < x.cps.size, fun i H v H' => ∃ T c, v = .ref T ∧ H T = none ∧ H' = upd H T (.tup [.int (i : Nat), .str ⟨#[c]⟩]) ∧ x.cps[i]? = some c, fun i _ => x.cps.size ≤ i⟩
theorem turn_enumS {P : Program} {w : World} {K : PySem.W.Frag} {elts : List Expr} {kk : Nat} {tpos : Pos} (e it : Addr) (x : Str) (t : Tok) (ty : String) (hty : ty = "str_ascii_iterator" ∨ ty = "str_iterator") :
    Turn P w K (.Tuple elts kk tpos) (ItsE x) [e, it] e (fun i h => (∃ old, IsEnum h e it ((i : Nat) : Int) old) ∧ h.IsStrIter it ty x t i ∧ e ≠ it) where
  mem := by simp
  obj := fun i h st b hb => by
    obtain ⟨⟨old, he⟩, ⟨o, ho, hc, hd⟩, _⟩ := st
    have e' : b = e ∨ b = it := by simpa using hb
    rcases e' with z | z
    · rw [z]; exact ⟨_, he, fun v q => nomatch q⟩
    · rw [z]; exact ⟨o, ho, fun v q => by rw [hd] at q; cases q⟩
  keep := fun i h h' st k => let ⟨⟨old, he⟩, ⟨o, ho, r⟩, hne⟩ := st; ⟨⟨old, k e (by simp) _ he⟩, ⟨o, k it (by simp) o ho, r⟩, hne⟩
  item := by
    intro X hP hw hK hc i pins s σ H E I hf st hg
    subst hP hw hK
    obtain ⟨⟨old, he⟩, hit, hne⟩ := st
    have hh : X.A.in1.handled = none := I.ok.hd hc
    have hel : e < s.heap.objs.size := Heap.lt_size he
    have hil : it < s.heap.objs.size := by obtain ⟨_, q, _⟩ := hit; exact Heap.lt_size q
    have D : Draws X.prog X.w X.A.in1 it [it] x.cps.size (fun i v => ∃ c u, x.cps[i]? = some c ∧ v = .str ⟨#[c]⟩ u) (fun i h => h.IsStrIter it ty x t i) := by
      rcases hty with z | z
      · rw [z]; exact Draws.strAscii hh it x t
      · rw [z]; exact Draws.strWide hh it x t
    refine wpAny_pyNext_enum_itemD D he hit hg hne (by simpa using hne) fun v h' tk hv ho hit' hT hsz hk => ?_
    obtain ⟨c, u, hcx, rfl⟩ := hv
    refine ⟨_, rfl, wpAny_letOwnedTupleGo_enum (s := { s with heap := h', toks := tk + 1 }) ho fun h'' he' sb => ?_⟩
    have hT2 : h''.get? s.heap.objs.size = some { cls := .type "tuple", data := .seq #[.int i tk, .str ⟨#[c]⟩ u] } := (sb.2 _ (Nat.ne_of_gt hel)).trans hT
    have new : ObjOk X.prog X.w (upd H s.heap.objs.size (.tup [.int (i : Nat), .str ⟨#[c]⟩])) h'' s.heap.objs.size (.tup [.int (i : Nat), .str ⟨#[c]⟩]) :=
      ⟨by show 2 ≤ sizeLine; decide, [.int i tk, .str ⟨#[c]⟩ u], .cons ⟨_, rfl⟩ (.cons ⟨_, rfl⟩ .nil), ⟨_, hT2, rfl, _, rfl⟩⟩
    have I1 : Inv X pins σ (upd H s.heap.objs.size (.tup [.int (i : Nat), .str ⟨#[c]⟩])) { s with heap := h'', toks := tk + 1 } :=
      I.turnedNew (ch := [e, it]) (fun b ob hb q => (sb.2 b (fun z => hb (by simp [z]))).trans (hk b ob (fun z => hb (by simp [z])) (fun z => hb (by simp [z])) q)) hf (Nat.le_refl _) new
    refine ⟨.ref s.heap.objs.size, _, I1, rfl, ⟨_, c, rfl, I.hok.fresh (Nat.le_refl _), rfl, hcx⟩, ⟨⟨.str ⟨#[c]⟩ u, ?_⟩, ?_, hne⟩, fun b hb => ?_⟩
    · have e1 : ((i + 1 : Nat) : Int) = (i : Int) + 1 := by omega
      rw [e1]; exact he'
    · obtain ⟨o, q, r⟩ := hit'
      exact ⟨o, (sb.2 it (Ne.symm hne)).trans q, r⟩
    · have hb' : b < s.heap.objs.size := by
        have e' : b = e ∨ b = it := by simpa using hb
        rcases e' with z | z
        · rw [z]; exact hel
        · rw [z]; exact hil
      rw [upd_ne (Nat.ne_of_lt hb')]
      exact (hf b hb).1
  done := by
    intro X hP hw hK hc i pins s σ H E I hf st hg
    subst hP hw hK
    obtain ⟨⟨old, he⟩, hit, hne⟩ := st
    have hh : X.A.in1.handled = none := I.ok.hd hc
    obtain ⟨f0, f1, f2, f3, f4, f5⟩ := hf it (by simp)
    have D : Draws X.prog X.w X.A.in1 it [it] i (fun i v => False) (fun j h => j = i ∧ h.IsStrIter it ty x t i) := by
      refine ⟨fun _ _ st => let ⟨o, ho, _⟩ := st.2; ⟨o, ho⟩, fun _ _ _ st hk => let ⟨o, ho, r⟩ := st.2; ⟨st.1, o, hk it (by simp) o ho, r⟩, fun j s Q E hj st => absurd st.1 (Nat.ne_of_lt hj), fun s Q E st hE => ?_⟩
      have hx : x.cps[i]? = none := Array.getElem?_eq_none hg
      have st2 := st.2
      rcases hty with z | z
      · rw [z] at st2; exact wpAny_nextOf_ascii_end hh st2 hx hE
      · rw [z] at st2; exact wpAny_nextOf_wide_end hh st2 hx hE
    exact wpAny_pyNext_enum_endD D he ⟨rfl, hit⟩ fun h' eb => ⟨rfl, I.turned (t' := s.toks) (fun b o hb q => eb b o hb q) f0 f1 f3 f4 f5⟩
  self := fun A i s Q E st h => let ⟨⟨_, he⟩, _⟩ := st; wpAny_pyIter_enum he h
def iEnumS (ta : TA) : TI := fun σ H R => ta σ H fun vs H1 => ∃ x, vs = [.str x] ∧ R (ItsE x) H1
theorem pi_enumS {X : Cx} {e : Expr} {ta : TA} {p pos tpos : Pos} {elts : List Expr} {kk : Nat} (hg : Gl X "enumerate") (hm : X.mg "enumerate" = none) (ha : PA X [e] ta) (hs : starEach [e] X.env = [(false, eval e X.env)] := by rfl) :
    PI X (.Tuple elts kk tpos) (.Call (.Name "enumerate" p) [e] [] pos) (iEnumS ta) := by
  refine ⟨fun pins s σ H R I h => ?_⟩
  refine Call_ (ld_blt I hg hm boot_enumerate (PyProof.Rows.callWith_type1 (thn (ha.run pos pins s σ H _ I h) fun us s1 ⟨vs, H1, I1, r1, q1⟩ => ?_) hs rfl))
  obtain ⟨x, ex, q⟩ := q1
  subst ex
  cases r1 with
  | cons r rr =>
    cases rr
    obtain ⟨t, rfl⟩ := r
    refine call_enumerate_str fun h' he hit hsz hk => wpAny_pyIter_enum he ?_
    have I2 : Inv X pins σ H1 { s1 with heap := h' } := I1.kept (t' := s1.toks) hk
    refine ⟨s1.heap.objs.size + 1, [s1.heap.objs.size + 1, s1.heap.objs.size], _, _, H1, rfl, I2, turn_enumS (s1.heap.objs.size + 1) s1.heap.objs.size x t (strIterType x) ?_, ⟨⟨.none, he⟩, hit, Nat.succ_ne_self _⟩, fun b hb => ?_, q⟩
    · unfold strIterType
      split
      · exact .inl rfl
      · exact .inr rfl
    have e' : b = s1.heap.objs.size + 1 ∨ b = s1.heap.objs.size := by simpa using hb
    have hle : s1.heap.objs.size ≤ b := by
      rcases e' with z | z
      · rw [z]; exact Nat.le_add_right _ _
      · rw [z]; exact Nat.le_refl _
    exact I1.fpOk hle (I1.hok.fresh hle)
theorem walk_enumS {x : Str} : Walk (ItsE x) x.cps.size (fun _ => True) (fun i H v H' => ∃ T c, v = .ref T ∧ H T = none ∧ H' = upd H T (.tup [.int (i : Nat), .str ⟨#[c]⟩]) ∧ x.cps[i]? = some c) :=
  ⟨fun _ _ hi _ => hi, fun _ _ => Nat.le_refl _, fun _ _ _ _ _ _ y => y⟩
end Wn

namespace Wn
open PySem L2
open SX (S S_len S_cat S_beq_eq join_S)
theorem joinK {X : Cx} {K : PySem.W.Frag} {o e : Expr} {to te : TE} {apos pos : Pos} (hK : X.K = K) (ho : PE X o to) (he : PE X e te) (hs : starEach [e] X.env = [(false, eval e X.env)] := by rfl) (hbase : attributeBase o "join" X.env (eval o X.env) = eval o X.env := by rfl) (hline : (apos.endLine == pos.line) = true := by rfl) :
    PE X (.Call (.Attribute o "join" apos) [e] [] pos) (tM1 (fun x xs H Q => ∃ a p, ∃ ys : List Str, x = .str a ∧ xs = [.ref p] ∧ (SqL K H p (ys.map V.str) ∨ SqT K H p (ys.map V.str)) ∧
      (ys.map (·.length)).sum + ys.length * a.length ≤ 16777216 ∧ Q (.str (Txt.join a ys)) H) to te) := hK ▸ pe_join ho he hs hbase hline
theorem drop_min {cs : List Nat} {a b : Nat} : (cs.drop (min a cs.length)).take (min b cs.length - min a cs.length) = (cs.drop a).take (b - a) := by
  by_cases h : a ≤ cs.length
  · rw [Nat.min_eq_left h]
    by_cases h2 : b ≤ cs.length
    · rw [Nat.min_eq_left h2]
    · rw [Nat.min_eq_right (by omega), List.take_of_length_le (by rw [List.length_drop]; exact Nat.le_refl _), List.take_of_length_le (by rw [List.length_drop]; omega)]
  · rw [show min a cs.length = cs.length by omega, List.drop_of_length_le (Nat.le_refl _), List.drop_of_length_le (show cs.length ≤ a by omega), List.take_nil, List.take_nil]
theorem cutS_S (cs : List Nat) (a b : Nat) : cutS (S cs) (some (a : Int)) (some (b : Int)) = S ((cs.drop a).take (b - a)) := by
  unfold cutS
  rw [HT.sIx_nat, HT.sIx_nat, S_len, drop_min]
theorem joinL_nil : ∀ ls : List (List Nat), TL.joinL [] ls = ls.flatten
  | [] => rfl
  | [p] => by
    show p = List.flatten [p]
    simp
  | p :: q :: r => by
    show p ++ ([] ++ TL.joinL [] (q :: r)) = _
    rw [List.nil_append, joinL_nil (q :: r)]
    rfl
/-- a list of signs, joined -/
theorem join_signs (cs : List Nat) : Txt.join (S []) (cs.map fun c => S [c]) = S cs := by
  rw [show (cs.map fun c => S [c]) = (cs.map fun c => [c]).map S by rw [List.map_map]; rfl, join_S, joinL_nil]
  congr 1
  induction cs with
  | nil => rfl
  | cons c cs ih =>
    show [c] ++ (cs.map fun c => [c]).flatten = c :: cs
    rw [ih]
    rfl
theorem sum_signs (cs : List Nat) : (((cs.map fun c => S [c]).map (·.length)).sum : Nat) = cs.length := by
  induction cs with
  | nil => rfl
  | cons c cs ih =>
    rw [List.map_cons, List.map_cons, List.sum_cons, ih, List.length_cons, S_len, List.length_singleton]
    omega
def OkSign (c : Nat) : Prop := 32 ≤ c ∧ c ≤ 126 ∧ c ≠ 37
def spSign : Sp := fun vs H Q _ => ∃ (d f : Addr) (n : Int), vs = [.ref d] ∧ Deck H d f n ∧ n < 2 ^ 60 ∧
  ∀ (c : Nat) (H' : Hp), OkSign c → Kp [d] H H' → Deck H' d f (n + 1) → Q (.str (S [c])) H'
def spText : Sp := fun vs H Q _ => ∃ (d f : Addr) (n most : Int), vs = [.ref d, .int most] ∧ Deck H d f n ∧ n < 2 ^ 59 ∧ 0 ≤ most ∧ most ≤ 100000 ∧
  ∀ (cs : List Nat) (H' : Hp), (cs.length : Int) ≤ most → (∀ c ∈ cs, OkSign c) → Kp [d] H H' → Deck H' d f (n + 1 + most) → Q (.str (S cs)) H'
end Wn

namespace Wn
open PySem L2
/-- a new tuple is appended to a list of data -/
theorem push_tup {K : PySem.W.Frag} {G : Hp} {t fa : Addr} {zs vs : List V} {U ds : List PyData} (hG : G fa = some (.lst zs)) (rG : RpL K G U zs) (nt : G t = none) (rv : RpL K G ds vs) :
    upd G t (.tup vs) fa = some (.lst zs) ∧ LstAt K (upd (upd G t (.tup vs)) fa (.lst (zs ++ [.ref t]))) fa (U ++ [.tuple ds]) ∧ TK G (upd (upd G t (.tup vs)) fa (.lst (zs ++ [.ref t]))) ∧ Kp [fa] G (upd (upd G t (.tup vs)) fa (.lst (zs ++ [.ref t]))) := by
  have s6 : Same G (upd G t (.tup vs)) := (L2.Same.refl _).new nt
  have rt : Rp K (upd G t (.tup vs)) (.tuple ds) (.ref t) := Rp.tup upd_same (RpL.tk (TK.of s6) _ _ rv)
  have tE : TK (upd G t (.tup vs)) (upd (upd G t (.tup vs)) fa (.lst (zs ++ [.ref t]))) := (TK.refl _).wr (s6 _ _ hG) rfl
  exact ⟨s6 _ _ hG, ⟨_, upd_same, RpL.tk tE _ _ (RpL.app (RpL.tk (TK.of s6) _ _ rG) (RpL.cons rt RpL.nil))⟩, (TK.of s6).trans tE, (Kp.of s6).wr (List.mem_singleton.mpr rfl)⟩
/-- a thing that stands is appended -/
theorem push_old {K : PySem.W.Frag} {G : Hp} {fa : Addr} {zs : List V} {v : V} {U : List PyData} {d : PyData} (hG : G fa = some (.lst zs)) (rG : RpL K G U zs) (rv : Rp K G d v) :
    LstAt K (upd G fa (.lst (zs ++ [v]))) fa (U ++ [d]) ∧ TK G (upd G fa (.lst (zs ++ [v]))) ∧ Kp [fa] G (upd G fa (.lst (zs ++ [v]))) := by
  have tE : TK G (upd G fa (.lst (zs ++ [v]))) := (TK.refl _).wr hG rfl
  exact ⟨⟨_, upd_same, RpL.tk tE _ _ (RpL.app rG (RpL.cons rv RpL.nil))⟩, tE, (Kp.refl _ _).wr (List.mem_singleton.mpr rfl)⟩
/-- flat data: the very values -/
theorem RpL.flat {β : Type} {K : PySem.W.Frag} {H : Hp} {f : β → PyData} {g : β → V} (h : ∀ b v, Rp K H (f b) v → v = g b) : ∀ {L : List β} {ys : List V}, RpL K H (L.map f) ys → ys = L.map g
  | [], ys, r => by
    rw [List.map_nil] at r
    unfold RpL at r
    exact r
  | b :: L, ys, r => by
    rw [List.map_cons] at r
    unfold RpL at r
    obtain ⟨v, t, rfl, h1, h2⟩ := r
    rw [h b v h1, RpL.flat h h2]
    rfl
theorem Rp.bool_eq {K : PySem.W.Frag} {H : Hp} {b : Bool} {v : V} (r : Rp K H (.bool b) v) : v = .bl b := by
  unfold Rp at r
  exact r
theorem Rp.str_eq {K : PySem.W.Frag} {H : Hp} {z : Str} {v : V} (r : Rp K H (.str z) v) : v = .str z := by
  unfold Rp at r
  exact r
theorem Rp.int_eq {K : PySem.W.Frag} {H : Hp} {i : Int} {v : V} (r : Rp K H (.int i) v) : v = .int i := by
  unfold Rp at r
  exact r
theorem Rp.bool {K : PySem.W.Frag} {H : Hp} {b : Bool} : Rp K H (.bool b) (.bl b) := by
  unfold Rp
  rfl
mutual
theorem Rp.dp {K : PySem.W.Frag} {H : Hp} : ∀ (d : PyData) (v : V), Rp K H d v → Dp K H v d
  | .none, _, h => by
    unfold Rp at h
    subst h
    exact .non
  | .bool b, _, h => by
    unfold Rp at h
    subst h
    exact .bl b
  | .int i, _, h => by
    unfold Rp at h
    subst h
    exact .int i
  | .str s, _, h => by
    unfold Rp at h
    subst h
    exact .str s
  | .tuple ds, v, h => by
    unfold Rp at h
    obtain ⟨a, xs, rfl, hs, hl⟩ := h
    exact .tup hs (RpL.dp ds xs hl)
  | .list _, _, h => by
    unfold Rp at h
    exact h.elim
  | .dict _, _, h => by
    unfold Rp at h
    exact h.elim
theorem RpL.dp {K : PySem.W.Frag} {H : Hp} : ∀ (ds : List PyData) (xs : List V), RpL K H ds xs → DpAll K H xs ds
  | [], xs, h => by
    unfold RpL at h
    subst h
    exact .nil
  | d :: ds, xs, h => by
    unfold RpL at h
    obtain ⟨v, r, rfl, h1, h2⟩ := h
    exact .cons (Rp.dp d v h1) (RpL.dp ds r h2)
end
end Wn

namespace Wn
open PySem L2
/-! ### backward steps over heaps: used by the macros of tools/auto.txt -/
section
variable {K : PySem.W.Frag} {H H' G : Hp} {a b : Addr} {o u : HO} {M : List Addr}
theorem g_same (s : Same H H') (h : H a = some o) : H' a = some o := s _ _ h
theorem g_kp (k : Kp M H H') (n : a ∉ M) (h : H a = some o) : H' a = some o := k _ _ n h
theorem g_tk {xs : List V} (t : TK H H') (h : H a = some (.tup xs)) : H' a = some (.tup xs) := t.1 _ _ h
theorem g_upd (n : b ≠ a) (h : H b = some u) : upd H a o b = some u := (upd_ne n).trans h
theorem n_same (s : Same H H') (h : H' a = none) : H a = none := by
  cases e : H a with
  | none => rfl
  | some o =>
    rw [s _ _ e] at h
    cases h
theorem n_kp (k : Kp M H H') (n : a ∉ M) (h : H' a = none) : H a = none := by
  cases e : H a with
  | none => rfl
  | some o =>
    rw [k _ _ n e] at h
    cases h
theorem n_upd (h : upd H a o b = none) : H b = none := by
  unfold upd at h
  split at h
  · cases h
  · exact h
theorem ne_fr (h : H b = none) (h' : H a = some o) : a ≠ b := ne_of_none h' h
theorem ne_fr' (h : H a = none) (h' : H b = some o) : a ≠ b := (ne_of_none h' h).symm
theorem ne_kd (h : H a = some o) (h' : H b = some u) (d : o ≠ u) : a ≠ b := ne_of h h' d
theorem ne_upd (h : upd H a o b = none) : b ≠ a := by
  intro e
  subst e
  rw [upd_same] at h
  cases h
theorem t_tk (b : TK G H') (a : TK H G) : TK H H' := a.trans b
theorem t_same (b : Same G H') (a : TK H G) : TK H H' := a.trans (TK.of b)
theorem t_new (hp : G a = none) (t : TK H G) : TK H (upd G a o) := t.new hp
theorem t_wr (hp : G a = some u) (hu : Wrt u = true) (t : TK H G) : TK H (upd G a o) := t.wr hp hu
theorem s_same (b : Same G H') (a : Same H G) : Same H H' := a.trans b
theorem s_new (hp : G a = none) (s : Same H G) : Same H (upd G a o) := s.new hp
theorem s_wrn (hp : H a = none) (s : Same H G) : Same H (upd G a o) := s.wrn hp
theorem k_kp (b : Kp M G H') (a : Kp M H G) : Kp M H H' := a.trans b
theorem k_kpm {M' : List Addr} (b : Kp M' G H') (h : ∀ x ∈ M', x ∈ M ∨ H x = none) (a : Kp M H G) : Kp M H H' := fun c o hc e => b c o (fun z => (h c z).elim hc fun n => by rw [n] at e; cases e) (a c o hc e)
theorem k_same (b : Same G H') (a : Kp M H G) : Kp M H H' := a.trans (Kp.of b)
theorem k_new (hp : G a = none) (s : Kp M H G) : Kp M H (upd G a o) := s.new hp
theorem k_wr (hp : a ∈ M) (s : Kp M H G) : Kp M H (upd G a o) := s.wr hp
theorem k_wrn (hp : H a = none) (s : Kp M H G) : Kp M H (upd G a o) := s.wrn hp
theorem am0 : ∀ x ∈ ([] : List Addr), x ∈ M ∨ H x = none := fun x h => by cases h
theorem am1 {N : List Addr} (h : a ∈ M ∨ H a = none) (r : ∀ x ∈ N, x ∈ M ∨ H x = none) : ∀ x ∈ a :: N, x ∈ M ∨ H x = none := fun x z => by
  rcases List.mem_cons.mp z with rfl | z
  · exact h
  · exact r x z
theorem Rp.tk' {d : PyData} {v : V} (h : Rp K H d v) (e : TK H H') : Rp K H' d v := Rp.tk e d v h
theorem RpL.tk' {ds : List PyData} {xs : List V} (h : RpL K H ds xs) (e : TK H H') : RpL K H' ds xs := RpL.tk e ds xs h
theorem nin0 : a ∉ ([] : List Addr) := fun z => by cases z
theorem ninc {N : List Addr} (h : a ≠ b) (r : a ∉ N) : a ∉ b :: N := fun z => by
  rcases List.mem_cons.mp z with z | z
  · exact h z
  · exact r z
/-! ### tests -/
theorem iteP {p : Prop} [Decidable p] {A B : Prop} (h1 : p → A) (h2 : ¬ p → B) : if decide p = true then A else B := by
  by_cases h : p
  · rw [if_pos (decide_eq_true h)]
    exact h1 h
  · rw [if_neg (by rw [decide_eq_false h]; exact Bool.false_ne_true)]
    exact h2 h
theorem iteNP {p : Prop} [Decidable p] {A B : Prop} (h1 : ¬ p → A) (h2 : p → B) : if (!decide p) = true then A else B := by
  by_cases h : p
  · rw [decide_eq_true h]
    exact h2 h
  · rw [decide_eq_false h]
    exact h1 h
theorem iteI {i j : Int} {A B : Prop} (h1 : i = j → A) (h2 : i ≠ j → B) : if decide (V.int i = V.int j) = true then A else B :=
  iteP (fun h => h1 (by injection h)) fun h => h2 fun z => h (by rw [z])
theorem iteNI {i j : Int} {A B : Prop} (h1 : i ≠ j → A) (h2 : i = j → B) : if (!decide (V.int i = V.int j)) = true then A else B :=
  iteNP (fun h => h1 fun z => h (by rw [z])) fun h => h2 (by injection h)
theorem iteS {i j : Str} {A B : Prop} (h1 : i = j → A) (h2 : i ≠ j → B) : if decide (V.str i = V.str j) = true then A else B :=
  iteP (fun h => h1 (by injection h)) fun h => h2 fun z => h (by rw [z])
theorem iteNS' {i j : Str} {A B : Prop} (h1 : i ≠ j → A) (h2 : i = j → B) : if (!decide (V.str i = V.str j)) = true then A else B :=
  iteNP (fun h => h1 fun z => h (by rw [z])) fun h => h2 (by injection h)
theorem iteB {b : Bool} {A B : Prop} (h1 : b = true → A) (h2 : b = false → B) : if b = true then A else B := by
  cases b with
  | true => exact h1 rfl
  | false => exact h2 rfl
theorem dV_int {i j : Int} : decide (V.int i = V.int j) = decide (i = j) := decide_eq_decide.mpr ⟨fun h => by injection h, fun h => by rw [h]⟩
theorem dV_str {i j : Str} : decide (V.str i = V.str j) = decide (i = j) := decide_eq_decide.mpr ⟨fun h => by injection h, fun h => by rw [h]⟩
/-- the item of a list at a number that was drawn -/
theorem at_of {xs : List V} {r : Int} (h0 : 0 ≤ r) (h1 : r < xs.length) : ∃ v, atI xs r = some v ∧ xs[r.toNat]? = some v := by
  have hj : r.toNat < xs.length := by omega
  have e : ((r.toNat : Nat) : Int) = r := by omega
  refine ⟨xs[r.toNat], ?_, List.getElem?_eq_getElem hj⟩
  have := atI_nat (xs := xs) (j := r.toNat) (v := xs[r.toNat]) (List.getElem?_eq_getElem hj)
  rw [e] at this
  exact this
end
end Wn
namespace Wn
open PySem L2
/-- a new thing: the heap behind it by a letter -/
theorem new_any {H : Hp} {p : Addr} {o : HO} (np : H p = none) : ∃ H', H' = upd H p o ∧ Same H H' ∧ H' p = some o := ⟨_, rfl, (L2.Same.refl _).new np, upd_same⟩
/-- a thing is written -/
theorem wr_any {H : Hp} {a : Addr} {o u : HO} (h : H a = some u) (hu : Wrt u = true) : ∃ H', H' = upd H a o ∧ Kp [a] H H' ∧ TK H H' ∧ H' a = some o := ⟨_, rfl, (Kp.refl _ _).wr (List.mem_singleton.mpr rfl), (TK.refl _).wr h hu, upd_same⟩
end Wn
namespace Wn
open PySem L2
/-- if a or b: the body once -/
theorem seq_or {c : TT} {t1 t2 u : TS} {D : Ends} {σ : L2.St} {H : Hp} (R : Hp → Prop) (body : ∀ H', R H' → t1 { D with nx := u D } σ H')
    (h1 : (∀ H', R H' → t1 { D with nx := u D } σ H') → c σ H fun b H1 => if b = true then t1 { D with nx := u D } σ H1 else t2 { D with nx := u D } σ H1) : tSeq (tIfS c t1 t2) u D σ H := h1 body
theorem new_tup {K : PySem.W.Frag} {H H' : Hp} {p : Addr} {vs : List V} {ds : List PyData} (np : H p = none) (e : upd H p (.tup vs) = H') (r : RpL K H ds vs) : Same H H' ∧ Rp K H' (.tuple ds) (.ref p) :=
  have s : Same H (upd H p (.tup vs)) := (L2.Same.refl _).new np
  e ▸ ⟨s, Rp.tup upd_same (RpL.tk (TK.of s) _ _ r)⟩
end Wn
namespace Wn
open PySem L2
/-! the same words under names that the macros' searches don't take -/
def SmB (H H' : Hp) : Prop := Same H H'
def TKB (H H' : Hp) : Prop := TK H H'
def KpB (M : List Addr) (H H' : Hp) : Prop := Kp M H H'
end Wn
namespace Wn
open PySem L2
theorem seq_set {te : TE} {g : TG} {u : TS} {D : Ends} {σ : L2.St} {H : Hp} (h : te σ H fun x H1 => g x σ H1 (u D)) : tSeq (tAsg te g) u D σ H := h
end Wn
namespace Wn
theorem iteYes {p : Prop} [Decidable p] {A B : Prop} (h : p) (a : A) : if decide p = true then A else B := by
  rw [if_pos (decide_eq_true h)]
  exact a
theorem iteNo {p : Prop} [Decidable p] {A B : Prop} (h : ¬ p) (b : B) : if decide p = true then A else B := by
  rw [if_neg (by rw [decide_eq_false h]; exact Bool.false_ne_true)]
  exact b
end Wn
namespace Wn
open PySem L2
theorem while_w {c : TT} {tb : TS} {D : Ends} {σ : L2.St} {H : Hp} (W : Nat → L2.St → Hp → Prop) (h0 : ∃ m, W m σ H)
    (hs : ∀ m σ H, W m σ H → c σ H fun b H1 => if b = true then ∃ N : L2.St → Hp → Prop, (∀ σ' H', N σ' H' → ∃ m', m' < m ∧ W m' σ' H') ∧ tb { D with nx := N, ct := N, bk := D.nx } σ H1 else D.nx σ H1) : tWhile c tb D σ H := ⟨W, h0, hs⟩
end Wn

namespace Wn
/-! ### fars over roads, in plain numbers -/
structure Rd where
  a : Nat
  b : Nat
  delay : Nat
  size : Nat
  deriving DecidableEq
abbrev Mx := Nat → Nat → Nat
/-- what a road that is up gives a house -/
def near1 (h : Nat) (p : Rd × Bool) : List (Nat × Nat) := if p.2 then (if p.1.a = h then [(p.1.b, p.1.delay)] else []) ++ (if p.1.b = h then [(p.1.a, p.1.delay)] else []) else []
def nearOf (rs : List (Rd × Bool)) (h : Nat) : List (Nat × Nat) := rs.flatMap (near1 h)
def minL (l : List Nat) : Nat := l.foldr min 24
theorem minL_le24 : ∀ l : List Nat, minL l ≤ 24
  | [] => Nat.le_refl _
  | x :: l => by
    show min x (minL l) ≤ 24
    have := minL_le24 l
    omega
theorem minL_le : ∀ {l : List Nat} {x : Nat}, x ∈ l → minL l ≤ x
  | y :: l, x, h => by
    show min y (minL l) ≤ x
    rcases List.mem_cons.mp h with rfl | h
    · omega
    · have := minL_le h
      omega
theorem minL_mem : ∀ l : List Nat, minL l = 24 ∨ minL l ∈ l
  | [] => .inl rfl
  | x :: l => by
    show min x (minL l) = 24 ∨ min x (minL l) ∈ x :: l
    by_cases h : x ≤ minL l
    · rw [Nat.min_eq_left h]
      exact .inr List.mem_cons_self
    · rw [Nat.min_eq_right (by omega)]
      exact (minL_mem l).imp id (List.mem_cons_of_mem _)
theorem minL_ge {l : List Nat} {k : Nat} (h24 : k ≤ 24) (h : ∀ x ∈ l, k ≤ x) : k ≤ minL l := by
  rcases minL_mem l with e | e
  · omega
  · exact h _ e
def turn (rs : List (Rd × Bool)) (X : Mx) : Mx := fun h o => if o = h then 0 else minL ((nearOf rs h).map fun p => p.2 + X p.1 o)
/-- roads among m houses, with delays -/
def RoadsIn (m : Nat) (rs : List (Rd × Bool)) : Prop := ∀ p ∈ rs, p.1.a < p.1.b ∧ p.1.b < m ∧ 1 ≤ p.1.delay ∧ p.1.delay ≤ 2
theorem near_in {m : Nat} {rs : List (Rd × Bool)} (R : RoadsIn m rs) {h : Nat} {p : Nat × Nat} (hp : p ∈ nearOf rs h) : p.1 < m ∧ 1 ≤ p.2 ∧ p.2 ≤ 2 ∧ p.1 ≠ h := by
  unfold nearOf at hp
  obtain ⟨q, hq, h2⟩ := List.mem_flatMap.mp hp
  have r := R q hq
  unfold near1 at h2
  split at h2
  · rcases List.mem_append.mp h2 with h2 | h2
    · split at h2
      · rw [List.mem_singleton] at h2
        subst h2
        exact ⟨r.2.1, r.2.2.1, r.2.2.2, by simp only; omega⟩
      · cases h2
    · split at h2
      · rw [List.mem_singleton] at h2
        subst h2
        exact ⟨by simp only; omega, r.2.2.1, r.2.2.2, by simp only; omega⟩
      · cases h2
  · cases h2
def MLe (m : Nat) (X Y : Mx) : Prop := ∀ h, h < m → ∀ o, o < m → X h o ≤ Y h o
def MEq (m : Nat) (X Y : Mx) : Prop := ∀ h, h < m → ∀ o, o < m → X h o = Y h o
section
variable {m : Nat} {rs : List (Rd × Bool)} {X Y : Mx}
theorem turn_le24 (h o : Nat) : turn rs X h o ≤ 24 := by
  unfold turn
  split
  · exact Nat.zero_le _
  · exact minL_le24 _
theorem turn_near {h o t d : Nat} (hp : (t, d) ∈ nearOf rs h) (ne : o ≠ h) : turn rs X h o ≤ d + X t o := by
  unfold turn
  rw [if_neg ne]
  exact minL_le (List.mem_map.mpr ⟨(t, d), hp, rfl⟩)
theorem turn_mono (R : RoadsIn m rs) (h : MLe m X Y) : MLe m (turn rs X) (turn rs Y) := by
  intro a ha o ho
  unfold turn
  split
  · exact Nat.le_refl _
  · refine minL_ge (minL_le24 _) fun x hx => ?_
    obtain ⟨p, hp, rfl⟩ := List.mem_map.mp hx
    have h1 := h p.1 (near_in R hp).1 o ho
    have h2 : minL ((nearOf rs a).map fun p => p.2 + X p.1 o) ≤ p.2 + X p.1 o := minL_le (List.mem_map.mpr ⟨p, hp, rfl⟩)
    omega
theorem turn_congr (R : RoadsIn m rs) (h : MEq m X Y) : MEq m (turn rs X) (turn rs Y) := fun a ha o ho =>
  Nat.le_antisymm (turn_mono R (fun a ha o ho => Nat.le_of_eq (h a ha o ho)) a ha o ho) (turn_mono R (fun a ha o ho => Nat.le_of_eq (h a ha o ho).symm) a ha o ho)
def Fixed (m : Nat) (rs : List (Rd × Bool)) (X : Mx) : Prop := MEq m X (turn rs X)
theorem Fixed.le24 (F : Fixed m rs X) {h o : Nat} (hh : h < m) (ho : o < m) : X h o ≤ 24 := by
  rw [F h hh o ho]
  exact turn_le24 h o
theorem Fixed.self (F : Fixed m rs X) {h : Nat} (hh : h < m) : X h h = 0 := by
  rw [F h hh h hh]
  unfold turn
  rw [if_pos rfl]
/-- a far below 24 goes over a neighbour -/
theorem Fixed.step (R : RoadsIn m rs) (F : Fixed m rs X) {h o : Nat} (hh : h < m) (ho : o < m) (ne : o ≠ h) (hl : X h o < 24) : ∃ t d, (t, d) ∈ nearOf rs h ∧ t < m ∧ 1 ≤ d ∧ X h o = d + X t o := by
  have e := F h hh o ho
  unfold turn at e
  rw [if_neg ne] at e
  rcases minL_mem ((nearOf rs h).map fun p => p.2 + X p.1 o) with q | q
  · omega
  · obtain ⟨p, hp, q2⟩ := List.mem_map.mp q
    have := near_in R hp
    exact ⟨p.1, p.2, hp, this.1, this.2.1, by omega⟩
/-- where W is at most the turn of itself, it is at most any fixed one -/
theorem post_le (R : RoadsIn m rs) (F : Fixed m rs X) {W : Mx} (h24 : ∀ h, h < m → ∀ o, o < m → W h o ≤ 24) (h0 : ∀ h, h < m → W h h = 0) (hW : ∀ h, h < m → ∀ o, o < m → ∀ t d, (t, d) ∈ nearOf rs h → W h o ≤ d + W t o) : MLe m W X := by
  have key : ∀ v h o, h < m → o < m → X h o = v → W h o ≤ v := by
    intro v
    induction v using Nat.strongRecOn with
    | ind v ih =>
      intro h o hh ho e
      by_cases ne : o = h
      · subst ne
        rw [h0 o ho]
        exact Nat.zero_le _
      · by_cases hl : v < 24
        · obtain ⟨t, d, hp, ht, hd, e2⟩ := F.step R hh ho ne (by omega)
          have := ih (X t o) (by omega) t o ht ho rfl
          have := hW h hh o ho t d hp
          omega
        · have := h24 h hh o ho
          omega
  exact fun h hh o ho => key _ h o hh ho rfl
theorem fixed_le (R : RoadsIn m rs) (F : Fixed m rs X) (G : Fixed m rs Y) : MLe m Y X := by
  refine post_le R F (fun h hh o ho => G.le24 hh ho) (fun h hh => G.self hh) fun h hh o ho t d hp => ?_
  by_cases ne : o = h
  · subst ne
    rw [G.self ho]
    exact Nat.zero_le _
  · rw [G h hh o ho]
    exact turn_near hp ne
theorem fixed_one (R : RoadsIn m rs) (F : Fixed m rs X) (G : Fixed m rs Y) : MEq m X Y := fun h hh o ho => Nat.le_antisymm (fixed_le R G F h hh o ho) (fixed_le R F G h hh o ho)
/-- a fixed one keeps the triangle -/
theorem Fixed.tri (R : RoadsIn m rs) (F : Fixed m rs X) {k b : Nat} (hk : k < m) (hb : b < m) : ∀ a, a < m → X a b ≤ X a k + X k b := by
  have key : ∀ v a, a < m → X a k = v → X a b ≤ v + X k b := by
    intro v
    induction v using Nat.strongRecOn with
    | ind v ih =>
      intro a ha e
      by_cases ne : k = a
      · subst ne
        omega
      · by_cases hl : v < 24
        · obtain ⟨t, d, hp, ht, hd, e2⟩ := F.step R ha hk ne (by omega)
          have h1 := ih (X t k) (by omega) t ht rfl
          by_cases nb : b = a
          · subst nb
            rw [F.self hb]
            exact Nat.zero_le _
          · have h2 := F a ha b hb
            have h3 := turn_near (X := X) hp nb
            omega
        · have := F.le24 ha hb
          omega
  exact fun a ha => key _ a ha rfl
/-- the way from the top -/
def topM : Mx := fun h o => if h = o then 0 else 24
def sumM (m : Nat) (X : Mx) : Nat := ((List.range m).map fun h => ((List.range m).map fun o => X h o).sum).sum
theorem turn_top : MLe m (turn rs topM) topM := by
  intro h hh o ho
  unfold topM
  by_cases e : h = o
  · subst e
    unfold turn
    rw [if_pos rfl]
    exact Nat.zero_le _
  · rw [if_neg e]
    exact turn_le24 h o
theorem sum_le {l : List Nat} {f g : Nat → Nat} (h : ∀ x ∈ l, f x ≤ g x) : (l.map f).sum ≤ (l.map g).sum := by
  induction l with
  | nil => exact Nat.le_refl _
  | cons x l ih =>
    rw [List.map_cons, List.map_cons, List.sum_cons, List.sum_cons]
    have h1 := h x List.mem_cons_self
    have h2 := ih fun y hy => h y (List.mem_cons_of_mem _ hy)
    omega
theorem sum_lt {l : List Nat} {f g : Nat → Nat} (h : ∀ x ∈ l, f x ≤ g x) {y : Nat} (hy : y ∈ l) (hl : f y < g y) : (l.map f).sum < (l.map g).sum := by
  induction l with
  | nil => cases hy
  | cons x l ih =>
    rw [List.map_cons, List.map_cons, List.sum_cons, List.sum_cons]
    have h1 := h x List.mem_cons_self
    rcases List.mem_cons.mp hy with rfl | hy
    · have h2 := sum_le (l := l) fun z hz => h z (List.mem_cons_of_mem _ hz)
      omega
    · have h2 := ih (fun z hz => h z (List.mem_cons_of_mem _ hz)) hy
      omega
theorem sumM_lt (h : MLe m X Y) (ne : ¬ MEq m X Y) : sumM m X < sumM m Y := by
  have ⟨a, ha, o, ho, hl⟩ : ∃ a, a < m ∧ ∃ o, o < m ∧ X a o < Y a o := by
    apply Classical.byContradiction
    intro hn
    refine ne fun a ha o ho => Nat.le_antisymm (h a ha o ho) ?_
    apply Classical.byContradiction
    intro hx
    exact hn ⟨a, ha, o, ho, by omega⟩
  unfold sumM
  refine sum_lt (fun x hx => sum_le fun y hy => h x (List.mem_range.mp hx) y (List.mem_range.mp hy)) (List.mem_range.mpr ha) ?_
  exact sum_lt (fun y hy => h a ha y (List.mem_range.mp hy)) (List.mem_range.mpr ho) hl
/-! ### by middle houses -/
def initM (rs : List (Rd × Bool)) : Mx := fun a b => if a = b then 0 else minL ((nearOf rs a).filterMap fun p => if p.1 = b then some p.2 else none)
def viaM (k : Nat) (W : Mx) : Mx := fun a b => min (W a b) (W a k + W k b)
def fwM (rs : List (Rd × Bool)) : Nat → Mx
  | 0 => initM rs
  | k + 1 => viaM k (fwM rs k)
theorem fw_self : ∀ k a, fwM rs k a a = 0
  | 0, a => by
    show initM rs a a = 0
    unfold initM
    rw [if_pos rfl]
  | k + 1, a => by
    show min (fwM rs k a a) _ = 0
    rw [fw_self k a]
    omega
theorem fw_anti : ∀ k a b, fwM rs (k + 1) a b ≤ fwM rs k a b := fun k a b => by
  show min (fwM rs k a b) _ ≤ _
  exact Nat.min_le_left _ _
theorem fw_le_init : ∀ k a b, fwM rs k a b ≤ initM rs a b
  | 0, a, b => Nat.le_refl _
  | k + 1, a, b => Nat.le_trans (fw_anti k a b) (fw_le_init k a b)
theorem fw_closed : ∀ k j, j < k → ∀ a b, fwM rs k a b ≤ fwM rs k a j + fwM rs k j b
  | k + 1, j, hj, a, b => by
    have e : ∀ a b, fwM rs (k + 1) a b = min (fwM rs k a b) (fwM rs k a k + fwM rs k k b) := fun a b => rfl
    have hk := fw_self (rs := rs) k k
    rw [e a b, e a j, e j b]
    by_cases ej : j = k
    · subst ej
      rw [hk]
      omega
    · have ih := fw_closed k j (by omega)
      have h1 := ih a b
      have h2 := ih k b
      have h3 := ih a k
      omega
theorem fw_ge (R : RoadsIn m rs) (F : Fixed m rs X) : ∀ k, k ≤ m → MLe m X (fwM rs k)
  | 0, _ => by
    intro a ha b hb
    show X a b ≤ initM rs a b
    unfold initM
    by_cases e : a = b
    · subst e
      rw [F.self ha]
      exact Nat.zero_le _
    · rw [if_neg e]
      refine minL_ge (F.le24 ha hb) fun x hx => ?_
      obtain ⟨p, hp, h2⟩ := List.mem_filterMap.mp hx
      split at h2
      · rename_i e2
        have : p.2 = x := Option.some.inj h2
        subst this
        have h3 := F a ha b hb
        have h4 := turn_near (X := X) (o := b) hp (fun z => e z.symm)
        have h5 := F.self (h := p.1) (by rw [e2]; exact hb)
        rw [e2] at h4 h5
        omega
      · cases h2
  | k + 1, hk => by
    intro a ha b hb
    have ih := fw_ge R F k (by omega)
    show X a b ≤ min (fwM rs k a b) (fwM rs k a k + fwM rs k k b)
    have h1 := ih a ha b hb
    have h2 := ih a ha k (by omega)
    have h3 := ih k (by omega) b hb
    have h4 := F.tri R (show k < m by omega) hb a ha
    omega
theorem fw_fixed (R : RoadsIn m rs) (F : Fixed m rs X) : MEq m X (fwM rs m) := by
  refine fun a ha b hb => Nat.le_antisymm (fw_ge R F m (Nat.le_refl _) a ha b hb) (post_le R F (fun h hh o ho => ?_) (fun h _ => fw_self m h) (fun h hh o ho t d hp => ?_) a ha b hb)
  · refine Nat.le_trans (fw_le_init m h o) ?_
    unfold initM
    split
    · exact Nat.zero_le _
    · exact minL_le24 _
  · have n := near_in R hp
    have h1 := fw_closed (rs := rs) m t n.1 h o
    have h2 := fw_le_init (rs := rs) m h t
    have h3 : initM rs h t ≤ d := by
      unfold initM
      rw [if_neg (fun z => n.2.2.2 z.symm)]
      exact minL_le (List.mem_filterMap.mpr ⟨(t, d), hp, if_pos rfl⟩)
    omega
end
end Wn

namespace Wn
open PySem L2
/-! ### roads, in plain numbers -/
def rdD (r : Rd) : PyData := .tuple [.int r.a, .int r.b, .int r.delay, .int r.size]
def RdOk (m : Nat) (r : Rd) : Prop := r.a < r.b ∧ r.b < m ∧ 1 ≤ r.delay ∧ r.delay ≤ 2 ∧ 16 ≤ r.size ∧ r.size ≤ 80
def rdLt (r s : Rd) : Prop := r.a < s.a ∨ (r.a = s.a ∧ r.b < s.b)
structure RdsOk (m : Nat) (rs : List Rd) : Prop where
  m1 : 1 ≤ m
  m8 : m ≤ 8
  few : rs.length ≤ 14
  ok : ∀ r ∈ rs, RdOk m r
  up : rs.Pairwise rdLt
structure Lan where
  m : Nat
  rs : List Rd
  fallen : List (Nat × Nat)
def pk (p : Nat × Nat) : List Key := [Sum.inl (p.1 : Int), Sum.inl (p.2 : Int)]
def fkv (fs : List (Nat × Nat)) : List (List Key × V) := fs.map fun p => (pk p, V.bl true)
theorem pk_inj {p q : Nat × Nat} (h : pk p = pk q) : p = q := by
  unfold pk at h
  injection h with h1 h2
  injection h2 with h2 _
  injection h1 with h1
  injection h2 with h2
  exact Prod.ext (by omega) (by omega)
theorem fkv_val (p : Nat × Nat) : ∀ fs : List (Nat × Nat), valV (fkv fs) (pk p) = if p ∈ fs then some (V.bl true) else none
  | [] => rfl
  | q :: fs => by
    show valV ((pk q, V.bl true) :: fkv fs) (pk p) = _
    by_cases e : q = p
    · subst e
      rw [valV_pos rfl, if_pos List.mem_cons_self]
    · rw [valV_neg (p := (pk q, V.bl true)) (fun z => e (pk_inj z)), fkv_val p fs]
      by_cases h : p ∈ fs
      · rw [if_pos h, if_pos (List.mem_cons_of_mem _ h)]
      · rw [if_neg h, if_neg (fun z => by
          rcases List.mem_cons.mp z with z | z
          · exact e z.symm
          · exact h z)]
theorem fkv_some (p : Nat × Nat) (fs : List (Nat × Nat)) : (valV (fkv fs) (pk p)).isSome = decide (p ∈ fs) := by
  rw [fkv_val]
  by_cases h : p ∈ fs
  · rw [if_pos h, decide_eq_true h]
    rfl
  · rw [if_neg h, decide_eq_false h]
    rfl
theorem fkv_put {p : Nat × Nat} {fs : List (Nat × Nat)} (h : p ∉ fs) : putK (fkv fs) (pk p) (V.bl true) = fkv (fs ++ [p]) := by
  unfold putK
  have e : ((fkv fs).any fun kv => decide (kv.1 = pk p)) = false := by
    rw [Bool.eq_false_iff]
    intro z
    obtain ⟨kv, hk, hd⟩ := List.any_eq_true.mp z
    obtain ⟨q, hq, rfl⟩ := List.mem_map.mp hk
    exact h (pk_inj (of_decide_eq_true hd) ▸ hq)
  rw [e]
  unfold fkv
  rw [List.map_append]
  rfl
theorem fkv_drop (p : Nat × Nat) (fs : List (Nat × Nat)) : dropK (fkv fs) (pk p) = fkv (fs.filter fun q => decide (q ≠ p)) := by
  unfold dropK fkv
  rw [List.filter_map]
  congr 1
  refine List.filter_congr fun q hq => ?_
  show decide (pk q ≠ pk p) = decide (q ≠ p)
  exact decide_eq_decide.mpr ⟨fun h z => h (by rw [z]), fun h z => h (pk_inj z)⟩
def upOf (L : Lan) : List Bool := L.rs.map fun r => !decide ((r.a, r.b) ∈ L.fallen)
/-- the road of two numbers -/
def pairOf (rs : List Rd) (x y : Int) : Option (Nat × Nat) := (rs.find? fun r => decide ((((r.a : Int) = x ∧ (r.b : Int) = y) ∨ ((r.a : Int) = y ∧ (r.b : Int) = x)))).map fun r => (r.a, r.b)
/-- where roads that are up lead from a house -/
def nbr1 (L : Lan) (h : Nat) (r : Rd) : Option (Nat × Nat × Nat) := if (h = r.a ∨ h = r.b) ∧ (r.a, r.b) ∉ L.fallen then some (r.a + r.b - h, r.delay, r.size) else none
def nbrs (L : Lan) (h : Nat) : List (Nat × Nat × Nat) := L.rs.filterMap (nbr1 L h)
def nbD (t : Nat × Nat × Nat) : PyData := .tuple [.int t.1, .int t.2.1, .int t.2.2]
theorem nbrs_up {m : Nat} {L : Lan} (R : RdsOk m L.rs) (h : Nat) : ((nbrs L h).map (·.1)).Pairwise (· < ·) := by
  unfold nbrs
  have ok := R.ok
  have up := R.up
  generalize L.rs = rs at ok up
  induction rs with
  | nil => exact List.Pairwise.nil
  | cons r rs ih =>
    rw [List.pairwise_cons] at up
    have ih := ih (fun x hx => ok x (List.mem_cons_of_mem _ hx)) up.2
    rw [List.filterMap_cons]
    unfold nbr1 at ih ⊢
    split
    · exact ih
    · rename_i t e
      split at e
      · rename_i hc
        cases e
        rw [List.map_cons, List.pairwise_cons]
        refine ⟨fun y hy => ?_, ih⟩
        obtain ⟨q, hq, rfl⟩ := List.mem_map.mp hy
        obtain ⟨r2, hr2, e2⟩ := List.mem_filterMap.mp hq
        split at e2
        · rename_i hc2
          cases e2
          have o1 := ok r List.mem_cons_self
          have o2 := ok r2 (List.mem_cons_of_mem _ hr2)
          have lt := up.1 r2 hr2
          unfold RdOk at o1 o2
          unfold rdLt at lt
          show r.a + r.b - h < r2.a + r2.b - h
          omega
        · cases e2
      · cases e
theorem nbr_bd {m : Nat} {L : Lan} (R : RdsOk m L.rs) {h : Nat} {t : Nat × Nat × Nat} (ht : t ∈ nbrs L h) : t.1 < 8 ∧ 1 ≤ t.2.1 ∧ t.2.1 ≤ 2 ∧ 16 ≤ t.2.2 ∧ t.2.2 ≤ 80 ∧ t.1 < m ∧ t.1 ≠ h := by
  obtain ⟨r, hr, e⟩ := List.mem_filterMap.mp ht
  have o := R.ok r hr
  have m8 := R.m8
  unfold nbr1 at e
  unfold RdOk at o
  split at e
  · rename_i hc
    cases e
    show r.a + r.b - h < 8 ∧ 1 ≤ r.delay ∧ r.delay ≤ 2 ∧ 16 ≤ r.size ∧ r.size ≤ 80 ∧ r.a + r.b - h < m ∧ r.a + r.b - h ≠ h
    omega
  · cases e
theorem Rp.rd {K : PySem.W.Frag} {H : Hp} {r : Rd} {v : V} (h : Rp K H (rdD r) v) : ∃ t, v = .ref t ∧ SqT K H t [.int r.a, .int r.b, .int r.delay, .int r.size] := by
  unfold rdD Rp at h
  obtain ⟨t, ys, rfl, ht, ry⟩ := h
  unfold RpL at ry
  obtain ⟨v0, r0, rfl, h0, ry⟩ := ry
  unfold RpL at ry
  obtain ⟨v1, r1, rfl, h1, ry⟩ := ry
  unfold RpL at ry
  obtain ⟨v2, r2, rfl, h2, ry⟩ := ry
  unfold RpL at ry
  obtain ⟨v3, r3, rfl, h3, ry⟩ := ry
  unfold RpL at ry
  subst ry
  rw [Rp.int_eq h0, Rp.int_eq h1, Rp.int_eq h2, Rp.int_eq h3] at ht
  exact ⟨t, rfl, ht⟩
end Wn

namespace Wn
open PySem L2 PySem.Spec PyProof.Rows
section
variable {X : Cx} {K : PySem.W.Frag}
theorem slA (hK : X.K = K) : SlR X (rSlA K) := hK ▸ sl_tupA
theorem opCatA (hK : X.K = K) : OpR X (binaryOp .Add) (rCatA K) := hK ▸ op_catA
/-- x in a tuple of data -/
def rInDT (K : PySem.W.Frag) : R2 := fun x y H Q => ∃ d ds, Dp K H x d ∧ Dp K H y (.tuple ds) ∧ SeqAt.shaped d = true ∧ SeqAt.shaped (.tuple ds) = true ∧ Q (.bl (ds.any fun z => PyData.eqv z d)) H
def rNotInDT (K : PySem.W.Frag) : R2 := fun x y H Q => ∃ d ds, Dp K H x d ∧ Dp K H y (.tuple ds) ∧ SeqAt.shaped d = true ∧ SeqAt.shaped (.tuple ds) = true ∧ Q (.bl (!ds.any fun z => PyData.eqv z d)) H
theorem room_inT {A : Around} {d : PyData} {xs : List PyData} (h : SeqAt.shaped d = true) (hu : A.units + 65 < cLine) : A.units + 1 + min (PyData.depthAll xs) d.depth < cLine := by
  have h1 := SeqAt.depth_of_shaped h
  have h2 : min (PyData.depthAll xs) d.depth ≤ d.depth := Nat.min_le_right _ _
  omega
theorem op_inDT (hu : X.A.units + 65 < cLine) : OpR X (compareOp .In) (rInDT X.K) := by
  intro pins s σ H x y v u Q I rx ry h
  obtain ⟨d, ds, hd, he, sd, se, q⟩ := h
  obtain ⟨as, r1⟩ := Dp.reads I d x v hd rx
  obtain ⟨bs, r2⟩ := Dp.reads I (.tuple ds) y u he ry
  exact SeqAt.in_tuple_reads r2 r1 (SeqAt.canLay_of_shaped se) (SeqAt.canLay_of_shaped sd) (room_inT sd hu) ⟨.bl _, H, I, rfl, q⟩
theorem op_notInDT (hu : X.A.units + 65 < cLine) : OpR X (compareOp .NotIn) (rNotInDT X.K) := by
  intro pins s σ H x y v u Q I rx ry h
  obtain ⟨d, ds, hd, he, sd, se, q⟩ := h
  obtain ⟨as, r1⟩ := Dp.reads I d x v hd rx
  obtain ⟨bs, r2⟩ := Dp.reads I (.tuple ds) y u he ry
  exact SeqAt.notIn_tuple_reads r2 r1 (SeqAt.canLay_of_shaped se) (SeqAt.canLay_of_shaped sd) (room_inT sd hu) ⟨.bl _, H, I, rfl, q⟩
theorem inDTK (hK : X.K = K) (hu : X.A.units + 65 < cLine) : OpR X (compareOp .In) (rInDT K) := hK ▸ op_inDT hu
theorem notInDTK (hK : X.K = K) (hu : X.A.units + 65 < cLine) : OpR X (compareOp .NotIn) (rNotInDT K) := hK ▸ op_notInDT hu
theorem room65 {k : Nat} {A : Around} (r : Room k A) : A.units + 65 < cLine := by have := r.un; omega
end
end Wn

namespace Wn
open PySem L2 PySem.Spec PyProof.Rows
/-! ### t >= u of tuples of ints -/
def lexGe (ns ms : List Int) : Bool := Ob.lexAt (fun j => decide (ns.getD j 0 = ms.getD j 0)) (fun j => decide (ms.getD j 0 ≤ ns.getD j 0)) (decide (ns.length ≥ ms.length)) 0 (min ns.length ms.length)
def rGeT (K : PySem.W.Frag) : R2 := fun x y H Q => ∃ (a b : Addr) (ns ms : List Int), x = .ref a ∧ y = .ref b ∧ SqT K H a (ns.map V.int) ∧ SqT K H b (ms.map V.int) ∧ Q (.bl (lexGe ns ms)) H
theorem op_geT {X : Cx} (hu : X.A.units < cLine) : OpR X (compareOp .GtE) (rGeT X.K) := by
  intro pins s σ H x y v u Q I rx ry h
  obtain ⟨a, b, ns, ms, rfl, rfl, ha, hb, q⟩ := h
  cases rx
  cases ry
  obtain ⟨its, r1, p1, _⟩ := I.tuple ha
  obtain ⟨its2, r2, p2, _⟩ := I.tuple hb
  have i1 : IntsAre its ns := Vals.ints r1
  have i2 : IntsAre its2 ms := Vals.ints r2
  have e1 : its.toArray.size = ns.length := by rw [List.size_toArray]; exact i1.length
  have e2 : its2.toArray.size = ms.length := by rw [List.size_toArray]; exact i2.length
  have at1 : ∀ j (h1 : j < its.toArray.size), ∃ t, its.toArray[j] = .int (ns.getD j 0) t := fun j h1 => PyProof.Rows.IntsAre.int_at i1 _ _ (by simp at h1; simp [h1])
  have at2 : ∀ j (h1 : j < its2.toArray.size), ∃ t, its2.toArray[j] = .int (ms.getD j 0) t := fun j h1 => PyProof.Rows.IntsAre.int_at i2 _ _ (by simp at h1; simp [h1])
  have R := Ob.RcOp.tuples_ge (A := X.A) (s := s) (e := fun j => decide (ns.getD j 0 = ms.getD j 0)) (r := fun j => decide (ms.getD j 0 ≤ ns.getD j 0)) p1 p2 hu (fun j h1 h2 => by
    obtain ⟨t, et⟩ := at1 j h1
    obtain ⟨t', et'⟩ := at2 j h2
    rw [et, et']
    have z : (ns.getD j 0 == ms.getD j 0) = decide (ns.getD j 0 = ms.getD j 0) := by
      by_cases q : ns.getD j 0 = ms.getD j 0
      · rw [decide_eq_true q]; exact beq_iff_eq.mpr q
      · rw [decide_eq_false q]; exact beq_eq_false_iff_ne.mpr q
    rw [← z]
    exact SeqAt.EqAt.int_int _ _ _ _) (fun j h1 h2 _ => by
    obtain ⟨t, et⟩ := at1 j h1
    obtain ⟨t', et'⟩ := at2 j h2
    rw [et, et']
    exact Ob.RcOp.ge_int _ _ _ _)
  rw [e1, e2] at R
  have z : wpAny (model X.prog X.w) X.A (compareOp .GtE (.ref a) (.ref b)) (EP X pins σ Q) X.xe s := R X.prog X.w X.xe (EP X pins σ Q) ⟨.bl _, H, I, rfl, q⟩
  exact z
theorem geTK {X : Cx} {K : PySem.W.Frag} (hK : X.K = K) (hu : X.A.units < cLine) : OpR X (compareOp .GtE) (rGeT K) := hK ▸ op_geT hu
/-- of two pairs -/
theorem lexGe2 (a b c d : Int) : lexGe [a, b] [c, d] = decide (c < a ∨ (a = c ∧ d ≤ b)) := by
  unfold lexGe
  show (if decide (a = c) = true then (if decide (b = d) = true then decide ((2 : Nat) ≥ 2) else decide (d ≤ b)) else decide (c ≤ a)) = _
  by_cases h : a = c
  · by_cases h2 : b = d
    · simp [h, h2]
    · simp [h, h2]
  · have e : (c < a ∨ (a = c ∧ d ≤ b)) ↔ c ≤ a := by omega
    simp only [decide_eq_false h, Bool.false_eq_true, if_false]
    exact decide_eq_decide.mpr e.symm
/-! ### min(xs), xs a list of tuples of ints -/
section
variable {prog : Program} {w : World} {A : Around} {R : Result → Shared → Prop} {I : Addr} {fp wr : List Addr} {n : Nat} {P : Nat → Value → Prop} {St : Nat → Heap → Prop}
/-- as CmpOf, where the walk stands -/
def CmpIn (prog : Program) (w : World) (A : Around) (op : CmpOp) (P : Nat → Value → Prop) (St : Nat → Heap → Prop) (bt : Nat → Nat → Bool) : Prop :=
  ∀ k i j vi vj (s : Shared) (Q : Value → Shared → Prop) (E : Value → Shared → Prop), St k s.heap → P i vi → P j vj → Q (.bool (bt i j)) s → wpAny (model prog w) A (richCompare op vi vj) Q E s
theorem minT_loop (W : Walks prog w A.in1 I fp wr n P St) (bt : Nat → Nat → Bool) (hcmp : CmpIn prog w A.in1 .Lt P St bt) (S : Addr) (hSf : S ∉ fp) :
    ∀ (k j : Nat) (s : Shared) (vb : Value) (c : Nat), n - (j + 1) = k → j + 1 ≤ n → St (j + 1) s.heap → P (argBest bt j) vb →
    s.heap.get? S = some { cls := .type "list", dict := none, data := .seq #[vb, vb] c, slots := #[] } →
    (∀ v h' tk, P (argBest bt (n - 1)) v → (∀ b o, b ∉ wr → b ≠ S → s.heap.get? b = some o → h'.get? b = some o) → R (.ok (.ret v)) { s with heap := h', toks := tk }) →
    codeAny (model prog w) A (.builtin "min.loop" ⟨[.ref I, .none, .ref S], []⟩) R s := by
  have hSw : S ∉ wr := fun h => hSf (W.sub _ h)
  have hname : (toString "min" ++ toString ".loop" : String) = "min.loop" := by decide
  intro k
  induction k with
  | zero =>
    intro j s vb c hk hj hst hPb hS hR
    have hin : j + 1 = n := by omega
    refine codeAny_builtin F.entry_min_loop ?_
    rw [Around.under_plainId F.plain_min_loop _]
    show wpAny _ A.in1 (seqItems? (.ref S) >>= _) _ _ s
    refine wpAny_bind (wpAny_seqItems hS rfl ?_)
    show wpAny _ A.in1 (tryCatch (pyNext (.ref I)) _ >>= _) _ _ s
    refine wpAny_bind (wpAny_tryCatch (W.done s _ _ (hin ▸ hst) fun h' tk hk' => ?_))
    have hS' := hk' S _ hSw hS
    show wpAny _ A.in1 (updateSeq S (fun _ => #[]) >>= _) _ _ _
    refine wpAny_bind ?_
    refine wpAny_updateSeq hS' rfl (wpAny_bind (wpAny_letGo (wpAny_pure ?_)))
    exact hR vb _ tk (by rw [← hin]; exact hPb) fun b o hbw hbS e => (Heap.get?_update_other _ _ (Ne.symm hbS)).trans (hk' b o hbw e)
  | succ k ih =>
    intro j s vb c hk hj hst hPb hS hR
    have hlt : j + 1 < n := by omega
    refine codeAny_builtin F.entry_min_loop ?_
    rw [Around.under_plainId F.plain_min_loop _]
    show wpAny _ A.in1 (seqItems? (.ref S) >>= _) _ _ s
    refine wpAny_bind (wpAny_seqItems hS rfl ?_)
    show wpAny _ A.in1 (tryCatch (pyNext (.ref I)) _ >>= _) _ _ s
    refine wpAny_bind (wpAny_tryCatch (W.item (j + 1) s _ _ hlt hst fun v h' tk hP hst' hk' => ?_))
    have hS' := hk' S _ hSw hS
    show wpAny _ A.in1 (tryCatch (holding [v, v] (richCompare .Lt v vb >>= _)) _ >>= _) _ _ _
    refine wpAny_bind (wpAny_tryCatch (wpAny_holding (wpAny_bind (hcmp (j + 2) (j + 1) (argBest bt j) v vb _ _ _ hst' hP hPb ?_))))
    refine wpAny_bind (wpAny_holding (wpAny_truthy_bool ?_))
    refine wpAny_bind (wpAny_letGo (wpAny_pure ?_))
    cases hb : bt (j + 1) (argBest bt j) with
    | true =>
      simp only [if_true]
      refine wpAny_bind ?_
      refine wpAny_updateSeq hS' rfl (wpAny_bind (wpAny_letGo ?_))
      rw [hname]
      refine wpAny_pure ⟨plainId_quiet F.plain_min_loop _, ih (j + 1) _ v _ (by omega) hlt (W.frame _ _ _ hst' fun b hbf o e => ?_) (by simp only [argBest, hb, if_true]; exact hP) (Heap.get?_update_self _ hS' rfl)
        fun v' h'' tk'' hP' hk'' => ?_⟩
      · exact (Heap.get?_update_other _ _ (fun h : S = b => hSf (by rw [h]; exact hbf))).trans e
      · exact hR v' h'' tk'' hP' fun b o hbw hbS e => hk'' b o hbw hbS ((Heap.get?_update_other _ _ (Ne.symm hbS)).trans (hk' b o hbw e))
    | false =>
      simp only [Bool.false_eq_true, if_false]
      refine wpAny_bind (wpAny_letGo ?_)
      rw [hname]
      refine wpAny_pure ⟨plainId_quiet F.plain_min_loop _, ih (j + 1) _ vb c (by omega) hlt hst' (by simp only [argBest, hb, Bool.false_eq_true, if_false]; exact hPb) hS' fun v' h'' tk'' hP' hk'' => ?_⟩
      exact hR v' h'' tk'' hP' fun b o hbw hbS e => hk'' b o hbw hbS (hk' b o hbw e)
theorem minT_first (W : Walks prog w A.in1 I fp wr n P St) (bt : Nat → Nat → Bool) (hcmp : CmpIn prog w A.in1 .Lt P St bt) (S : Addr) (hSf : S ∉ fp) (hn : 0 < n) {s : Shared} {c : Nat} (hst : St 0 s.heap)
    (hS : s.heap.get? S = some { cls := .type "list", dict := none, data := .seq #[] c, slots := #[] })
    (hR : ∀ v h' tk, P (argBest bt (n - 1)) v → (∀ b o, b ∉ wr → b ≠ S → s.heap.get? b = some o → h'.get? b = some o) → R (.ok (.ret v)) { s with heap := h', toks := tk }) :
    codeAny (model prog w) A (.builtin "min.loop" ⟨[.ref I, .none, .ref S], []⟩) R s := by
  have hSw : S ∉ wr := fun h => hSf (W.sub _ h)
  have hname : (toString "min" ++ toString ".loop" : String) = "min.loop" := by decide
  refine codeAny_builtin F.entry_min_loop ?_
  rw [Around.under_plainId F.plain_min_loop _]
  show wpAny _ A.in1 (seqItems? (.ref S) >>= _) _ _ s
  refine wpAny_bind (wpAny_seqItems hS rfl ?_)
  show wpAny _ A.in1 (tryCatch (pyNext (.ref I)) _ >>= _) _ _ s
  refine wpAny_bind (wpAny_tryCatch (W.item 0 s _ _ hn hst fun v h' tk hP hst' hk' => ?_))
  have hS' := hk' S _ hSw hS
  show wpAny _ A.in1 (updateSeq S (fun _ => #[v, v]) >>= _) _ _ _
  refine wpAny_bind ?_
  refine wpAny_updateSeq hS' rfl ?_
  rw [hname]
  refine wpAny_pure ⟨plainId_quiet F.plain_min_loop _, minT_loop W bt hcmp S hSf _ 0 _ v _ rfl hn (W.frame _ _ _ hst' fun b hbf o e => ?_) hP (Heap.get?_update_self _ hS' rfl) fun v' h'' tk'' hP' hk'' => ?_⟩
  · exact (Heap.get?_update_other _ _ (fun h : S = b => hSf (by rw [h]; exact hbf))).trans e
  · exact hR v' h'' tk'' hP' fun b o hbw hbS e => hk'' b o hbw hbS ((Heap.get?_update_other _ _ (Ne.symm hbS)).trans (hk' b o hbw e))
end
section
variable {prog : Program} {w : World} {A : Around} {E : Value → Shared → Prop} {s : Shared}
theorem call_minT {x : Value} {Q : Value → Shared → Prop}
    (h : wpAny (model prog w) A.in1 (pyIter x) (fun it s₂ => ∃ I fp wr n P St bt, it = .ref I ∧ Walks prog w A.in1 I fp wr n P St ∧ St 0 s₂.heap ∧ (∀ b ∈ fp, b < s₂.heap.objs.size) ∧ 0 < n ∧ CmpIn prog w A.in1 .Lt P St bt ∧
      ∀ v h' tk, P (argBest bt (n - 1)) v → (∀ b o, b ∉ wr → s₂.heap.get? b = some o → h'.get? b = some o) → Q v { s₂ with heap := h', toks := tk }) E s) :
    wpAny (model prog w) A (call (.builtin "min") [x]) Q E s := by
  have hname : (toString "min" ++ toString ".loop" : String) = "min.loop" := by decide
  refine call_function_tree F.kind_min F.plain_min F.entry_min (F.args_min1 _) ?_
  show wpAny _ A.in1 (Builtin.Builtins.bindParams "min" ["key", "default"] 0 ⟨[], []⟩ >>= _) _ _ s
  refine wpAny_bind (wpAny_of_eq (show Builtin.Builtins.bindParams "min" ["key", "default"] 0 ⟨[], []⟩ = pure [none, none] from rfl) ?_)
  refine wpAny_bind (wpAny_pure ?_)
  refine wpAny_bind (wpAny_mono h (fun it s₂ h₂ => ?_) fun _ _ e => e)
  obtain ⟨I, fp, wr, n, P, St, bt, rfl, W, hst, hfp, hn, hcmp, hQ⟩ := h₂
  refine wpAny_bind (wpAny_newObj_type ?_)
  have hSf : s₂.heap.objs.size ∉ fp := fun hm => Nat.lt_irrefl _ (hfp _ hm)
  rw [hname]
  refine wpAny_pure ⟨plainId_quiet F.plain_min_loop _, minT_first W bt hcmp s₂.heap.objs.size hSf hn (W.frame _ _ _ hst fun b _ o e => Heap.get?_push_of_some _ e) (Heap.get?_push_size _ rfl) fun v h' tk hP hk => ?_⟩
  exact hQ v h' tk hP fun b o hbw e => hk b o hbw (Nat.ne_of_lt (Heap.lt_size e)) (Heap.get?_push_of_some _ e)
/-- the walk of a list whose items are known to stand -/
theorem walksT (hh : A.handled = none) (I ax : Addr) (hne : ax ≠ I) (items : Array Value) (ts : List (Addr × Obj)) (hI : ∀ t ∈ ts, t.1 ≠ I) :
    Walks prog w A I ([I, ax] ++ ts.map (·.1)) [I] items.size (fun i v => items[i]? = some v) (fun i h => (h.IsListIter I ax i ∧ h.IsList ax items) ∧ ∀ t ∈ ts, h.get? t.1 = some t.2) := by
  have W := Walks.list (prog := prog) (w := w) hh I ax hne items
  refine ⟨fun b hb => List.mem_append_left _ (W.sub b hb), fun i h h' st hk => ⟨W.frame i h h' st.1 fun b hb o e => hk b (List.mem_append_left _ hb) o e, fun t ht => hk t.1 (List.mem_append_right _ (List.mem_map.mpr ⟨t, ht, rfl⟩)) _ (st.2 t ht)⟩,
    fun i s Q E hi st hQ => W.item i s Q E hi st.1 fun v h' tk hP hst' hk => hQ v h' tk hP ⟨hst', fun t ht => hk t.1 _ (fun z => hI t ht (List.mem_singleton.mp z)) (st.2 t ht)⟩ hk,
    fun s Q E st hQ => W.done s Q E st.1 hQ, fun i s Q E st hQ => W.self i s Q E st.1 hQ⟩
end
/-- the first least of rows by lexLt -/
def leastT : List (List Int) → Nat → Nat
  | _, 0 => 0
  | nss, k + 1 => if HT.lexLt (nss.getD (k + 1) []) (nss.getD (leastT nss k) []) then k + 1 else leastT nss k
def rMinT (K : PySem.W.Frag) : List V → Hp → VK → Prop := fun vs H Q => ∃ (a : Addr) (ts : List Addr) (nss : List (List Int)), vs = [V.ref a] ∧ SqL K H a (ts.map V.ref) ∧ ts.length = nss.length ∧ 0 < ts.length ∧ (∀ (i : Nat) (t : Addr) (ns : List Int), ts[i]? = some t → nss[i]? = some ns → SqT K H t (ns.map V.int)) ∧
  ∀ t, ts[leastT nss (nss.length - 1)]? = some t → Q (.ref t) H
theorem argBest_least (nss : List (List Int)) : ∀ k, argBest (fun i j => HT.lexLt (nss.getD i []) (nss.getD j [])) k = leastT nss k
  | 0 => rfl
  | k + 1 => by
    show (if HT.lexLt (nss.getD (k + 1) []) (nss.getD (argBest (fun i j => HT.lexLt (nss.getD i []) (nss.getD j [])) k) []) = true then k + 1 else argBest (fun i j => HT.lexLt (nss.getD i []) (nss.getD j [])) k) = _
    rw [argBest_least nss k]
    rfl
theorem cr_minT {X : Cx} (hc : X.calm = true) (hu : X.A.units + 1 < cLine) : CallR X (.builtin "min") (rMinT X.K) := by
  intro pins s σ H vs us Q I r h
  obtain ⟨a, ts, nss, rfl, hs, hl, h0, ht, q⟩ := h
  rw [Vals.ref1 r]
  obtain ⟨its, rv, hL, hz⟩ := I.list hs
  have lits : its.length = ts.length := by rw [← rv.length, List.length_map]
  have hat : ∀ (i : Nat) (v : Value), its[i]? = some v → ∃ t ns, ts[i]? = some t ∧ nss[i]? = some ns ∧ v = .ref t := fun i v e => by
    have hi : i < its.length := (List.getElem?_eq_some_iff.mp e).1
    have e1 : ts[i]? = some ts[i] := List.getElem?_eq_getElem (by omega)
    have e2 : nss[i]? = some nss[i] := List.getElem?_eq_getElem (by omega)
    obtain ⟨u, eu, ru⟩ := rv.get (i := i) (x := V.ref ts[i]) (by rw [List.getElem?_map, e1]; rfl)
    rw [e] at eu
    cases eu
    exact ⟨_, _, e1, e2, ru⟩
  have tups : ∀ (i : Nat) (t : Addr), ts[i]? = some t → ∃ ob, s.heap.get? t = some ob ∧ ∀ h' : Heap, h'.get? t = some ob → ∃ its2 : List Value, IsTup h' t its2.toArray ∧ IntsAre its2 (nss.getD i []) := fun i t e => by
    have hi : i < ts.length := (List.getElem?_eq_some_iff.mp e).1
    have e2 : nss[i]? = some nss[i] := List.getElem?_eq_getElem (by omega)
    obtain ⟨its2, r2, p2, _⟩ := I.tuple (ht i t _ e e2)
    obtain ⟨ob, ho, hc2, hd2⟩ := id p2
    refine ⟨ob, ho, fun h' e' => ⟨its2, ⟨ob, e', hc2, hd2⟩, ?_⟩⟩
    rw [List.getD_eq_getElem?_getD, e2]
    exact Vals.ints r2
  obtain ⟨tos, htos, hins⟩ : ∃ tos : List (Addr × Obj), (∀ p ∈ tos, s.heap.get? p.1 = some p.2) ∧ ∀ (i : Nat) (t : Addr), ts[i]? = some t → ∃ ob, (t, ob) ∈ tos := by
    refine ⟨ts.filterMap fun t => (s.heap.get? t).map fun o => (t, o), fun p hp => ?_, fun i t e => ?_⟩
    · obtain ⟨t, _, e⟩ := List.mem_filterMap.mp hp
      cases e2 : s.heap.get? t with
      | none => rw [e2] at e; cases e
      | some o =>
        rw [e2] at e
        cases e
        exact e2
    · obtain ⟨ob, ho, _⟩ := tups i t e
      exact ⟨ob, List.mem_filterMap.mpr ⟨t, List.mem_of_getElem? e, by rw [ho]; rfl⟩⟩
  have hlt : a < s.heap.objs.size := by obtain ⟨_, e, _⟩ := hL.isList; exact Heap.lt_size e
  refine call_minT (wpAny_pyIter_list hL.isList ?_)
  have W := walksT (prog := X.prog) (w := X.w) (A := X.A.in1) (show X.A.in1.handled = none from I.ok.hd hc) s.heap.objs.size a (Nat.ne_of_lt hlt) its.toArray tos fun t htt => Nat.ne_of_lt (Heap.lt_size (htos t htt))
  refine ⟨_, _, _, _, _, _, fun i j => HT.lexLt (nss.getD i []) (nss.getD j []), rfl, W, ⟨⟨⟨_, Heap.get?_push_size _ rfl, rfl, rfl⟩, hL.isList.push _⟩, fun t htt => Heap.get?_push_of_some _ (htos t htt)⟩, fun b hb => ?_, by rw [List.size_toArray, lits]; exact h0, ?_, ?_⟩
  · show b < (s.heap.push _).objs.size
    rw [Heap.size_push]
    rcases List.mem_append.mp hb with hb | hb
    · rcases List.mem_cons.mp hb with rfl | hb
      · exact Nat.lt_succ_self _
      · rw [List.mem_singleton.mp hb]
        exact Nat.lt_succ_of_lt hlt
    · obtain ⟨p, hp, rfl⟩ := List.mem_map.mp hb
      exact Nat.lt_succ_of_lt (Heap.lt_size (htos p hp))
  · intro k i j vi vj s2 Q2 E2 st hi hj hq
    obtain ⟨t1, n1, e1, _, rfl⟩ := hat i vi (by simpa using hi)
    obtain ⟨t2, n2, e2, _, rfl⟩ := hat j vj (by simpa using hj)
    obtain ⟨ob1, m1⟩ := hins i t1 e1
    obtain ⟨ob2, m2⟩ := hins j t2 e2
    obtain ⟨o1, ho1, f1⟩ := tups i t1 e1
    obtain ⟨o2, ho2, f2⟩ := tups j t2 e2
    have g1 := st.2 _ m1
    have g2 := st.2 _ m2
    have x1 := htos _ m1
    have x2 := htos _ m2
    have x1 : s.heap.get? t1 = some ob1 := x1
    have x2 : s.heap.get? t2 = some ob2 := x2
    rw [ho1] at x1
    rw [ho2] at x2
    cases x1
    cases x2
    obtain ⟨l1, p1, i1⟩ := f1 s2.heap g1
    obtain ⟨l2, p2, i2⟩ := f2 s2.heap g2
    exact (HT.lt_tupInts p1 p2 (by simpa using i1) (by simpa using i2) (by show X.A.in1.units < cLine; exact Nat.lt_of_le_of_lt (Nat.le_refl _) (show X.A.units + 1 < cLine from hu)) hq : wpAny (model X.prog X.w) X.A.in1 (compareOp .Lt (.ref t1) (.ref t2)) Q2 E2 s2)
  · intro v h' tk hP hk
    rw [argBest_least, List.size_toArray, lits, hl] at hP
    obtain ⟨t, ns, e1, _, rfl⟩ := hat (leastT nss (nss.length - 1)) v (by simpa using hP)
    refine ⟨.ref t, H, I.kept fun b o e => hk b o (fun hm => ?_) (Heap.get?_push_of_some _ e), rfl, q t e1⟩
    exact absurd ((List.mem_singleton.mp hm) ▸ Heap.lt_size e) (Nat.lt_irrefl _)
theorem minTK {X : Cx} {K : PySem.W.Frag} (hK : X.K = K) (hc : X.calm = true) (hu : X.A.units + 1 < cLine) : CallR X (.builtin "min") (rMinT K) := hK ▸ cr_minT hc hu
end Wn

namespace Wn
open PySem L2
/-! ### the least of pairs -/
def lexMin (p q : Nat × Nat) : Nat × Nat := if q.1 < p.1 ∨ (q.1 = p.1 ∧ q.2 < p.2) then q else p
def minW : List (Nat × Nat) → Option (Nat × Nat)
  | [] => none
  | p :: ps => match minW ps with
    | none => some p
    | some q => some (lexMin p q)
def PLe (p q : Nat × Nat) : Prop := p.1 < q.1 ∨ (p.1 = q.1 ∧ p.2 ≤ q.2)
def IsMinW (ws : List (Nat × Nat)) (p : Nat × Nat) : Prop := p ∈ ws ∧ ∀ q ∈ ws, PLe p q
theorem PLe.antisymm {p q : Nat × Nat} (h1 : PLe p q) (h2 : PLe q p) : p = q := by
  unfold PLe at h1 h2
  exact Prod.ext (by omega) (by omega)
theorem minW_none : ∀ {ws : List (Nat × Nat)}, minW ws = none → ws = []
  | [], _ => rfl
  | p :: ps, h => by
    unfold minW at h
    split at h <;> cases h
theorem minW_is : ∀ {ws : List (Nat × Nat)} {p : Nat × Nat}, minW ws = some p → IsMinW ws p
  | p :: ps, r, h => by
    unfold minW at h
    split at h
    · rename_i e
      have e := minW_none e
      subst e
      cases h
      exact ⟨List.mem_cons_self, fun q hq => by
        rw [List.mem_singleton.mp hq]
        unfold PLe
        omega⟩
    · rename_i q e
      have h0 : lexMin p q = r := Option.some.inj h
      have ih := minW_is e
      unfold lexMin at h0
      split at h0
      · rename_i c
        subst h0
        refine ⟨List.mem_cons_of_mem _ ih.1, fun x hx => ?_⟩
        rcases List.mem_cons.mp hx with rfl | hx
        · unfold PLe
          omega
        · exact ih.2 x hx
      · rename_i c
        subst h0
        refine ⟨List.mem_cons_self, fun x hx => ?_⟩
        rcases List.mem_cons.mp hx with rfl | hx
        · unfold PLe
          omega
        · have := ih.2 x hx
          unfold PLe at this ⊢
          omega
theorem minW_of {ws : List (Nat × Nat)} {p : Nat × Nat} (h : IsMinW ws p) : minW ws = some p := by
  cases e : minW ws with
  | none =>
    rw [minW_none e] at h
    cases h.1
  | some q =>
    have hq := minW_is e
    rw [PLe.antisymm (hq.2 p h.1) (h.2 q hq.1)]
def prI (p : Nat × Nat) : List Int := [(p.1 : Int), (p.2 : Int)]
theorem lexLt_pr (p q : Nat × Nat) : HT.lexLt (prI p) (prI q) = decide (p.1 < q.1 ∨ (p.1 = q.1 ∧ p.2 < q.2)) := by
  show (if (p.1 : Int) = q.1 then (if (p.2 : Int) = q.2 then false else decide ((p.2 : Int) < q.2)) else decide ((p.1 : Int) < q.1)) = _
  by_cases h : (p.1 : Int) = q.1
  · rw [if_pos h]
    by_cases h2 : (p.2 : Int) = q.2
    · rw [if_pos h2]
      exact (decide_eq_false (by omega)).symm
    · rw [if_neg h2]
      exact decide_eq_decide.mpr (by omega)
  · rw [if_neg h]
    exact decide_eq_decide.mpr (by omega)
theorem least_is {ws : List (Nat × Nat)} : ∀ k, k < ws.length → leastT (ws.map prI) k ≤ k ∧ ∀ j, j ≤ k → ∀ p q, ws[leastT (ws.map prI) k]? = some p → ws[j]? = some q → PLe p q
  | 0, hk => ⟨Nat.le_refl _, fun j hj p q hp hq => by
    have : j = 0 := by omega
    subst this
    have hp : ws[0]? = some p := hp
    rw [hp] at hq
    cases hq
    unfold PLe
    omega⟩
  | k + 1, hk => by
    obtain ⟨h1, h2⟩ := least_is (ws := ws) k (by omega)
    have gd : ∀ i, (hi : i < ws.length) → (ws.map prI).getD i [] = prI ws[i] := fun i hi => by
      rw [List.getD_eq_getElem?_getD, List.getElem?_map, List.getElem?_eq_getElem hi]
      rfl
    have hl : leastT (ws.map prI) k < ws.length := by omega
    unfold leastT
    rw [gd (k + 1) hk, gd _ hl, lexLt_pr]
    by_cases c : (ws[k + 1].1 < ws[leastT (ws.map prI) k].1 ∨ (ws[k + 1].1 = ws[leastT (ws.map prI) k].1 ∧ ws[k + 1].2 < ws[leastT (ws.map prI) k].2))
    · rw [decide_eq_true c]
      simp only [if_true]
      refine ⟨Nat.le_refl _, fun j hj p q hp hq => ?_⟩
      rw [List.getElem?_eq_getElem hk] at hp
      cases hp
      by_cases ej : j = k + 1
      · subst ej
        rw [List.getElem?_eq_getElem hk] at hq
        cases hq
        unfold PLe
        omega
      · have := h2 j (by omega) _ q (List.getElem?_eq_getElem hl) hq
        unfold PLe at this ⊢
        omega
    · rw [decide_eq_false c]
      simp only [Bool.false_eq_true, if_false]
      refine ⟨by omega, fun j hj p q hp hq => ?_⟩
      rw [List.getElem?_eq_getElem hl] at hp
      cases hp
      by_cases ej : j = k + 1
      · subst ej
        rw [List.getElem?_eq_getElem hk] at hq
        cases hq
        unfold PLe
        omega
      · exact h2 j (by omega) _ q (List.getElem?_eq_getElem hl) hq
theorem least_min {ws : List (Nat × Nat)} (h : 0 < ws.length) : ∃ p, ws[leastT (ws.map prI) ((ws.map prI).length - 1)]? = some p ∧ minW ws = some p := by
  rw [List.length_map]
  obtain ⟨h1, h2⟩ := least_is (ws := ws) (ws.length - 1) (by omega)
  have hl : leastT (ws.map prI) (ws.length - 1) < ws.length := by omega
  refine ⟨_, List.getElem?_eq_getElem hl, minW_of ⟨List.getElem_mem hl, fun q hq => ?_⟩⟩
  obtain ⟨j, hj, e⟩ := List.mem_iff_getElem.mp hq
  exact h2 j (by omega) _ q (List.getElem?_eq_getElem hl) (by rw [List.getElem?_eq_getElem hj, e])
/-- where to a house puts what goes to another one -/
def wy (X : Mx) (o : Nat) (q : Nat × Nat × Nat) : Nat × Nat := (q.2.1 + X q.1 o, q.1)
def nextW (ws : List (Nat × Nat)) : Option Nat := match minW ws with
  | some p => if 24 ≤ p.1 then none else some p.2
  | none => none
def nextOf (L : Lan) (X : Mx) (h o : Nat) : Option Nat := nextW ((nbrs L h).map (wy X o))
def optV : Option Nat → V
  | some n => .int n
  | none => .non
end Wn

namespace Wn
open PySem PySem.Spec PyProof.Rows L2
section
variable {X : Cx} {e : Expr} {es : List Expr} {ta : TA} {p1 p2 pos : Pos}
/-- NetError.__init__(self, ..), NetError an own class over ValueError without an __init__ of its own -/
theorem pe_ownInit {pl : Sem Bool} {x : Str} {N : Addr} (hg : Gl X x) (hm : X.mg x = some (.ref N)) (hsp : PySem.W.specialIn X.K (.ref N) "__getattribute__" = some (some (.builtin "type.__getattribute__"))) (hrd : PySem.W.readsIn X.K N (.type "type") = true)
    (vV : PySem.W.findCls X.K (.ref N) (.type "type") "__init__" = some (.val (.builtin "ValueError.__init__"))) (ha : PA X (e :: es) ta)
    (hc : eval (.Call (.Attribute (.Name x p1) "__init__" p2) (e :: es) [] pos) X.env = (do
      let ov ← eval (.Name x p1) X.env
      standAt p2.atName
      let (f, first) ← holding [ov] (getMethod ov "__init__" pl)
      callWith pos f first (backTo pos (starEach (e :: es) X.env)) (backToKw pos (keywordEach [] X.env))) := by rfl)
    (hdb : (x == ("__debug__" : Str)) = false := by decide)
    (he : starEach (e :: es) X.env = (false, eval e X.env) :: starEach es X.env := by rfl) (hpl : (backTo pos (starEach es X.env)).any (·.1) = false := by rfl) :
    PE X (.Call (.Attribute (.Name x p1) "__init__" p2) (e :: es) [] pos) (tVeI X.K ta) := by
  refine ⟨fun pins s σ H Q I h => ?_⟩
  refine PySem.W.methodCall_KW (ld_glob I hg hm ?_ hdb) hc
  refine PySem.W.method_cls I.kIn hsp (PySem.W.cls_value I.kIn hrd vV (by decide +kernel) ?_)
  show wpAny _ _ (callWith pos (Value.builtin "ValueError.__init__") [] (backTo pos (starEach (e :: es) X.env)) []) _ _ _
  refine PyProof.Rows.callWith_method1 (thn (ha.run pos pins _ σ H _ (I.tok _) h) fun us s1 ⟨vs, H1, I1, r1, a, C, ws, ev, hl, T, ea, q⟩ => ?_) he hpl
  subst ev
  cases r1 with
  | @cons _ u0 _ ur ra rw' =>
    obtain rfl : u0 = Value.ref a := ra
    have hlen : ur.length ≤ sizeLine := by
      rw [← Paired.length rw', sizeLine_eq]
      omega
    exact oinit_ok T I1 ea hlen fun s' J => ⟨.non, H1, J, rfl, q⟩
end
end Wn

namespace Wn
open PySem PySem.Spec PyProof.Rows L2
/-! isinstance of a caught error, with or without a dict of its own -/
section
open PySem.W
variable {prog : Program} {w : World} {A : Around} {E : Value → Shared → Prop} {s : Shared} {K : Frag} {x D : Addr} {ox : Obj} {od : Option Obj}
theorem findObj_dataO {C : Addr} {name : Str} {a g : Value} (hc : (clsIn K C).isSome = true) (ha : findIn K (.ref C) name = some (some a)) (hg : specialIn K a "__get__" = some (some g)) (ht : takesIn K a = some true) : findObj K C od name = some (.bind g a) := by
  obtain ⟨cd, hc⟩ := Option.isSome_iff_exists.mp hc
  unfold findObj
  rw [hc, Option.bind_some, ha, Option.bind_some]
  simp [hg, ht]
theorem kin_classO {Q : Option Value → Shared → Prop} (T : ExcC K D) (X : K.In s.heap) (I : InstAt s.heap x ox D od) (h : Q (some (.ref D)) { s with toks := s.toks + 1 }) : wpAny (model prog w) A (getAttr? (.ref x) "__class__") Q E s := by
  have hf : findObj K D od "__class__" = some (.bind (.builtin "getset_descriptor.__get__") (.builtin "object.__class__")) := findObj_dataO (by obtain ⟨cd, hc, _⟩ := any_some T.hd; rw [hc]; rfl) T.ha T.hn T.ht
  obtain ⟨hp, g, d, t, os⟩ := s
  have L0 := I.type (M := model prog w)
  have L1 := looks_findIn (M := model prog w) X T.hg
  have L2 := looks_findIn (M := model prog w) X T.hk
  have L3 := looks_find (M := model prog w) X I hf
  have sub : Looks (model prog w) hp (isInstance (.ref x) (.type "BaseException")) true := L0.andThen (looks_subIn X T.hs)
  have hx0 : (false && onTheHeap (Value.builtin "BaseException.__getattribute__")) = false := rfl
  have hx2 : (Value.builtin "BaseException.__getattribute__" == Value.builtin "object.__getattribute__") = false := by decide +kernel
  have hx1 : (onTheHeap (Value.ref D) && Value.builtin "BaseException.__getattribute__" == Value.builtin "object.__getattribute__") = false := by rw [hx2]; rfl
  unfold getAttr? getAttrBy? getAttrBy
  refine wpAny_bind (wpAny_mkText (wpAny_bind (wpAny_attempt (wpAny_holding (wpAny_bind (L0.at (wpAny_bind (L1.at ?_))))))))
  show wpAny _ _ (if (onTheHeap (Value.ref D) && Value.builtin "BaseException.__getattribute__" == Value.builtin "object.__getattribute__") = true then _ else _) _ _ _
  rw [hx1, if_neg Bool.false_ne_true]
  unfold getAttrByItsOwn hookBefore
  refine wpAny_bind ?_
  rw [if_pos (show onTheHeap (Value.ref D) = true from rfl)]
  refine L2.at ?_
  refine wpAny_bind (wpAny_attempt (wpAny_holding ?_))
  unfold callGetattribute
  rw [hx0, if_neg Bool.false_ne_true]
  unfold boundAndCalled
  rw [PySem.F.excAttr_ValueError.ga.bind (.ref x)]
  refine wpAny_bind (wpAny_pure ?_)
  show wpAny _ _ (call (.builtin "BaseException.__getattribute__") [.ref x, .str "__class__" t]) _ _ _
  refine wpAny_call (codeAny_call_builtin PySem.F.excAttr_ValueError.ga.plain PySem.F.entry_bexc_ga ?_)
  refine @check_slot (model prog w) _ _ ⟨hp, g, d, t + 1, os⟩ "BaseException.__getattribute__" "BaseException" "__getattribute__" (.ref x) [.str "__class__" t] [] _ (by decide +kernel) (by decide +kernel) sub (PySem.F.args_bexc_ga (.ref x) (.str "__class__" t)) ?_
  unfold Builtin.«object.__getattribute__»
  refine wpAny_bind (wpAny_of_eq (a := ((Value.ref x : Value), [Value.str "__class__" t])) (by first | rfl | (simp only [slotArgs]; rfl)) ?_)
  refine wpAny_bind (wpAny_pure (wpAny_bind (L0.at (wpAny_bind (L3.at ?_)))))
  show wpAny _ _ (holding [Value.builtin "object.__class__"] (call (.builtin "getset_descriptor.__get__") [.builtin "object.__class__", .ref x, .ref D]) >>= ret) _ _ _
  refine wpAny_bind (wpAny_holding (wpAny_call (class_get (s := ⟨hp, g, d, t + 1, os⟩) (ox := ox) (od := od) X I T.hm ?_)))
  refine wpAny_pure ?_
  show wpAny _ _ (handedOut (.ref D)) _ _ _
  rw [handedOut_of (v := .ref D) rfl]
  first
    | exact wpAny_pure (wpAny_pure h)
    | exact wpAny_pure h
    | exact wpAny_pure (wpAny_bind (wpAny_pure (wpAny_pure h)))
theorem kitx_excO (T : ExcC K D) : KitX K (.ref x) (.ref D) (fun h => InstAt h x ox D od) where
  ty := fun _ _ _ I => I.type
  it := fun _ _ X _ => by
    obtain ⟨cdD, hcD, _⟩ := any_some T.hd
    unfold clsIn at hcD
    split at hcD
    · rename_i c' d' cd' sl' ho
      intro A' Q' E' s' k q
      unfold isType loadHead
      exact wpAny_bind (wpAny_loadPart (k _ _ (X _ _ ho)) (wpAny_pure q))
    · cases hcD
  ne := fun h tp dd its n sl X htp => by
    obtain ⟨cdD, hcD, _⟩ := any_some T.hd
    refine Bool.eq_false_iff.mpr fun q => ?_
    have e : D = tp := Value.ref.inj (beq_iff_eq.mp q)
    subst e
    unfold clsIn at hcD
    split at hcD
    · rename_i c' d' cd' sl' ho
      have z := (X _ _ ho).symm.trans htp
      cases z
    · cases hcD
  ca := fun X I k => kin_classO T X I k
end
/-- the dict of a caught error: none, or one that stands -/
def XdAt (H : Hp) (d : Option Addr) : Prop := d = none ∨ ∃ (dd : Addr) (fs : List (Str × V)), d = some dd ∧ H dd = some (.xd fs)
/-- isinstance(e, c) or isinstance(e, (c, ..)), e the exception that the suite holds at a -/
def rIsX (K : PySem.W.Frag) (a : Addr) (cls : Value) (d : Option Addr) : List V → Hp → VK → Prop := fun xs H Q => ∃ D : Addr, cls = .ref D ∧ ExcC K D ∧ XdAt H d ∧
  ((∃ (c : V) (cv : Value) (b : Bool), xs = [.ref a, c] ∧ ClsV c cv ∧ PySem.W.kitOne K (.ref D) cv = some b ∧ Q (.bl b) H) ∨
   (∃ (tp : Addr) (cs : List V) (us : List Value) (b : Bool), xs = [.ref a, .ref tp] ∧ H tp = some (.tup cs) ∧ Paired ClsV cs us ∧ PySem.W.kitAny K (.ref D) us = some b ∧ Q (.bl b) H))
theorem call_isX {X : Cx} {a : Addr} {cls : Value} {d : Option Addr} {oe : Obj} {pn : List (Addr × Obj)} (hz : Zc cls d oe) (hf : ∃ vs, oe.data = .fields vs) : CallR (X.suite a ((a, oe) :: pn)) (.builtin "isinstance") (rIsX X.K a cls d) := by
  intro pins s σ H xs us Q I r h
  obtain ⟨D, rfl, C, hd, h⟩ := h
  obtain ⟨hget, _⟩ := I.pin (a, oe) (List.mem_append.mpr (.inl List.mem_cons_self))
  obtain ⟨vs, hv⟩ := hf
  have J : ∃ od, PySem.W.InstAt s.heap a oe D od := by
    obtain ⟨oc, oD, oda, osl⟩ := oe
    obtain ⟨h1, h2⟩ := hz
    dsimp only at h1 h2 hv
    subst h1 h2 hv
    rcases hd with rfl | ⟨dd, fs, rfl, ed⟩
    · exact ⟨none, hget, rfl, rfl, trivial⟩
    · have hx : ObjOk X.prog X.w H s.heap dd (.xd fs) := I.hok dd _ ed
      obtain ⟨mA, hns, hr⟩ := hx
      obtain ⟨od, ho, hl⟩ := lookIn_ns hns
      exact ⟨some od, hget, rfl, rfl, ho⟩
  obtain ⟨od, J⟩ := J
  rcases h with ⟨c, cv, b, rfl, hcv, e, q⟩ | ⟨tp, cs, ws, b, rfl, hT, k, e, q⟩
  · obtain ⟨u1, u2, rfl, r1, r2⟩ := vals2 r
    cases (show u1 = Value.ref a from r1)
    have ec := hcv.eq r2
    subst ec
    exact PySem.W.kia_one (kitx_excO C) I.kIn J e (fun z => nomatch z) fun tk => ⟨.bl b, H, I.tok tk, rfl, q⟩
  · obtain ⟨u1, u2, rfl, r1, r2⟩ := vals2 r
    cases (show u1 = Value.ref a from r1)
    cases (show u2 = Value.ref tp from r2)
    obtain ⟨_, its, rv, o, h1, h2, n, h3⟩ := (show ObjOk X.prog X.w H s.heap tp (.tup cs) from I.hok tp _ hT)
    have e3 := ClsV.all k rv
    subst e3
    obtain ⟨oc, od', dt, sl⟩ := o
    simp only at h2 h3
    subst h2 h3
    exact PySem.W.kia_tup (kitx_excO C) I.kIn J h1 e (fun z => nomatch z) fun tk => ⟨.bl b, H, I.tok tk, rfl, q⟩
/-! the promises of the errors' makers -/
/-- C.__init__(self, v): one field -/
def spX1 (C : Addr) (f : Str) : Sp := fun vs H Q _ => ∃ (a : Addr) (v : V), vs = [.ref a, v] ∧ H a = some (exo a C none) ∧ ∀ dx, H dx = none → dx ≠ a → Q .non (upd (upd H dx (exd dx [(f, v)])) a (exo a C (some dx)))
/-- two fields -/
def spX2 (C : Addr) (f g : Str) : Sp := fun vs H Q _ => ∃ (a : Addr) (v u : V), vs = [.ref a, v, u] ∧ H a = some (exo a C none) ∧ ∀ dx, H dx = none → dx ≠ a → Q .non (upd (upd H dx (exd dx [(g, u), (f, v)])) a (exo a C (some dx)))
/-- none -/
def spX0 (C : Addr) : Sp := fun vs H Q _ => ∃ (a : Addr), vs = [.ref a] ∧ H a = some (exo a C none) ∧ Q .non H
theorem upd_del {H : Hp} {a dx : Addr} {o1 o2 o3 o4 : HO} (ha : H a = none) (hd : dx ≠ a) : upd (del (upd (upd (upd H a o1) dx o2) a o3) a) dx o4 = upd H dx o4 := by
  funext b
  by_cases h : b = dx
  · rw [h, upd_same, upd_same]
  · rw [upd_ne h, upd_ne h]
    by_cases g : b = a
    · rw [g, del_same, ha]
    · rw [del_ne g, upd_ne g, upd_ne h, upd_ne g]
theorem del_upd {H : Hp} {a : Addr} {o : HO} (ha : H a = none) : del (upd H a o) a = H := by
  funext b
  by_cases g : b = a
  · rw [g, del_same, ha]
  · rw [del_ne g, upd_ne g]
/-- the end of C(): the exception is let go; it has no dict -/
theorem mk_endN {X : Cx} {pins : List (Addr × Obj)} {σ : L2.St} {H1 H2 : Hp} {Q : XK} {hp hp2 h2 : Heap} {g1 g2 : Array GenState} {d1 d2 : Drawn} {t1 t2 : Nat} {os1 os2 : OsState} {a C : Addr} (T : Raises X (.ref C)) (I1 : Inv X pins σ H1 ⟨hp, g1, d1, t1, os1⟩)
    (ha : hp.objs.size ≤ a) (k : ∀ b o, hp.get? b = some o → hp2.get? b = some o) (un : Un (frs X.stack) [] (upd H1 a (exo a C none)) H2 hp2 h2) (hok : HOk X.prog X.w H2 h2) (ho : os2 = os1) (hb : AllBare g2)
    (ea : H2 a = some (exo a C none)) (q : Q (.ref C) none (del H2 a)) : MkP X pins σ Q (.ref a) ⟨h2, g2, d2, t2, os2⟩ := by
  obtain ⟨t0, hoe⟩ := exo_at hok ea
  have hn : H1 a = none := I1.hok.fresh ha
  obtain ⟨G, g1', g2'⟩ := restrict h2 fun b => decide (b ≠ a)
  have gk : ∀ b, b ≠ a → G.get? b = h2.get? b := fun b hb => g1' b (decide_eq_true hb)
  have ge : G.get? a = none := g2' a (by simp)
  have nha : ∀ {b : Addr} {o : Obj}, hp.get? b = some o → b ≠ a := fun {b o} z => Nat.ne_of_lt (Nat.lt_of_lt_of_le (Heap.lt_size z) ha)
  have up : ∀ {b : Addr}, b ≠ a → H1 b = none → upd H1 a (exo a C none) b = none := fun {b} hb n => by rw [upd_ne hb]; exact n
  have U : Un (frs X.stack) [] H1 (del H2 a) hp G := {
    keep := fun b o z n hf hx => by
      rw [gk b (nha z)]
      exact un.keep b o (k b o z) (up (nha z) n) hf hx
    slot := fun b o z n hf hx => by
      rw [gk b (nha z)]
      exact un.slot b o (k b o z) (up (nha z) n) hf hx
    free := fun b o z n hx => by
      rw [del_ne (nha z)]
      exact un.free b o (k b o z) (up (nha z) n) hx
    there := fun b o z hx => by
      rw [gk b (nha z)]
      exact un.there b o (k b o z) hx
    tups := fun b xs z => by
      rw [del_ne (ne_of_none z hn)]
      exact un.tups b xs (by rw [upd_ne (ne_of_none z hn)]; exact z)
    frzs := fun b o v z => by
      rw [del_ne (ne_of_none z hn)]
      exact un.frzs b o v (by rw [upd_ne (ne_of_none z hn)]; exact z)
    tbls := fun b ps z => by
      rw [del_ne (ne_of_none z hn)]
      exact un.tbls b ps (by rw [upd_ne (ne_of_none z hn)]; exact z) }
  have hok3 : HOk X.prog X.w (del H2 a) G := fun b o z => by
    have hba : b ≠ a := fun e => by
      rw [e, del_same] at z
      cases z
    rw [del_ne hba] at z
    have noa : ∀ {c : Addr}, H2 c = some (.own b) → c ≠ a := fun {c} hc => at_ne ea hc exo_own
    exact (hok b o z).stay (fun c v hc y => by
        have hca : c ≠ a := by
          rcases hc with hc | hc
          · rw [hc]
            exact hba
          · exact noa hc
        rw [gk c hca]
        exact y)
      (fun c hc => by rw [del_ne (noa hc)]; exact hc) (fun c xs hc => by rw [del_ne (at_ne ea hc exo_tup)]; exact hc)
  have J : Inv X pins σ (del H2 a) ⟨G, g2, d2, t2, os2⟩ := I1.call' (ch := []) ho U hok3 hb (fun b z => absurd z (by simp))
  refine ⟨a, _, _, ⟨G, g2, d2, t2, os2⟩, _, .ref C, none, rfl, J, fun b o z => ?_, ge, hoe, ⟨rfl, rfl⟩, rfl, rfl, del_same, rfl, hb, T, q⟩
  by_cases hba : b = a
  · rw [hba] at z
    rw [show G.get? a = none from ge] at z
    cases z
  · exact (gk b hba).symm.trans z
/-- C(), C's own __init__ keeping sp -/
def tMkN (C : Addr) (sp : Sp)   : L2.St → Hp → XK → Prop := fun σ H Q => ∀ a, H a = none → sp [.ref a] (upd H a (exo a C none)) (fun v H2 => v = .non ∧ H2 a = some (exo a C none) ∧ Q (.ref C) none (del H2 a)) (fun _ _ _ => False)
section
variable {X : Cx} {p pos : Pos}
theorem pmk_oexN {CX : CXT} {x : Str} {C fI : Addr} {k : Nat} {fd : FuncData} {ps : List Str} {sp : Sp} (T : OexC X.K C) (iC : PySem.W.findIn X.K (.ref C) "__init__" = some (some (.ref fI))) (tI : PySem.W.typeIn X.K (.ref fI) = some (.type "function"))
    (F1 : FnOk X.prog X.w X.K X.mg X.base CX k fI fd ps sp) (hr : Room (k + 1) X.A) (hb : Binds X.K fd ps []) (hx : Passes CX X (fun _ _ _ => False)) (hg : Gl X x) (hm : X.mg x = some (.ref C))
    (hdb : (x == ("__debug__" : Str)) = false := by decide) :
    PMk X (.Call (.Name x p) [] [] pos) (tMkN C sp) := by
  intro pins s σ H1 Q I1 q1
  obtain ⟨nm, q, N, bs, bm, sn, sub, ab, col, dd, k0, k1, k2, k3, k5, hC, hbm⟩ := T.cls
  refine wpAny_Call_Name_kw (ld_glob I1 hg hm ?_ hdb)
  refine PySem.W.callWith_K0 I1.kIn T.kC ?_
  show wpAny _ _ (call (.ref C) []) _ _ _
  obtain ⟨hp, g, dr, tk, os⟩ := s
  have hsz : hp.objs.size ≤ hp.objs.size + 1 := Nat.le_succ _
  have hn : H1 (hp.objs.size + 1) = none := I1.hok.fresh hsz
  have hq : sp _ _ _ _ := q1 (hp.objs.size + 1) hn
  have kk : ∀ b o, hp.get? b = some o → ((hp.push (PySem.W.kdv_tup [])).push (PySem.HandSPX.excO C hp.objs.size)).get? b = some o := fun b o e => Heap.get?_push_of_some _ (Heap.get?_push_of_some _ e)
  have hget : ((hp.push (PySem.W.kdv_tup [])).push (PySem.HandSPX.excO C hp.objs.size)).get? (hp.objs.size + 1) = some (PySem.HandSPX.excO C hp.objs.size) := by heap_get
  have I2 : Inv X pins σ (upd H1 (hp.objs.size + 1) (exo (hp.objs.size + 1) C none)) ⟨(hp.push (PySem.W.kdv_tup [])).push (PySem.HandSPX.excO C hp.objs.size), g, dr, tk, os⟩ :=
    I1.laid (t' := tk) (a := hp.objs.size + 1) (o := exo (hp.objs.size + 1) C none) (h' := (hp.push (PySem.W.kdv_tup [])).push (PySem.HandSPX.excO C hp.objs.size)) kk hsz (exo_ok hget)
  have r2 : Vals [V.ref (hp.objs.size + 1)] [Value.ref (hp.objs.size + 1)] := .cons rfl .nil
  have hl : ([Value.ref (hp.objs.size + 1)] ++ []).length = ps.length := by
    have e := F1.len _ _ _ _ hq
    exact e
  refine wpAny_call (PySem.HandSPX.call_own F.excBase_ValueError (fun Y => PySem.HandSPX.refsVE_contains Y bm hbm) (I1.kIn _ _ hC) (PySem.W.looks_findIn I1.kIn iC) (fun self => PySem.W.bind_fn I1.kIn self tI) (Nat.zero_le _)
    (codeAny_mono (F1.run _ X.stack _ _ ⟨[Value.ref (hp.objs.size + 1)], []⟩ [Value.ref (hp.objs.size + 1)] _ _ (fun _ _ _ => False) (hr.make C [] []) (I2.env0.make C [] []) (by have b := hb _ [Value.ref (hp.objs.size + 1)] I2.kIn hl; exact b) r2 hq) fun r s' hq' => ?_))
  cases r with
  | error er => exact hx pins σ _ _ er s' I2 hq'
  | ok fl =>
    cases fl with
    | ret u =>
      obtain ⟨v, H2, os2, bare2, un2, hok2, rv, ev, ea, q2⟩ := hq'
      subst ev
      obtain ⟨h2, g2, d2, t2, os'⟩ := s'
      exact ⟨rv, mk_endN (raises_own T.exC T.tyC) I1 hsz kk un2 hok2 os2 bare2 ea q2⟩
    | next => exact False.elim hq'
    | brk => exact False.elim hq'
    | cont => exact False.elim hq'
theorem PMk.imp {X : Cx} {e : Expr} {t t'   : L2.St → Hp → XK → Prop} (h : PMk X e t) (i : ∀ σ H Q, t' σ H Q → t σ H Q) : PMk X e t' := fun pins s σ H Q I q => h pins s σ H Q I (i _ _ _ q)
/-- the class over all of them: NetError at N, over ValueError, without an __init__ of its own -/
structure NetE (K : PySem.W.Frag) (mg : Str → Option Value) (N : Addr) : Prop where
  g : mg "NetError" = some (.ref N)
  sp : PySem.W.specialIn K (.ref N) "__getattribute__" = some (some (.builtin "type.__getattribute__"))
  rd : PySem.W.readsIn K N (.type "type") = true
  v : PySem.W.findCls K (.ref N) (.type "type") "__init__" = some (.val (.builtin "ValueError.__init__"))
theorem upd_upd {H : Hp} {a : Addr} {o u : HO} : upd (upd H a o) a u = upd H a u := by
  funext b
  by_cases g : b = a
  · rw [g, upd_same, upd_same]
  · rw [upd_ne g, upd_ne g, upd_ne g]
theorem upd_swap {H : Hp} {a b : Addr} {o u : HO} (n : a ≠ b) : upd (upd H b o) a u = upd (upd H a u) b o := by
  funext c
  by_cases g : c = a
  · rw [g, upd_same, upd_ne n, upd_same]
  · rw [upd_ne g]
    by_cases g' : c = b
    · rw [g', upd_same, upd_same]
    · rw [upd_ne g', upd_ne g', upd_ne g]
/-- an own error class x at C, as the law's callers need it: its maker keeps sp -/
structure Err (P : Program) (w : World) (K : PySem.W.Frag) (mg : Str → Option Value) (base : Heap) (x : Str) (C : Addr) (ps : List Str) (sp : Sp) : Prop where
  t : OexC K C
  g : mg x = some (.ref C)
  mkr : ∃ (fI : Addr) (fd : FuncData), PySem.W.findIn K (.ref C) "__init__" = some (some (.ref fI)) ∧ PySem.W.typeIn K (.ref fI) = some (.type "function") ∧ FnOk P w K mg base CX0 1 fI fd ps sp ∧ Binds K fd ps []
theorem err1_ok {H : Hp} {C : Addr} {f : Str} {v : V} {Q : XK} (q : ∀ d, H d = none → Q (.ref C) (some d) (upd H d (.xd [(f, v)]))) :
    ([v] : List V).length ≤ 1000 ∧ ∀ a, H a = none → spX1 C f (.ref a :: ([v] ++ [])) (upd H a (exo a C none))
      (fun v H2 => v = .non ∧ ∃ (d : Addr) (fs : List (Str × V)), H2 a = some (exo a C (some d)) ∧ H2 d = some (exd d fs) ∧ H d = none ∧ Q (.ref C) (some d) (upd (del H2 a) d (.xd fs))) (fun _ _ _ => False) := by
  refine ⟨(by simp), fun a ha => ⟨a, v, rfl, upd_same, fun dx hd ne => ⟨rfl, dx, [(f, v)], upd_same, ?_, ?_, ?_⟩⟩⟩
  · rw [upd_ne ne, upd_same]
  · rw [upd_ne ne] at hd
    exact hd
  · rw [upd_del ha ne]
    rw [upd_ne ne] at hd
    exact q dx hd
theorem err2_ok {H : Hp} {C : Addr} {f g : Str} {v u : V} {Q : XK} (q : ∀ d, H d = none → Q (.ref C) (some d) (upd H d (.xd [(g, u), (f, v)]))) :
    ([v, u] : List V).length ≤ 1000 ∧ ∀ a, H a = none → spX2 C f g (.ref a :: ([v, u] ++ [])) (upd H a (exo a C none))
      (fun v H2 => v = .non ∧ ∃ (d : Addr) (fs : List (Str × V)), H2 a = some (exo a C (some d)) ∧ H2 d = some (exd d fs) ∧ H d = none ∧ Q (.ref C) (some d) (upd (del H2 a) d (.xd fs))) (fun _ _ _ => False) := by
  refine ⟨(by simp), fun a ha => ⟨a, v, u, rfl, upd_same, fun dx hd ne => ⟨rfl, dx, [(g, u), (f, v)], upd_same, ?_, ?_, ?_⟩⟩⟩
  · rw [upd_ne ne, upd_same]
  · rw [upd_ne ne] at hd
    exact hd
  · rw [upd_del ha ne]
    rw [upd_ne ne] at hd
    exact q dx hd
theorem err0_ok {H : Hp} {C : Addr} {σ : L2.St} {Q : XK} (q : Q (.ref C) none H) : tMkN C (spX0 C) σ H Q := fun a ha => by
  refine ⟨a, rfl, upd_same, rfl, upd_same, ?_⟩
  rw [del_upd ha]
  exact q
theorem pmk_err0 {x : Str} {C : Addr} {ps : List Str} {sp : Sp} (T : Err X.prog X.w X.K X.mg X.base x C ps sp) (hr : Room 2 X.A) (hg : Gl X x) (hdb : (x == ("__debug__" : Str)) = false := by decide) : PMk X (.Call (.Name x p) [] [] pos) (tMkN C sp) := by
  obtain ⟨fI, fd, iC, tI, F1, hb⟩ := T.mkr
  exact pmk_oexN T.t iC tI F1 hr hb (fun _ _ _ _ _ _ _ h => h.elim) hg T.g hdb
theorem pmk_err {x : Str} {C : Addr} {ps : List Str} {sp : Sp} {e : Expr} {es : List Expr} {ta : TA} (T : Err X.prog X.w X.K X.mg X.base x C ps sp) (hr : Room 2 X.A) (hg : Gl X x) (ha : PA X (e :: es) ta) (hdb : (x == ("__debug__" : Str)) = false := by decide)
    (he : starEach (e :: es) X.env = (false, eval e X.env) :: starEach es X.env := by rfl) (hpl : (backTo pos (starEach es X.env)).any (·.1) = false := by rfl) :
    PMk X (.Call (.Name x p) (e :: es) [] pos) (tMkO C sp [] ta) := by
  obtain ⟨fI, fd, iC, tI, F1, hb⟩ := T.mkr
  exact pmk_oex T.t iC tI F1 hr hb .nil (fun _ _ _ _ _ _ _ h => h.elim) hg T.g ha hdb he hpl
theorem passF : Passes (L2.CX X.prog X.w) X (fun _ _ _ => False) := passes_call takes0 (fun _ _ _ _ h => h)
end
end Wn

namespace Wn
open PySem L2
/-! ### what callers know of defs that may raise, of methods, of classes -/
def CdX (P : Program) (w : World) (K : PySem.W.Frag) (mg : Str → Option Value) (base : Heap) (k : Nat) (name : Str) (ps : List Str) (sp : Sp) : Prop :=
  ∃ (f : Addr) (fd : FuncData), FnOk P w K mg base (L2.CX P w) k f fd ps sp ∧ mg name = some (.ref f) ∧ PySem.W.keepIn K (.ref f) = true ∧ Binds K fd ps []
def MdX (P : Program) (w : World) (K : PySem.W.Frag) (mg : Str → Option Value) (base : Heap) (k : Nat) (C : Addr) (name : Str) (ps : List Str) (sp : Sp) : Prop :=
  ∃ (f : Addr) (fd : FuncData), FnOk P w K mg base (L2.CX P w) k f fd ps sp ∧ Meth K C name f ∧ Binds K fd ps []
/-- a class that is made by an __init__ that raises nothing, or may raise -/
def Nw (P : Program) (w : World) (K : PySem.W.Frag) (mg : Str → Option Value) (base : Heap) (k : Nat) (C : Addr) (name : Str) (ps : List Str) (sp : Sp) : Prop :=
  ∃ (f : Addr) (fd : FuncData), FnOk P w K mg base CX0 k f fd ps sp ∧ Mk K C f ∧ mg name = some (.ref C) ∧ Binds K fd ps []
def NwX (P : Program) (w : World) (K : PySem.W.Frag) (mg : Str → Option Value) (base : Heap) (k : Nat) (C : Addr) (name : Str) (ps : List Str) (sp : Sp) : Prop :=
  ∃ (f : Addr) (fd : FuncData), FnOk P w K mg base (L2.CX P w) k f fd ps sp ∧ Mk K C f ∧ mg name = some (.ref C) ∧ Binds K fd ps []
theorem fn_tkX {P : Program} {w : World} {K : PySem.W.Frag} {mg : Str → Option Value} {base : Heap} {CX : CXT} {k : Nat} {f : Addr} {fd : FuncData} {ps : List Str} {sp : Sp} (F : FnOk P w K mg base CX k f fd ps sp) :
    FnOk P w K mg base CX k f fd ps (Tk sp) := by
  refine ⟨fun vs H Q E q => F.len vs H _ E q, fun A outer s H args us vs Q E hr he hb hv hs => ?_⟩
  refine codeAny_mono (F.run A outer s H args us vs _ E hr he hb hv hs) fun r s' h => ?_
  cases r with
  | ok fl =>
    cases fl with
    | ret u =>
      obtain ⟨v, H', e1, e2, e3, e4, e5, q⟩ := h
      exact ⟨v, H', e1, e2, e3, e4, e5, q ⟨e3.tups, e3.frzs⟩⟩
    | _ => exact h
  | error e => exact h
section
variable {P : Program} {w : World} {K : PySem.W.Frag} {mg : Str → Option Value} {base : Heap} {k : Nat} {C : Addr} {name : Str} {ps : List Str} {sp : Sp}
theorem CdX.tk (h : CdX P w K mg base k name ps sp) : CdX P w K mg base k name ps (Tk sp) := by
  obtain ⟨f, fd, G, r⟩ := h
  exact ⟨f, fd, fn_tkX G, r⟩
theorem MdX.tk (h : MdX P w K mg base k C name ps sp) : MdX P w K mg base k C name ps (Tk sp) := by
  obtain ⟨f, fd, G, r⟩ := h
  exact ⟨f, fd, fn_tkX G, r⟩
theorem Nw.tk (h : Nw P w K mg base k C name ps sp) : Nw P w K mg base k C name ps (Tk sp) := by
  obtain ⟨f, fd, G, r⟩ := h
  exact ⟨f, fd, fn_tkX G, r⟩
theorem NwX.tk (h : NwX P w K mg base k C name ps sp) : NwX P w K mg base k C name ps (Tk sp) := by
  obtain ⟨f, fd, G, r⟩ := h
  exact ⟨f, fd, fn_tkX G, r⟩
end
theorem nodup_le {α : Type} [DecidableEq α] : ∀ {l l' : List α}, l.Nodup → (∀ x ∈ l, x ∈ l') → l.length ≤ l'.length
  | [], _, _, _ => Nat.zero_le _
  | x :: l, l', h, hs => by
    rw [List.nodup_cons] at h
    have hx := hs x List.mem_cons_self
    have h1 := nodup_le (l := l) (l' := l'.erase x) h.2 fun y hy => (List.mem_erase_of_ne (fun e => h.1 (by rw [← e]; exact hy))).mpr (hs y (List.mem_cons_of_mem _ hy))
    have h2 := List.length_erase_of_mem hx
    have h3 : 0 < l'.length := List.length_pos_of_mem hx
    rw [List.length_cons]
    omega
end Wn

set_option maxHeartbeats 800000
namespace Wn
open PySem L2
open SX (S S_len S_cat S_beq_eq join_S)
set_option pp.maxSteps 700
set_option pp.deepTerms false
local macro_rules | `(tactic| walk_at "h") => `(tactic| first | with_reducible assumption | (with_reducible exact upd_same) | (with_reducible apply g_upd; (walk_at "neq"); (walk_at "h")) | (with_reducible apply g_same; (with_reducible assumption); (walk_at "h")) | (with_reducible apply g_kp; (with_reducible assumption); (walk_at "nin"); (walk_at "h")) | (with_reducible apply g_tk; (with_reducible assumption); (walk_at "h")))
local macro_rules | `(tactic| walk_at "neq") => `(tactic| first | with_reducible assumption | (with_reducible apply Ne.symm; with_reducible assumption) | (with_reducible apply ne_upd; (with_reducible assumption)) | (with_reducible apply Ne.symm; with_reducible apply ne_upd; with_reducible assumption) | (with_reducible apply ne_fr; (with_reducible assumption); (walk_at "h")) | (with_reducible apply ne_fr'; (with_reducible assumption); (walk_at "h")) | (with_reducible apply ne_kd; (walk_at "h"); (walk_at "h"); (with_unfolding_all (intro z; cases z))))
local macro_rules | `(tactic| walk_at "nin") => `(tactic| first | (with_reducible exact nin0) | with_reducible assumption | (with_reducible apply ninc; (walk_at "neq"); (walk_at "nin")))
local macro_rules | `(tactic| walk_at "none") => `(tactic| first | with_reducible assumption | (with_reducible apply n_upd; (with_reducible assumption)) | (with_reducible apply n_same; (with_reducible assumption); (walk_at "none")) | (with_reducible apply n_kp; (with_reducible assumption); (walk_at "nin"); (walk_at "none")))
local macro_rules | `(tactic| walk_at "mem") => `(tactic| first | (with_reducible exact List.mem_cons_self) | (with_reducible apply List.mem_cons_of_mem; (walk_at "mem")))
local macro_rules | `(tactic| walk_at "am") => `(tactic| first | (with_reducible exact am0) | (with_reducible apply am1; (first | (apply Or.inl; walk_at "mem") | (apply Or.inr; walk_at "none")); (walk_at "am")))
local macro_rules | `(tactic| walk_at "tk") => `(tactic| first | (with_reducible exact TK.refl _) | with_reducible assumption | (with_reducible apply t_tk; (with_reducible assumption); (walk_at "tk")) | (with_reducible apply t_same; (with_reducible assumption); (walk_at "tk")) | (with_reducible apply t_new; (with_reducible assumption); (walk_at "tk")) | (with_reducible apply t_wr; (walk_at "h"); (with_unfolding_all rfl); (walk_at "tk")))
local macro_rules | `(tactic| walk_at "same") => `(tactic| first | (with_reducible exact L2.Same.refl _) | with_reducible assumption | (with_reducible apply s_same; (with_reducible assumption); (walk_at "same")) | (with_reducible apply s_new; (with_reducible assumption); (walk_at "same")) | (with_reducible apply s_wrn; (walk_at "none"); (walk_at "same")))
local macro_rules | `(tactic| walk_at "kp") => `(tactic| first | (with_reducible exact Kp.refl _ _) | with_reducible assumption | (with_reducible apply k_same; (with_reducible assumption); (walk_at "kp")) | (with_reducible apply k_kp; (with_reducible assumption); (walk_at "kp")) | (with_reducible apply k_kpm; (with_reducible assumption); (walk_at "am"); (walk_at "kp")) | (with_reducible apply k_new; (with_reducible assumption); (walk_at "kp")) | (with_reducible apply k_wr; (walk_at "mem"); (walk_at "kp")) | (with_reducible apply k_wrn; (walk_at "none"); (walk_at "kp")))
local macro_rules | `(tactic| walk_at "rp") => `(tactic| first | with_reducible assumption | (with_reducible exact Rp.int) | (with_reducible exact Rp.str) | (with_reducible exact Rp.none) | (with_reducible exact Rp.bool) | (with_reducible apply Rp.tk'; (with_reducible assumption); (walk_at "tk")) | (with_reducible apply Rp.tup; (walk_at "h"); (walk_at "rpl")))
local macro_rules | `(tactic| walk_at "rpl") => `(tactic| first | with_reducible assumption | (with_reducible exact RpL.nil) | (with_reducible apply RpL.tk'; (with_reducible assumption); (walk_at "tk")) | (with_reducible apply RpL.cons; (walk_at "rp"); (walk_at "rpl")))
local macro_rules | `(tactic| walk_at "g") => `(tactic| repeat (first | refine ⟨_, rfl, ?_⟩ | refine ⟨_, _, rfl, rfl, ?_⟩ | refine ⟨rfl, _, rfl, ?_⟩ | refine ⟨_, _, rfl, rfl, (by first | decide | omega), ?_⟩))
abbrev sFrInit : Stmt := (inClass (top 64) 0)
abbrev sFrCopy : Stmt := (inClass (top 64) 1)
abbrev sFrShown : Stmt := (inClass (top 64) 2)
structure Fr where
  num : Nat
  lt : Nat
  fst : Nat
  sg : List Nat
  hops : Nat
  st : Option Nat
  en : Option Nat
  left : Nat
  deriving DecidableEq
def frF (f : Fr) : List (Str × V) := [("number", .int f.num), ("letter", .int f.lt), ("first", .int f.fst), ("signs", .str (S f.sg)), ("hops", .int f.hops), ("start", optV f.st), ("end", optV f.en), ("left", .int f.left)]
def optD : Option Nat → PyData
  | some n => .int n
  | none => .none
def frD (f : Fr) : PyData := .tuple [.int f.num, .int f.lt, .int f.fst, .str (S f.sg), .int f.hops, optD f.st, optD f.en, .int f.left]
def FrAt (C : Addr) (H : Hp) (a : Addr) (f : Fr) : Prop := ∃ dx, H a = some (.ins C dx (frF f))
theorem FrAt.kp {C : Addr} {H H' : Hp} {a : Addr} {f : Fr} {M : List Addr} (h : FrAt C H a f) (k : Kp M H H') (n : a ∉ M) : FrAt C H' a f := ⟨h.choose, k _ _ n h.choose_spec⟩
theorem FrAt.same {C : Addr} {H H' : Hp} {a : Addr} {f : Fr} (h : FrAt C H a f) (s : Same H H') : FrAt C H' a f := ⟨h.choose, s _ _ h.choose_spec⟩
theorem rp_opt {K : PySem.W.Frag} {H : Hp} (o : Option Nat) : Rp K H (optD o) (optV o) := by
  cases o with
  | none => unfold optD optV Rp; rfl
  | some n => exact Rp.int
theorem make_any {H : Hp} {x dx C : Addr} (n : H x = none) (nd : H dx = none) (ne : dx ≠ x) : ∃ H', upd (upd H dx (.own x)) x (.ins C dx []) = H' ∧ Same H H' ∧ H' x = some (.ins C dx []) := by
  refine ⟨_, rfl, fun c o e => ?_, upd_same⟩
  exact ((L2.Same.refl H).new nd).trans ((L2.Same.refl _).new (by rw [upd_ne ne.symm]; exact n)) c o e
theorem make_same {H H1 H2 : Hp} {x : Addr} (n : H x = none) (s : Same H H1) (k : Kp [x] H1 H2) : Same H H2 := fun c o e => k c o (nin1 (ne_of_none e n)) (s c o e)
theorem make_none {H H1 : Hp} {c : Addr} (s : Same H H1) (n : H1 c = none) : H c = none := by
  cases e : H c with
  | none => rfl
  | some o => rw [s c o e] at n; cases n
structure TFr (K : PySem.W.Frag) (C : Addr) : Prop where
  cl : Cls K C
  number : NoAttr K C "number"
  letter : NoAttr K C "letter"
  first : NoAttr K C "first"
  signs : NoAttr K C "signs"
  hops : NoAttr K C "hops"
  start : NoAttr K C "start"
  end' : NoAttr K C "end"
  left : NoAttr K C "left"
def spFrInit (C : Addr) : Sp := fun vs H Q _ => ∃ (x dx : Addr) (n l f : Nat) (sg : List Nat) (h : Nat), vs = [.ref x, .int n, .int l, .int f, .str (S sg), .int h] ∧ H x = some (.ins C dx []) ∧
  ∀ (H' : Hp), Kp [x] H H' → FrAt C H' x ⟨n, l, f, sg, h, none, none, 0⟩ → Q .non H'
def spFrCopy (C : Addr) : Sp := fun vs H Q _ => ∃ (a : Addr) (f : Fr) (n : Nat), vs = [.ref a, .int n] ∧ FrAt C H a f ∧
  ∀ (H' : Hp) (b : Addr), Same H H' → H b = none → FrAt C H' b { f with num := n } → Q (.ref b) H'
def spFrShown (K : PySem.W.Frag) (C : Addr) : Sp := fun vs H Q _ => ∃ (a : Addr) (f : Fr), vs = [.ref a] ∧ FrAt C H a f ∧
  ∀ (H' : Hp) (v : V), Same H H' → Rp K H' (frD f) v → Q v H'

section
variable {P : Program} {w : World} {K : PySem.W.Frag} {mg : Str → Option Value} {base : Heap} {C : Addr}
theorem scFrInit : FnScope ["self", "number", "letter", "first", "signs", "hops"] ["self", "number", "letter", "first", "signs", "hops"] (defScope sFrInit) := ⟨rfl, rfl, rfl, by decide +kernel, rfl, by decide +kernel, by decide +kernel⟩
theorem ok_frinit {f : Addr} {fd : FuncData} (F : Fun K "__init__" "Frame.__init__" sFrInit f fd) (T : TFr K C) : FnOk P w K mg base CX0 1 f fd ["self", "number", "letter", "first", "signs", "hops"] (spFrInit C) := by
  refine F.ok scFrInit (fun vs H Q E h => ?_) (fun cdv A outer s H vs Q E hr h => ?_)
  · obtain ⟨x, dx, n, l, f, sg, h, rfl, _⟩ := h
    rfl
  · obtain ⟨x, dx, n, l, f, sg, h, rfl, hx, k⟩ := h
    refine ⟨_, (pss_cons (ps_fld (pv 0) (pv 1) rfl)
       (pss_cons (ps_fld (pv 0) (pv 2) rfl)
       (pss_cons (ps_fld (pv 0) (pv 3) rfl)
       (pss_cons (ps_fld (pv 0) (pv 4) rfl)
       (pss_cons (ps_fld (pv 0) (pv 5) rfl)
       (pss_cons (ps_fld (pv 0) pe_non rfl)
       (pss_cons (ps_fld (pv 0) pe_non rfl)
       (pss_one (ps_fld (pv 0) pe_int rfl))))))))), ?_⟩
    refine ⟨_, rfl, _, rfl, x, C, dx, _, rfl, hx, T.cl, T.number, by decide, ?_⟩
    obtain ⟨H1, e_H1, k1, t1, h1⟩ := wr_any hx rfl
    rw [← e_H1]
    clear e_H1
    refine ⟨_, rfl, _, rfl, x, C, dx, _, rfl, h1, T.cl, T.letter, (by show 1 < 1000; decide), ?_⟩
    obtain ⟨H2, e_H2, k2, t2, h2⟩ := wr_any h1 rfl
    rw [← e_H2]
    clear e_H2
    refine ⟨_, rfl, _, rfl, x, C, dx, _, rfl, h2, T.cl, T.first, (by show 2 < 1000; decide), ?_⟩
    obtain ⟨H3, e_H3, k3, t3, h3⟩ := wr_any h2 rfl
    rw [← e_H3]
    clear e_H3
    refine ⟨_, rfl, _, rfl, x, C, dx, _, rfl, h3, T.cl, T.signs, (by show 3 < 1000; decide), ?_⟩
    obtain ⟨H4, e_H4, k4, t4, h4⟩ := wr_any h3 rfl
    rw [← e_H4]
    clear e_H4
    refine ⟨_, rfl, _, rfl, x, C, dx, _, rfl, h4, T.cl, T.hops, (by show 4 < 1000; decide), ?_⟩
    obtain ⟨H5, e_H5, k5, t5, h5⟩ := wr_any h4 rfl
    rw [← e_H5]
    clear e_H5
    refine ⟨_, rfl, x, C, dx, _, rfl, h5, T.cl, T.start, (by show 5 < 1000; decide), ?_⟩
    obtain ⟨H6, e_H6, k6, t6, h6⟩ := wr_any h5 rfl
    rw [← e_H6]
    clear e_H6
    refine ⟨_, rfl, x, C, dx, _, rfl, h6, T.cl, T.end', (by show 6 < 1000; decide), ?_⟩
    obtain ⟨H7, e_H7, k7, t7, h7⟩ := wr_any h6 rfl
    rw [← e_H7]
    clear e_H7
    refine ⟨_, rfl, x, C, dx, _, rfl, h7, T.cl, T.left, (by show 7 < 1000; decide), ?_⟩
    obtain ⟨H8, e_H8, k8, t8, h8⟩ := wr_any h7 rfl
    rw [← e_H8]
    clear e_H8
    exact k H8 (k1.trans (k2.trans (k3.trans (k4.trans (k5.trans (k6.trans (k7.trans k8))))))) ⟨dx, h8⟩
theorem scFrCopy : FnScope ["self", "number", "found"] ["self", "number"] (defScope sFrCopy) := ⟨rfl, rfl, rfl, by decide +kernel, rfl, by decide +kernel, by decide +kernel⟩
theorem ok_frcopy {f : Addr} {fd : FuncData} (F : Fun K "copy" "Frame.copy" sFrCopy f fd) (T : TFr K C) (cI : Nw P w K mg base 1 C "Frame" ["self", "number", "letter", "first", "signs", "hops"] (spFrInit C)) : FnOk P w K mg base CX0 3 f fd ["self", "number"] (spFrCopy C) := by
  obtain ⟨fI, fdI, GI, MI, mgI, bI⟩ := cI
  refine F.ok scFrCopy (fun vs H Q E h => ?_) (fun cdv A outer s H vs Q E hr h => ?_)
  · obtain ⟨a, f, n, rfl, _⟩ := h
    rfl
  · obtain ⟨a, f, n, rfl, ⟨dx, ha⟩, k⟩ := h
    refine ⟨_, (pss_cons (ps_set (i := 2) scFrCopy.nd rfl (Or.inl rfl) (pe_make MI GI hr rfl mgI bI .nil pass0 (pa_cons (pv 1) (pa_cons (fldK (K := K) rfl (pv 0) rfl) (pa_cons (fldK (K := K) rfl (pv 0) rfl) (pa_cons (fldK (K := K) rfl (pv 0) rfl) (pa_cons (fldK (K := K) rfl (pv 0) rfl) pa_nil)))))))
       (pss_cons (ps_fld (pv 2) (fldK (K := K) rfl (pv 0) rfl) rfl)
       (pss_cons (ps_fld (pv 2) (fldK (K := K) rfl (pv 0) rfl) rfl)
       (pss_cons (ps_fld (pv 2) (fldK (K := K) rfl (pv 0) rfl) rfl)
       (pss_one (ps_ret (pv 2))))))), ?_⟩
    refine ⟨_, rfl, _, rfl, a, C, dx, _, _, rfl, ha, T.cl, T.letter, rfl, _, rfl, a, C, dx, _, _, rfl, ha, T.cl, T.first, rfl, _, rfl, a, C, dx, _, _, rfl, ha, T.cl, T.signs, rfl, _, rfl, a, C, dx, _, _, rfl, ha, T.cl, T.hops, rfl, fun x dy n_x n_dy ne => ?_⟩
    obtain ⟨H1, e1, s1, h1⟩ := make_any (C := C) n_x n_dy ne
    rw [e1]
    clear e1
    refine ⟨x, dy, n, f.lt, f.fst, f.sg, f.hops, rfl, h1, fun H2 k2 ⟨dz, h2⟩ => ⟨rfl, ?_⟩⟩
    have s2 : Same H H2 := make_same n_x s1 k2
    have nax : a ≠ x := ne_of_none ha n_x
    refine ⟨_, rfl, a, C, dx, _, _, rfl, s2 _ _ ha, T.cl, T.start, rfl, _, rfl, x, C, dz, _, rfl, h2, T.cl, T.start, (by show 8 < 1000; decide), ?_⟩
    obtain ⟨H3, e_H3, k3, t3, h3⟩ := wr_any h2 rfl
    rw [← e_H3]
    clear e_H3
    refine ⟨_, rfl, a, C, dx, _, _, rfl, k3 _ _ (nin1 nax) (s2 _ _ ha), T.cl, T.end', rfl, _, rfl, x, C, dz, _, rfl, h3, T.cl, T.end', (by show 8 < 1000; decide), ?_⟩
    obtain ⟨H4, e_H4, k4, t4, h4⟩ := wr_any h3 rfl
    rw [← e_H4]
    clear e_H4
    refine ⟨_, rfl, a, C, dx, _, _, rfl, k4 _ _ (nin1 nax) (k3 _ _ (nin1 nax) (s2 _ _ ha)), T.cl, T.left, rfl, _, rfl, x, C, dz, _, rfl, h4, T.cl, T.left, (by show 8 < 1000; decide), ?_⟩
    obtain ⟨H5, e_H5, k5, t5, h5⟩ := wr_any h4 rfl
    rw [← e_H5]
    clear e_H5
    refine ⟨_, rfl, ?_⟩
    exact k H5 x (make_same n_x s2 (k3.trans (k4.trans k5))) n_x ⟨dz, h5⟩
theorem scFrShown : FnScope ["self"] ["self"] (defScope sFrShown) := ⟨rfl, rfl, rfl, by decide +kernel, rfl, by decide +kernel, by decide +kernel⟩
theorem ok_frshown {f : Addr} {fd : FuncData} (F : Fun K "shown" "Frame.shown" sFrShown f fd) (T : TFr K C) : FnOk P w K mg base CX0 1 f fd ["self"] (spFrShown K C) := by
  refine F.ok scFrShown (fun vs H Q E h => ?_) (fun cdv A outer s H vs Q E hr h => ?_)
  · obtain ⟨a, f, rfl, _⟩ := h
    rfl
  · obtain ⟨a, f, rfl, ⟨dx, ha⟩, k⟩ := h
    refine ⟨_, (pss_one (ps_ret (pe_tup (pa_cons (fldK (K := K) rfl (pv 0) rfl) (pa_cons (fldK (K := K) rfl (pv 0) rfl) (pa_cons (fldK (K := K) rfl (pv 0) rfl) (pa_cons (fldK (K := K) rfl (pv 0) rfl) (pa_cons (fldK (K := K) rfl (pv 0) rfl) (pa_cons (fldK (K := K) rfl (pv 0) rfl) (pa_cons (fldK (K := K) rfl (pv 0) rfl) (pa_cons (fldK (K := K) rfl (pv 0) rfl) pa_nil))))))))))), ?_⟩
    refine ⟨_, rfl, a, C, dx, _, _, rfl, ha, T.cl, T.number, rfl, _, rfl, a, C, dx, _, _, rfl, ha, T.cl, T.letter, rfl, _, rfl, a, C, dx, _, _, rfl, ha, T.cl, T.first, rfl, _, rfl, a, C, dx, _, _, rfl, ha, T.cl, T.signs, rfl, _, rfl, a, C, dx, _, _, rfl, ha, T.cl, T.hops, rfl, _, rfl, a, C, dx, _, _, rfl, ha, T.cl, T.start, rfl, _, rfl, a, C, dx, _, _, rfl, ha, T.cl, T.end', rfl, _, rfl, a, C, dx, _, _, rfl, ha, T.cl, T.left, rfl, (by show 8 ≤ sizeLine; decide), fun t n_t => ?_⟩
    refine k _ _ ((L2.Same.refl _).new n_t) (Rp.tup upd_same ?_)
    exact RpL.cons Rp.int (RpL.cons Rp.int (RpL.cons Rp.int (RpL.cons Rp.str (RpL.cons Rp.int (RpL.cons (rp_opt _) (RpL.cons (rp_opt _) (RpL.cons Rp.int RpL.nil)))))))
end
end Wn

namespace Wn
open PySem L2
section
variable {α : Type}
theorem lookA_cons {p : Int × α} {m : List (Int × α)} {k : Int} : lookA (p :: m) k = if p.1 = k then some p.2 else lookA m k := by
  unfold lookA
  rw [List.find?_cons]
  by_cases e : p.1 = k <;> simp [e]
theorem lookA_map (k j : Int) (x : α) : ∀ m : List (Int × α), lookA (m.map fun kv => if kv.1 = k then (kv.1, x) else kv) j = (lookA m j).map fun y => if j = k then x else y
  | [] => rfl
  | p :: m => by
    rw [List.map_cons, lookA_cons, lookA_cons, lookA_map k j x m]
    by_cases e : p.1 = k
    · by_cases f : p.1 = j
      · simp [e, f, show j = k by omega]
      · simp only [e, if_true]
        rw [if_neg (by omega), if_neg (by omega)]
    · by_cases f : p.1 = j
      · simp [e, f, show ¬ j = k by omega]
      · simp [e, f]
theorem lookA_snoc (k j : Int) (x : α) : ∀ m : List (Int × α), lookA (m ++ [(k, x)]) j = match lookA m j with | some y => some y | none => if k = j then some x else none
  | [] => by
    show lookA [(k, x)] j = _
    rw [lookA_cons]
    rfl
  | p :: m => by
    show lookA (p :: (m ++ [(k, x)])) j = _
    rw [lookA_cons, lookA_cons, lookA_snoc k j x m]
    by_cases e : p.1 = j <;> simp [e]
theorem any_lookA (k : Int) : ∀ m : List (Int × α), (m.any fun kv => decide (kv.1 = k)) = (lookA m k).isSome
  | [] => rfl
  | p :: m => by
    rw [List.any_cons, lookA_cons, any_lookA k m]
    by_cases e : p.1 = k <;> simp [e]
theorem lookA_put (m : List (Int × α)) (k j : Int) (x : α) : lookA (putA m k x) j = if j = k then some x else lookA m j := by
  unfold putA
  rw [any_lookA]
  cases e : lookA m k with
  | none =>
    rw [if_neg (by simp), lookA_snoc]
    by_cases f : j = k
    · subst f
      simp [e]
    · rw [if_neg f]
      cases lookA m j with
      | none => simp [show ¬ k = j by omega]
      | some y => rfl
  | some z =>
    rw [if_pos (by simp), lookA_map]
    by_cases f : j = k
    · subst f
      rw [e]
      simp
    · rw [if_neg f]
      cases lookA m j with
      | none => rfl
      | some y => simp [f]
theorem mem_keys {k : Int} {m : List (Int × α)} : k ∈ m.map (·.1) ↔ (lookA m k).isSome = true := by
  constructor
  · intro h
    obtain ⟨x, e, _⟩ := lookA_mem h
    rw [e]
    rfl
  · intro h
    rw [← any_lookA, List.any_eq_true] at h
    obtain ⟨p, hp, e⟩ := h
    rw [decide_eq_true_eq] at e
    exact List.mem_map.mpr ⟨p, hp, e⟩
theorem keys_put_in {m : List (Int × α)} {k : Int} {x : α} (h : (lookA m k).isSome = true) : (putA m k x).map (·.1) = m.map (·.1) := by
  unfold putA
  rw [any_lookA, if_pos h, List.map_map]
  refine List.map_congr_left fun p _ => ?_
  show (if p.1 = k then (p.1, x) else p).1 = p.1
  split <;> rfl
theorem keys_put_new {m : List (Int × α)} {k : Int} {x : α} (h : lookA m k = none) : (putA m k x).map (·.1) = m.map (·.1) ++ [k] := by
  unfold putA
  rw [any_lookA, if_neg (by rw [h]; simp), List.map_append]
  rfl
theorem nodup_put {m : List (Int × α)} {k : Int} {x : α} (h : (m.map (·.1)).Nodup) : ((putA m k x).map (·.1)).Nodup := by
  cases e : lookA m k with
  | none =>
    rw [keys_put_new e, List.nodup_append]
    refine ⟨h, by simp, fun a ha b hb => ?_⟩
    rw [List.mem_singleton] at hb
    subst hb
    intro z
    subst z
    rw [mem_keys, e] at ha
    cases ha
  | some y =>
    rw [keys_put_in (by rw [e]; rfl)]
    exact h
end
theorem eq_of_lt : ∀ (a b : List Int), a.Pairwise (· < ·) → b.Pairwise (· < ·) → (∀ x, x ∈ a ↔ x ∈ b) → a = b
  | [], [], _, _, _ => rfl
  | [], y :: b, _, _, h => by
    have := (h y).mpr List.mem_cons_self
    cases this
  | x :: a, [], _, _, h => by
    have := (h x).mp List.mem_cons_self
    cases this
  | x :: a, y :: b, ha, hb, h => by
    rw [List.pairwise_cons] at ha hb
    have e : x = y := by
      have h1 := (h x).mp List.mem_cons_self
      have h2 := (h y).mpr List.mem_cons_self
      rcases List.mem_cons.mp h1 with h1 | h1
      · exact h1
      · rcases List.mem_cons.mp h2 with h2 | h2
        · exact h2.symm
        · have := ha.1 _ h2
          have := hb.1 _ h1
          omega
    subst e
    congr 1
    refine eq_of_lt a b ha.2 hb.2 fun z => ?_
    constructor
    · intro hz
      have h1 := (h z).mp (List.mem_cons_of_mem _ hz)
      rcases List.mem_cons.mp h1 with h1 | h1
      · have := ha.1 _ hz
        omega
      · exact h1
    · intro hz
      have h1 := (h z).mpr (List.mem_cons_of_mem _ hz)
      rcases List.mem_cons.mp h1 with h1 | h1
      · have := hb.1 _ hz
        omega
      · exact h1
theorem lt_of_nodup : ∀ {a : List Int}, a.Pairwise (· ≤ ·) → a.Nodup → a.Pairwise (· < ·)
  | [], _, _ => List.Pairwise.nil
  | x :: a, h, n => by
    rw [List.pairwise_cons] at h
    rw [List.nodup_cons] at n
    rw [List.pairwise_cons]
    refine ⟨fun y hy => ?_, lt_of_nodup h.2 n.2⟩
    have h1 := h.1 y hy
    have h2 : x ≠ y := fun z => n.1 (z ▸ hy)
    omega
end Wn

namespace Wn
open PySem L2
open SX (S S_len S_cat S_beq_eq join_S)
abbrev sCut : Stmt := top 52
abbrev Part := Nat × List Nat
def partD (p : Part) : PyData := .tuple [.int (p.1 : Int), .str (S p.2)]
theorem partD_inv {K : PySem.W.Frag} {H : Hp} {x : Part} {u : V} (r : Rp K H (partD x) u) : ∃ a, u = .ref a ∧ SqT K H a [.int (x.1 : Int), .str (S x.2)] := by
  unfold partD Rp at r
  obtain ⟨a, xs, rfl, ha, hl⟩ := r
  unfold RpL at hl
  obtain ⟨v0, r0, rfl, h0, hl⟩ := hl
  unfold RpL at hl
  obtain ⟨v1, r1, rfl, h1, hl⟩ := hl
  unfold RpL at hl
  subst hl
  unfold Rp at h0 h1
  subst h0 h1
  exact ⟨a, rfl, ha⟩
def cutAt (cs : List Nat) (s i : Nat) : Part := (i * s, (cs.drop (i * s)).take s)
def cutN (cs : List Nat) (s : Nat) : Nat := (cs.length + s - 1) / s
def cutP (cs : List Nat) (s : Nat) : List Part := (List.range (cutN cs s)).map (cutAt cs s)
theorem rg_cut {cs : List Nat} {s : Nat} (h1 : 1 ≤ s) (h2 : s ≤ 100000) (h3 : cs.length ≤ 100000) : RgC 0 (cs.length : Int) (s : Int) (cutN cs s) := by
  have e := PyProof.Rows.rangeSize_pos (len := (cs.length : Int)) (c := (s : Int)) (by omega) (by omega)
  have e2 : ((cutN cs s : Nat) : Int) = ((cs.length : Int) + (s : Int) - 1) / (s : Int) := by
    unfold cutN
    rw [Int.natCast_ediv]
    congr 1
    omega
  have h4 : ((cutN cs s : Nat) : Int) ≤ 200000 := by
    rw [e2]
    refine Int.ediv_le_of_le_mul (by omega) ?_
    have : (200000 : Int) * 1 ≤ 200000 * (s : Int) := Int.mul_le_mul_of_nonneg_left (by omega) (by omega)
    omega
  refine ⟨by omega, by omega, ?_, by rw [e, e2]⟩
  unfold Builtin.Range.small
  rw [e, ← e2]
  simp only [Builtin.Range.rangeFitsLong, Bool.and_eq_true, Bool.or_eq_true, decide_eq_true_eq, beq_iff_eq]
  have h5 : 0 ≤ ((cutN cs s : Nat) : Int) := by omega
  generalize ((cutN cs s : Nat) : Int) = q at h4 h5
  simp only [show (s : Int) > 0 by omega, if_true]
  exact ⟨⟨⟨⟨⟨by omega, by omega⟩, by omega, by omega⟩, by omega, by omega⟩, by omega, by omega⟩, .inr (by simp only [Bool.and_eq_true, decide_eq_true_eq]; omega)⟩
theorem cutN_lt {cs : List Nat} {s i : Nat} (h1 : 1 ≤ s) : i < cutN cs s ↔ i * s < cs.length := by
  unfold cutN
  rw [Nat.lt_iff_add_one_le, Nat.le_div_iff_mul_le (by omega), Nat.add_mul]
  omega
def spCut (K : PySem.W.Frag) : Sp := fun vs H Q _ => ∃ (cs : List Nat) (s : Nat), vs = [.str (S cs), .int (s : Int)] ∧ 1 ≤ s ∧ s ≤ 100000 ∧ cs.length ≤ 100000 ∧
  ∀ (H' : Hp) (v : V), Same H H' → Rp K H' (.tuple ((cutP cs s).map partD)) v → Q v H'
structure CB (mg : Str → Option Value) : Prop where
  tuple : mg "tuple" = none
  len : mg "len" = none
  range : mg "range" = none
  enumerate : mg "enumerate" = none
  list : mg "list" = none
  dict : mg "dict" = none
  sorted : mg "sorted" = none

section
variable {P : Program} {w : World} {K : PySem.W.Frag} {mg : Str → Option Value} {base : Heap}
theorem scCut : FnScope ["text", "size", "first"] ["text", "size"] (defScope sCut) := ⟨rfl, rfl, rfl, by decide +kernel, rfl, by decide +kernel, by decide +kernel⟩
theorem ok_cut {f : Addr} {fd : FuncData} (F : Fun K "cut" "cut" sCut f fd) (B : CB mg) : FnOk P w K mg base CX0 1 f fd ["text", "size"] (spCut K) := by
  refine F.ok scCut (fun vs H Q E h => ?_) (fun cdv A outer s H vs Q E hr h => ?_)
  · obtain ⟨cs, s, rfl, _⟩ := h
    rfl
  · obtain ⟨cs, s, rfl, h1, h2, h3, k⟩ := h
    refine ⟨_, (pss_one (ps_ret (pe_callTy (tupOfK (K := K) rfl) (by rfl) B.tuple PyProof.Rows.boot_tuple (pa_cons (pe_lc (own := [("first", 2)]) (g := (gName 2)) (tt := tYes) rfl scCut.nd (pi_range3 rfl B.range (pa_cons pe_int (pa_cons (pe_callB (lenK (K := K) rfl) (by rfl) B.len PySem.boot_len (pa_cons (pv 0) pa_nil)) (pa_cons (pv 1) pa_nil)))) (blkOk_by (N := ["text", "size", "first"]) (sc := defScope sCut) (by decide +kernel))
       (fun _ _ _ _ _ => (pg_name (i := 2) scCut.nd rfl (Or.inl rfl))) (fun _ _ _ _ _ => pts_nil) (fun _ _ _ _ _ => (pe_tup (pa_cons (pv 2) (pa_cons (pe_slice sl_str (pv 0) (po_some (pv 2)) (po_some (pe_op op_add (pv 2) (pv 1)))) pa_nil))))) pa_nil)))), ?_⟩
    have hcs : (S cs).length ≤ sizeLine := by rw [S_len]; exact Nat.le_trans h3 (by decide)
    refine ⟨_, rfl, _, cs.length, rfl, ⟨hcs, (S_len cs).symm⟩, _, rfl, _, _, _, _, rfl, rg_cut h1 h2 h3, fun D hD => ?_⟩
    have hN : cutN cs s ≤ 1000000 := by
      by_cases hz : cutN cs s = 0
      · omega
      · have := (cutN_lt (cs := cs) (i := cutN cs s - 1) h1).mp (by omega)
        have h4 : (cutN cs s - 1) * 1 ≤ (cutN cs s - 1) * s := Nat.mul_le_mul_left _ h1
        omega
    refine mapR_it (K := K) (walk_rangeC (lo := 0) (c := (s : Int)) (n := cutN cs s)) (fun i => partD (cutAt cs s i)) hD hN ?_ ?_
    · intro j H' Q' hj s' hQ
      have e1 : (0 : Int) + (j : Nat) * (s : Int) = ((j * s : Nat) : Int) := by rw [Int.natCast_mul]; omega
      have e2 : (0 : Int) + (j : Nat) * (s : Int) + (s : Int) = ((j * s + s : Nat) : Int) := by rw [e1]; omega
      refine ⟨_, rfl, _, rfl, _, rfl, _, rfl, _, rfl, _, rfl, _, _, rfl, rfl, _, rfl, _, rfl, hcs, (by show 2 ≤ sizeLine; decide), fun t ht => ?_⟩
      have ec : cutS (S cs) (some (0 + (j : Nat) * (s : Int))) (some (0 + (j : Nat) * (s : Int) + (s : Int))) = S (cutAt cs s j).2 := by
        rw [e2, e1, cutS_S]
        unfold cutAt
        rw [Nat.add_sub_cancel_left]
      refine hQ _ _ ((L2.Same.refl _).new ht) (Rp.tup upd_same ?_)
      rw [ec, e1]
      exact RpL.cons Rp.int (RpL.cons Rp.str RpL.nil)
    · intro H' ys s' hD' hr'
      refine ⟨D, ys, rfl, .inl ⟨SqL.of hD', fun t ht => ?_⟩⟩
      refine k _ _ (s'.new ht) (Rp.tup upd_same (RpL.tk ((TK.refl _).new ht) _ _ ?_))
      unfold cutP
      rw [List.map_map]
      exact hr'
end
end Wn

namespace Wn
open PySem L2
open SX (S S_len S_cat S_beq_eq join_S)
theorem lt_len {n : Int} : ∀ (l : List Int) (a : Int), l.Pairwise (· < ·) → (∀ x ∈ l, a ≤ x ∧ x < n) → (l.length : Int) ≤ if a ≤ n then n - a else 0
  | [], a, _, _ => by
    show (0 : Int) ≤ _
    split <;> omega
  | x :: l, a, h, b => by
    rw [List.pairwise_cons] at h
    have hx := b x List.mem_cons_self
    have ih := lt_len l (x + 1) h.2 fun y hy => ⟨by have := h.1 y hy; omega, (b y (List.mem_cons_of_mem _ hy)).2⟩
    rw [List.length_cons]
    split at ih <;> split <;> omega
theorem nodup_len {n : Nat} {l : List Int} (nd : l.Nodup) (b : ∀ x ∈ l, 0 ≤ x ∧ x < (n : Int)) : l.length ≤ n := by
  have p := sortI_perm l
  have h := lt_len (n := (n : Int)) (sortI l) 0 (lt_of_nodup (sortI_sorted l) (p.nodup_iff.mpr nd)) fun x hx => b x (p.mem_iff.mp hx)
  rw [p.length_eq, if_pos (by omega)] at h
  omega
theorem nodup_all {n : Nat} {l : List Int} (nd : l.Nodup) (b : ∀ x, x ∈ l ↔ 0 ≤ x ∧ x < (n : Int)) : l.length = n := by
  have p := sortI_perm l
  have e : sortI l = (List.range n).map fun (j : Nat) => (j : Int) := by
    refine eq_of_lt _ _ (lt_of_nodup (sortI_sorted l) (p.nodup_iff.mpr nd)) ?_ fun x => ?_
    · rw [List.pairwise_map]
      exact (List.pairwise_lt_range (n := n)).imp fun h => by omega
    · rw [p.mem_iff, b, List.mem_map]
      constructor
      · intro h
        exact ⟨x.toNat, by rw [List.mem_range]; omega, by omega⟩
      · rintro ⟨j, hj, rfl⟩
        rw [List.mem_range] at hj
        omega
  rw [← p.length_eq, e, List.length_map, List.length_range]
def signD (c : Nat) : PyData := .str (S [c])
/-- signs that have come, all of them those of the text -/
structure Come (cs : List Nat) (m : List (Int × Nat)) : Prop where
  nd : (m.map (·.1)).Nodup
  ok : ∀ i c, lookA m i = some c → 0 ≤ i ∧ i < (cs.length : Int) ∧ cs[i.toNat]? = some c
theorem Come.nil (cs : List Nat) : Come cs [] := ⟨List.nodup_nil, fun i c h => by cases h⟩
theorem Come.put {cs : List Nat} {m : List (Int × Nat)} (h : Come cs m) {j c : Nat} (hc : cs[j]? = some c) : Come cs (putA m (j : Int) c) := by
  refine ⟨nodup_put h.nd, fun i x e => ?_⟩
  rw [lookA_put] at e
  split at e
  · rename_i ei
    cases e
    have := (List.getElem?_eq_some_iff.mp hc).1
    exact ⟨by omega, by omega, by rw [ei]; exact hc⟩
  · exact h.ok i x e
theorem Come.len {cs : List Nat} {m : List (Int × Nat)} (h : Come cs m) : m.length ≤ cs.length := by
  have := nodup_len (n := cs.length) h.nd fun x hx => by
    obtain ⟨c, e, _⟩ := lookA_mem hx
    have := h.ok x c e
    exact ⟨this.1, this.2.1⟩
  rw [List.length_map] at this
  exact this
theorem Come.all {cs : List Nat} {m : List (Int × Nat)} (h : Come cs m) (a : ∀ i : Nat, i < cs.length → (lookA m (i : Int)).isSome = true) : m.length = cs.length := by
  have := nodup_all (n := cs.length) h.nd fun x => by
    constructor
    · intro hx
      obtain ⟨c, e, _⟩ := lookA_mem hx
      have := h.ok x c e
      exact ⟨this.1, this.2.1⟩
    · intro hx
      have := a x.toNat (by omega)
      rw [show ((x.toNat : Nat) : Int) = x by omega] at this
      exact mem_keys.mpr this
  rw [List.length_map] at this
  exact this
/-- signs put from a place on -/
def addFrom (m : List (Int × Nat)) (f : Nat) : List Nat → List (Int × Nat)
  | [] => m
  | c :: cs => addFrom (putA m (f : Int) c) (f + 1) cs
theorem addFrom_snoc : ∀ (m : List (Int × Nat)) (f : Nat) (xs : List Nat) (c : Nat), addFrom m f (xs ++ [c]) = putA (addFrom m f xs) ((f + xs.length : Nat) : Int) c
  | m, f, [], c => rfl
  | m, f, x :: xs, c => by
    show addFrom (putA m (f : Int) x) (f + 1) (xs ++ [c]) = putA (addFrom (putA m (f : Int) x) (f + 1) xs) _ c
    rw [addFrom_snoc _ _ xs c, List.length_cons, show f + 1 + xs.length = f + (xs.length + 1) by omega]
theorem addFrom_len : ∀ (m : List (Int × Nat)) (f : Nat) (xs : List Nat), (addFrom m f xs).length ≤ m.length + xs.length
  | m, f, [] => Nat.le_refl _
  | m, f, x :: xs => by
    have h1 := addFrom_len (putA m (f : Int) x) (f + 1) xs
    have h2 := putA_len m (f : Int) x
    show (addFrom (putA m (f : Int) x) (f + 1) xs).length ≤ _
    rw [List.length_cons]
    omega
end Wn

namespace Wn
open PySem L2 PySem.Spec PyProof.Rows
/-! ### repr of data asks that no repr is under way: a promise of the law's own def, called as the claim calls it -/
section
variable {X : Cx} {K : PySem.W.Frag}
def rReprD (K : PySem.W.Frag) : List V → Hp → VK → Prop := fun xs H Q => ∃ (x : V) (d : PyData), xs = [x] ∧ Dp K H x d ∧ d.showable = true ∧ d.hasDict = false ∧ d.depth ≤ 60 ∧ d.shown.length ≤ sizeLine ∧ Q (.str d.shown) H
theorem call_reprD (hg : X.A.guards = some []) (hu : X.A.units + 64 < cLine) : CallR X (.builtin "repr") (rReprD X.K) := by
  intro pins s σ H xs us Q I r h
  obtain ⟨x, d, rfl, hd, hs, hno, hdep, hsz, q⟩ := h
  obtain ⟨u, rfl, rx⟩ := vals1 r
  have fin : ∀ (h' : Heap) (t tk : Tok), (∀ b o, s.heap.get? b = some o → h'.get? b = some o) → EP X pins σ Q (.str d.shown t) { s with heap := h', toks := tk } := fun h' t tk hk => ⟨.str d.shown, H, I.kept hk, ⟨t, rfl⟩, q⟩
  obtain ⟨as, rd⟩ := Dp.reads I d x u hd rx
  have same : ∀ b o, s.heap.get? b = some o → s.heap.get? b = some o := fun _ _ e => e
  cases rd with
  | none => exact PySem.P.repr_of_none (fin s.heap _ _ same)
  | bool b => exact PySem.P.repr_of_bool (fin s.heap _ _ same)
  | int i t =>
    have hi : i.natAbs.log2 < 1920 := by simpa [PyData.showable] using hs
    exact PySem.P.repr_of_int hi (fin s.heap _ _ same)
  | str x t => exact PySem.P.repr_of_str (fin s.heap _ _ same) (hsz := hsz)
  | list h1 h2 h3 h4 => exact repr_of_reads' (.list h1 h2 h3 h4) hs (fun z => by rw [hno] at z; cases z) hg (by omega) same (fun h' t tk hk => fin h' t tk hk) (hsz := hsz)
  | tuple h1 h2 h3 h4 => exact repr_of_reads' (.tuple h1 h2 h3 h4) hs (fun z => by rw [hno] at z; cases z) hg (by omega) same (fun h' t tk hk => fin h' t tk hk) (hsz := hsz)
  | dict h1 h2 h3 h4 h5 => cases hno
theorem reprDK (hK : X.K = K) (hg : X.A.guards = some []) (hu : X.A.units + 64 < cLine) : CallR X (.builtin "repr") (rReprD K) := hK ▸ call_reprD hg hu
end
/-- the promise of the law's def where the claim's caller calls it -/
def LawOk (P : Program) (w : World) (K : PySem.W.Frag) (mg : Str → Option Value) (base : Heap) (f : Addr) (fd : FuncData) (ps : List Str) (sp : Sp) : Prop :=
  ∀ (s : Shared) (H : Hp) (args : Args) (us : List Value) (vs : List V) (Q : VK), Env0 P w K mg base callerA [] s H → BindsTo s fd args (ps.zip us) → Vals vs us → sp vs H Q E0 →
    codeAny (model P w) callerA (.call (.ref f) args) (CR CX0 [] P w H s Q E0) s
section
variable {P : Program} {w : World} {K : PySem.W.Frag} {mg : Str → Option Value} {base : Heap}
theorem law_ok {x qual : Str} {st : Stmt} {f : Addr} {fd : FuncData} {N ps : List Str} {k : Nat} {sp : Sp} (F : Fun K x qual st f fd) (S : FnScope N ps (defScope st)) (len : ∀ vs H Q E, sp vs H Q E → vs.length = ps.length) (hr : Room (k + 1) callerA)
    (hbody : ∀ (cdv : Value) (A : Around) (s : Shared) (H : Hp) (vs : List V) (Q : VK), A = callerA → Room k (A.deeper (envOfC qual (defScope st) s.heap.objs.size f cdv)) → sp vs H Q E0 →
      ∃ t, PSs (cxOf CX0 P w K mg base N qual (defScope st) f cdv A [] s H E0).nox (defBody st) t ∧ t { nx := fun _ H' => Q .non H', rt := Q } (start N vs) H) : LawOk P w K mg base f fd ps sp := by
  obtain ⟨oc, od, kV, doc, pm, an, cdv, ct, osl, rfl, lk, hcd⟩ := F.ex
  intro s H args us vs Q e0 hb r hsp
  have hl := len _ _ _ _ hsp
  obtain ⟨t, ht, hq⟩ := hbody cdv callerA s H vs Q rfl (hr.deeper _) hsp
  have kin : K.In s.heap := e0.mod.kin.keeps fun b o e => (e0.bs b o e).1
  have nolim : s.heap.NoLimit := e0.mod.nolimit.keeps fun b o e => (e0.bs b o e).1
  have knd : ∀ y ∈ ps.zip us, (defScope st).names.lookup y.1 = some .local ∨ ((defScope st).names.lookup y.1 = some .cell ∧ ((cellsFrom (s.heap.objs.size + 1) (defScope st).names []).lookup y.1).isSome = true) := by
    rintro ⟨n, v⟩ hy
    refine (S.par n (List.of_mem_zip hy).1).imp id fun q => ⟨q, PySem.W.cellsFrom_some _ _ _ (.inl q)⟩
  refine codeAny_call_function hr.depth (kin _ _ lk) rfl S.co S.gen rfl (PySem.W.codeRec_of kin hcd) (hb _ _ _ _ (wpAny_newFunctionEnv_cells S.kind knd fun env he s1 x => ?_))
  subst he
  refine ⟨nolim.keeps x.toInCall.keep, codeAny_func ?_⟩
  have I := inv_start (CX := CX0) (E := E0) S hr.hd e0 hl r x
  refine wpAny_mono (ht.nox.run [] s1 (start N vs) H _ I hq) (fun fl s' hs => ?_) fun e s' hs => hs
  cases fl with
  | ret u =>
    obtain ⟨v, σ', H', J, rv, q⟩ := hs
    exact ⟨v, H', J.os, J.bare, J.base, J.hok, rv, q⟩
  | next =>
    obtain ⟨σ', H', J, q⟩ := hs
    exact ⟨.non, H', J.os, J.bare, J.base, J.hok, rfl, q⟩
  | brk => exact False.elim hs.choose_spec.choose_spec.2
  | cont => exact False.elim hs.choose_spec.choose_spec.2
/-- the law's call, by such a promise: only the script is tracked, as it is -/
theorem law_callG {mb : Str → Option Value} {fa a : Addr} {fd : FuncData} {x : Str} {sp : Sp} {s₁ : Shared} {vs : List Value} {ns : List Int}
    (KX : K.In s₁.heap) (hns : s₁.heap.Ns mainGlobals mg) (hb : s₁.heap.Ns builtinsNs mb) (hbb : ∀ x : Str, x ≠ "__name__" → mb x = bootBuiltins x) (hlim : s₁.heap.NoLimit) (hg : s₁.gens = #[])
    (ha : s₁.heap.get? a = some { cls := .type "list", data := .seq vs.toArray }) (hi : IntsAre vs ns) (hl : ns.length ≤ sizeLine)
    (F : ∀ base : Heap, K.In base → base.Ns mainGlobals mg → LawOk P w K mg base fa fd [x] sp) (hbind : ∀ (s : Shared) (u : Value), BindsTo s fd ⟨[u], []⟩ [(x, u)])
    (hsp : ∀ H : Hp, SqL K H a (ns.map V.int) → sp [.ref a] H (fun v _ => v = .bl true) E0) :
    codeAny (model P w) callerA (.call (.ref fa) ⟨[.ref a], []⟩) (fun r s' => r = .ok (.ret (.bool true)) ∧ OldK s₁.heap s'.heap ∧ s'.os = s₁.os ∧ AllBare s'.gens) s₁ := by
  have rv : Vals (ns.map V.int) vs := vals_ints hi
  have hlen := hi.length
  obtain ⟨H, hS, hok, hT⟩ : ∃ H : Hp, SqL K H a (ns.map V.int) ∧ HOk P w H s₁.heap ∧ ∀ b u, H b = some u → b = a ∧ K.lookup a = none ∧ u = .frz { cls := .type "list", data := .seq vs.toArray } (.lst (ns.map V.int)) := by
    cases hk : K.lookup a with
    | some o =>
      have e := KX a o hk
      rw [ha] at e
      cases e
      exact ⟨fun _ => none, .inr ⟨_, vs.toArray, _, hk, rfl, rfl, rfl, by rw [List.size_toArray, hlen]; exact hl, by simpa using rv⟩, (fun b u z => by have z' : (none : Option HO) = some u := z; cases z'), (fun b u z => by have z' : (none : Option HO) = some u := z; cases z')⟩
    | none =>
      refine ⟨upd (fun _ => none) a (.frz { cls := .type "list", data := .seq vs.toArray } (.lst (ns.map V.int))), .inl (.inr ⟨_, upd_same⟩), fun b u z => ?_, fun b u z => ?_⟩
      · by_cases e : b = a
        · subst e
          rw [upd_same] at z
          cases z
          exact ⟨ha, by rw [List.length_map]; exact hl, vs, _, rv, ha⟩
        · rw [upd_ne e] at z
          cases z
      · by_cases e : b = a
        · subst e
          rw [upd_same] at z
          exact ⟨rfl, rfl, (Option.some.inj z).symm⟩
        · rw [upd_ne e] at z
          cases z
  have free : ∀ {b : Addr} {o : Obj} {es : Array DictEntry} {ep : Nat}, s₁.heap.get? b = some o → o.data = .dict es ep → H b = none := fun {b o es ep} e d => by
    cases q : H b with
    | none => rfl
    | some u =>
      obtain ⟨rfl, _, _⟩ := hT b u q
      rw [ha] at e
      cases e
      exact nomatch (show Data.seq vs.toArray _ = Data.dict es ep from d)
  have ns' : ∀ {b : Addr} {m : Str → Option Value}, s₁.heap.Ns b m → (hidT s₁.heap H).Ns b m := fun {b m} ⟨o, es, ep, e, d, r⟩ => ⟨o, es, ep, hidT_get e (free e d), d, r⟩
  have kin : K.In (hidT s₁.heap H) := fun b o e => hidT_get (KX b o e) (by
    cases q : H b with
    | none => rfl
    | some u =>
      obtain ⟨rfl, z, _⟩ := hT b u q
      rw [z] at e
      cases e)
  obtain ⟨mc, c1, c2⟩ := hlim
  have e0 : Env0 P w K mg (hidT s₁.heap H) callerA [] s₁ H := ⟨rfl, ⟨kin, ns' hns, ⟨mb, ns' hb, hbb⟩, ⟨mc, ns' c1, c2⟩⟩, fun b o e => of_hidT e, Nat.le_of_eq (hidT_size _ _), trivial, fun b hb => absurd hb (List.not_mem_nil), hok, .of_eq hg⟩
  refine codeAny_mono (F _ kin (ns' hns) s₁ H ⟨[.ref a], []⟩ [.ref a] [.ref a] _ e0 (hbind s₁ (.ref a)) (.cons rfl .nil) (hsp H hS)) fun r s' h => ?_
  rcases r with e | fl
  · exact h.elim
  · cases fl with
    | next => exact h.elim
    | brk => exact h.elim
    | cont => exact h.elim
    | ret u =>
      obtain ⟨v, H', os, bare, un, hok', r', rfl⟩ := h
      obtain rfl : u = Value.bool true := r'
      refine ⟨rfl, OldK.of_keep fun b o e => ?_, os, bare⟩
      cases q : H b with
      | none => exact un.keep b o e q (fun z => absurd z (List.not_mem_nil)) (List.not_mem_nil)
      | some u =>
        obtain ⟨rfl, _, rfl⟩ := hT b u q
        have z := (hok' _ _ (un.frzs _ _ _ q)).1
        rw [ha] at e
        cases e
        exact z
end
theorem walkG {l : PySem.W.OpenLaw} {n : Nat} {q : Program} {loose : List Str} {XP : (Str → Option Value) → Heap → Prop} {YP : World → Heap → Prop} {d : DefRec} {K : Params → PySem.W.Frag} {sp : World → Sp} {x : Str}
    (hn : l.most = some n) (hn2 : n ≤ sizeLine) (hdf : d.params.defaults = []) (hY : ∀ (w : World) (h : Heap), YP w h → (K w.params).In h)
    (F : ∀ (w : World) (mg : Str → Option Value) (fa : Addr) (h : Heap), (K w.params).In h → h.Ns mainGlobals mg → mg d.name = some (.ref fa) →
      ∃ fd : FuncData, (∀ (s : Shared) (u : Value), BindsTo s fd ⟨[u], []⟩ [(x, u)]) ∧ ∀ base : Heap, (K w.params).In base → base.Ns mainGlobals mg → LawOk l.prog w (K w.params) mg base fa fd [x] (sp w))
    (hsp : ∀ (w : World) (H : Hp) (a : Addr) (ns : List Int), ns.length ≤ n → SqL (K w.params) H a (ns.map V.int) → sp w [.ref a] H (fun v _ => v = .bl true) E0) :
    PySem.W.WalkO q loose XP YP l.row.toRowW d [] (fun f vs => PySem.call f vs) := by
  refine Att.attach_call hn hdf fun w s₀ s₁ mg mb fa o pm cd doc a vs ns G Y ho hd hcd hmg hobj hints hlen hg => ?_
  obtain ⟨fd, hb, hF⟩ := F w mg fa _ (hY w _ Y) G.T.g hmg
  exact law_callG (hY w _ Y) G.T.g G.T.b G.T.builtins G.T.nolimit hg hobj hints (Nat.le_trans hlen hn2) hF hb fun H hS => hsp w H a ns hlen hS
end Wn

namespace Wn
open PySem L2 PySem.Spec PyProof.Rows
/-! ### things of any kind: data with lists, and the empty dict -/
theorem SqL.sm' {K : PySem.W.Frag} {H H' : Hp} {a : Addr} {xs : List V} (h : SqL K H a xs) (e : Same H H') : SqL K H' a xs := by
  rcases h with (h | ⟨o, h⟩) | h
  · exact .inl (.inl (e _ _ h))
  · exact .inl (.inr ⟨o, e _ _ h⟩)
  · exact .inr h
mutual
theorem Dp.sm {K : PySem.W.Frag} {H H' : Hp} (e : Same H H') : ∀ {v : V} {d : PyData}, Dp K H v d → Dp K H' v d
  | _, _, .non => .non
  | _, _, .bl b => .bl b
  | _, _, .int i => .int i
  | _, _, .str x => .str x
  | _, _, .lst h1 h2 => .lst (SqL.sm' h1 e) (DpAll.sm e h2)
  | _, _, .tup h1 h2 => .tup (SqT.tk h1 (TK.of e)) (DpAll.sm e h2)
theorem DpAll.sm {K : PySem.W.Frag} {H H' : Hp} (e : Same H H') : ∀ {vs : List V} {ds : List PyData}, DpAll K H vs ds → DpAll K H' vs ds
  | _, _, .nil => .nil
  | _, _, .cons h1 h2 => .cons (Dp.sm e h1) (DpAll.sm e h2)
end
theorem DpAll.len {K : PySem.W.Frag} {H : Hp} : ∀ {vs : List V} {ds : List PyData}, DpAll K H vs ds → vs.length = ds.length
  | _, _, .nil => rfl
  | _, _, .cons _ h => by rw [List.length_cons, List.length_cons, DpAll.len h]
theorem DpAll.get {K : PySem.W.Frag} {H : Hp} : ∀ {vs : List V} {ds : List PyData}, DpAll K H vs ds → ∀ {i : Nat} {v : V}, vs[i]? = some v → ∃ d, ds[i]? = some d ∧ Dp K H v d
  | _, _, .cons h1 h2, 0, v, e => by
    have : _ = v := Option.some.inj e
    subst this
    exact ⟨_, rfl, h1⟩
  | _, _, .cons h1 h2, i + 1, v, e => DpAll.get h2 (i := i) (by simpa using e)
/-- the name of a thing's type -/
def tyN : PyData → String
  | .none => "NoneType"
  | .bool _ => "bool"
  | .int _ => "int"
  | .str _ => "str"
  | .list _ => "list"
  | .tuple _ => "tuple"
  | .dict _ => "dict"
theorem Dp.ty {K : PySem.W.Frag} {H : Hp} {v : V} {d : PyData} (h : Dp K H v d) : TyX K H v (.type (tyN d)) := by
  cases h with
  | non => exact .base .non
  | bl b => exact .base (.bl b)
  | int i => exact .base (.int i)
  | str x => exact .base (.str x)
  | lst h1 h2 =>
    rcases h1 with (h | ⟨o, h⟩) | ⟨o, its, n, h, c, _⟩
    · exact .base (.lst h)
    · exact .base (.frz h)
    · exact .kList h c
  | tup h1 h2 => exact ty_tup h1
def AnyAt (K : PySem.W.Frag) (H : Hp) (v : V) (d : PyData) : Prop := Dp K H v d ∨ (d = .dict [] ∧ ∃ a, v = .ref a ∧ H a = some (.dK []))
theorem AnyAt.sm {K : PySem.W.Frag} {H H' : Hp} {v : V} {d : PyData} (h : AnyAt K H v d) (e : Same H H') : AnyAt K H' v d := by
  rcases h with h | ⟨rfl, a, rfl, h⟩
  · exact .inl (Dp.sm e h)
  · exact .inr ⟨rfl, a, rfl, e _ _ h⟩
theorem AnyAt.ty {K : PySem.W.Frag} {H : Hp} {v : V} {d : PyData} (h : AnyAt K H v d) : TyX K H v (.type (tyN d)) := by
  rcases h with h | ⟨rfl, a, rfl, h⟩
  · exact Wn.Dp.ty h
  · exact .base (.dK h)
abbrev tyNames : List String := ["NoneType", "bool", "int", "str", "list", "tuple", "dict"]
theorem tyN_mem (d : PyData) : tyN d ∈ tyNames := by
  cases d <;> simp [tyN, tyNames]
theorem kitB_tuple : ∀ t ∈ tyNames, kitB t "tuple" = some (decide (t = "tuple")) := by decide +kernel
theorem kitB_str : ∀ t ∈ tyNames, kitB t "str" = some (decide (t = "str")) := by decide +kernel
theorem kitB_list : ∀ t ∈ tyNames, kitB t "list" = some (decide (t = "list")) := by decide +kernel
theorem kitB_int : ∀ t ∈ tyNames, kitB t "int" = some (decide (t = "int" ∨ t = "bool")) := by decide +kernel
theorem kitB_bool : ∀ t ∈ tyNames, kitB t "bool" = some (decide (t = "bool")) := by decide +kernel
theorem kit_tuple {K : PySem.W.Frag} (d : PyData) : PySem.W.kitOne K (.type (tyN d)) (.type "tuple") = some (decide (tyN d = "tuple")) := kit_ty (kitB_tuple _ (tyN_mem d))
theorem kit_str {K : PySem.W.Frag} (d : PyData) : PySem.W.kitOne K (.type (tyN d)) (.type "str") = some (decide (tyN d = "str")) := kit_ty (kitB_str _ (tyN_mem d))
theorem kit_list {K : PySem.W.Frag} (d : PyData) : PySem.W.kitOne K (.type (tyN d)) (.type "list") = some (decide (tyN d = "list")) := kit_ty (kitB_list _ (tyN_mem d))
theorem kit_int {K : PySem.W.Frag} (d : PyData) : PySem.W.kitOne K (.type (tyN d)) (.type "int") = some (decide (tyN d = "int" ∨ tyN d = "bool")) := kit_ty (kitB_int _ (tyN_mem d))
theorem kit_bool {K : PySem.W.Frag} (d : PyData) : PySem.W.kitOne K (.type (tyN d)) (.type "bool") = some (decide (tyN d = "bool")) := kit_ty (kitB_bool _ (tyN_mem d))
section
variable {X : Cx} {K : PySem.W.Frag}
def rReprA (K : PySem.W.Frag) : List V → Hp → VK → Prop := fun xs H Q => ∃ (x : V) (d : PyData), xs = [x] ∧ AnyAt K H x d ∧ d.showable = true ∧ (d = .dict [] ∨ d.hasDict = false) ∧ d.depth ≤ 60 ∧ d.shown.length ≤ sizeLine ∧ Q (.str d.shown) H
theorem call_reprA (hg : X.A.guards = some []) (hu : X.A.units + 64 < cLine) : CallR X (.builtin "repr") (rReprA X.K) := by
  intro pins s σ H xs us Q I r h
  obtain ⟨x, d, rfl, hd, hs, hno, hdep, hsz, q⟩ := h
  rcases hd with hd | ⟨rfl, a, rfl, hd⟩
  · have hno : d.hasDict = false := by
      rcases hno with rfl | h
      · cases hd
      · exact h
    exact call_reprD hg hu pins s σ H _ us Q I r ⟨x, d, rfl, hd, hs, hno, hdep, hsz, q⟩
  · obtain ⟨u, rfl, rx⟩ := vals1 r
    cases rx
    obtain ⟨z, lo, vs, rel, o, es, ep, h1, h2, h3, _, h4, _⟩ := (show ObjOk X.prog X.w H s.heap a (.dK []) from I.hok a _ hd)
    cases rel
    have e0 : es.toList = [] := by
      generalize es.toList = l at h4
      cases h4
      rfl
    refine repr_of_reads' (.dict (kvs := []) (as := []) (bs := []) h1 h2.1 h3 (by rw [e0]; exact .nil) (by rw [e0]; exact .nil)) hs (fun _ => ?_) hg (by show X.A.units + 2 < cLine; omega) (fun _ _ e => e) (fun h' t tk hk => ⟨.str _, H, I.kept hk, ⟨t, rfl⟩, q⟩) (hsz := hsz)
    simp only [List.append_nil, List.mem_singleton]
    exact fun z => (beq_eq_false_iff_ne.mp lo) z.symm
theorem reprAK (hK : X.K = K) (hg : X.A.guards = some []) (hu : X.A.units + 64 < cLine) : CallR X (.builtin "repr") (rReprA K) := hK ▸ call_reprA hg hu
end
end Wn

namespace Wn
open PySem L2
/-! ### a thing of a known type; whether it is a whole number -/
def isI : V → Option Int
  | .int i => some i
  | _ => none
/-- data, or a dict -/
def Th (K : PySem.W.Frag) (H : Hp) (v : V) : Prop := (∃ d, Dp K H v d) ∨ ∃ a kvs, v = .ref a ∧ H a = some (.dK kvs)
theorem Th.ty {K : PySem.W.Frag} {H : Hp} {v : V} (h : Th K H v) : ∃ t ∈ tyNames, TyX K H v (.type t) ∧ (t = "int" ↔ (isI v).isSome = true) := by
  rcases h with ⟨d, h⟩ | ⟨a, kvs, rfl, h⟩
  · refine ⟨tyN d, tyN_mem d, Wn.Dp.ty h, ?_⟩
    cases h <;> simp [tyN, isI]
  · exact ⟨"dict", by decide, .base (.dK h), by simp [isI]⟩
theorem Th.sm {K : PySem.W.Frag} {H H' : Hp} {v : V} (h : Th K H v) (s : Same H H') : Th K H' v := by
  rcases h with ⟨d, h⟩ | ⟨a, kvs, rfl, h⟩
  · exact .inl ⟨d, Wn.Dp.sm s h⟩
  · exact .inr ⟨a, kvs, rfl, s _ _ h⟩
theorem Th.dp {K : PySem.W.Frag} {H : Hp} {v : V} {d : PyData} (h : Dp K H v d) : Th K H v := .inl ⟨d, h⟩
theorem Th.any {K : PySem.W.Frag} {H : Hp} {v : V} {d : PyData} (h : AnyAt K H v d) : Th K H v := by
  rcases h with h | ⟨rfl, a, rfl, h⟩
  · exact .inl ⟨d, h⟩
  · exact .inr ⟨a, [], rfl, h⟩
theorem Th.rp {K : PySem.W.Frag} {H : Hp} {v : V} {d : PyData} (h : Rp K H d v) : Th K H v := Th.dp (Rp.dp d v h)
theorem Th.int {K : PySem.W.Frag} {H : Hp} {i : Int} : Th K H (.int i) := .inl ⟨_, .int i⟩
theorem kit_intT {K : PySem.W.Frag} {t : String} (h : t ∈ tyNames) : PySem.W.kitOne K (.type t) (.type "int") = some (decide (t = "int" ∨ t = "bool")) := kit_ty (kitB_int _ h)
theorem kit_boolT {K : PySem.W.Frag} {t : String} (h : t ∈ tyNames) : PySem.W.kitOne K (.type t) (.type "bool") = some (decide (t = "bool")) := kit_ty (kitB_bool _ h)
def fromV (v : V) (lo hi : Int) : Bool := match isI v with
  | some i => decide (lo ≤ i) && decide (i ≤ hi)
  | none => false
theorem isI_some {v : V} (h : (isI v).isSome = true) : ∃ i, v = .int i := by
  cases v <;> simp [isI] at h
  exact ⟨_, rfl⟩
def spWholeT (K : PySem.W.Frag) : Sp := fun vs H Q _ => ∃ v, vs = [v] ∧ Th K H v ∧ Q (.bl (isI v).isSome) H
def spFromT (K : PySem.W.Frag) : Sp := fun vs H Q _ => ∃ (v : V) (lo hi : Int), vs = [v, .int lo, .int hi] ∧ Th K H v ∧ Q (.bl (fromV v lo hi)) H
end Wn

set_option maxHeartbeats 800000
namespace Wn
open PySem L2
set_option pp.maxSteps 700
set_option pp.deepTerms false
local macro_rules | `(tactic| walk_at "h") => `(tactic| first | with_reducible assumption | (with_reducible exact upd_same) | (with_reducible apply g_upd; (walk_at "neq"); (walk_at "h")) | (with_reducible apply g_same; (with_reducible assumption); (walk_at "h")) | (with_reducible apply g_kp; (with_reducible assumption); (walk_at "nin"); (walk_at "h")) | (with_reducible apply g_tk; (with_reducible assumption); (walk_at "h")))
local macro_rules | `(tactic| walk_at "neq") => `(tactic| first | with_reducible assumption | (with_reducible apply Ne.symm; with_reducible assumption) | (with_reducible apply ne_upd; (with_reducible assumption)) | (with_reducible apply Ne.symm; with_reducible apply ne_upd; with_reducible assumption) | (with_reducible apply ne_fr; (with_reducible assumption); (walk_at "h")) | (with_reducible apply ne_fr'; (with_reducible assumption); (walk_at "h")) | (with_reducible apply ne_kd; (walk_at "h"); (walk_at "h"); (with_unfolding_all (intro z; cases z))))
local macro_rules | `(tactic| walk_at "nin") => `(tactic| first | (with_reducible exact nin0) | with_reducible assumption | (with_reducible apply ninc; (walk_at "neq"); (walk_at "nin")))
local macro_rules | `(tactic| walk_at "none") => `(tactic| first | with_reducible assumption | (with_reducible apply n_upd; (with_reducible assumption)) | (with_reducible apply n_same; (with_reducible assumption); (walk_at "none")) | (with_reducible apply n_kp; (with_reducible assumption); (walk_at "nin"); (walk_at "none")))
local macro_rules | `(tactic| walk_at "mem") => `(tactic| first | (with_reducible exact List.mem_cons_self) | (with_reducible apply List.mem_cons_of_mem; (walk_at "mem")))
local macro_rules | `(tactic| walk_at "am") => `(tactic| first | (with_reducible exact am0) | (with_reducible apply am1; (first | (apply Or.inl; walk_at "mem") | (apply Or.inr; walk_at "none")); (walk_at "am")))
local macro_rules | `(tactic| walk_at "tk") => `(tactic| first | (with_reducible exact TK.refl _) | with_reducible assumption | (with_reducible apply t_tk; (with_reducible assumption); (walk_at "tk")) | (with_reducible apply t_same; (with_reducible assumption); (walk_at "tk")) | (with_reducible apply t_new; (with_reducible assumption); (walk_at "tk")) | (with_reducible apply t_wr; (walk_at "h"); (with_unfolding_all rfl); (walk_at "tk")))
local macro_rules | `(tactic| walk_at "same") => `(tactic| first | (with_reducible exact L2.Same.refl _) | with_reducible assumption | (with_reducible apply s_same; (with_reducible assumption); (walk_at "same")) | (with_reducible apply s_new; (with_reducible assumption); (walk_at "same")) | (with_reducible apply s_wrn; (walk_at "none"); (walk_at "same")))
local macro_rules | `(tactic| walk_at "kp") => `(tactic| first | (with_reducible exact Kp.refl _ _) | with_reducible assumption | (with_reducible apply k_same; (with_reducible assumption); (walk_at "kp")) | (with_reducible apply k_kp; (with_reducible assumption); (walk_at "kp")) | (with_reducible apply k_kpm; (with_reducible assumption); (walk_at "am"); (walk_at "kp")) | (with_reducible apply k_new; (with_reducible assumption); (walk_at "kp")) | (with_reducible apply k_wr; (walk_at "mem"); (walk_at "kp")) | (with_reducible apply k_wrn; (walk_at "none"); (walk_at "kp")))
local macro_rules | `(tactic| walk_at "rp") => `(tactic| first | with_reducible assumption | (with_reducible exact Rp.int) | (with_reducible exact Rp.str) | (with_reducible exact Rp.none) | (with_reducible exact Rp.bool) | (with_reducible apply Rp.tk'; (with_reducible assumption); (walk_at "tk")) | (with_reducible apply Rp.tup; (walk_at "h"); (walk_at "rpl")))
local macro_rules | `(tactic| walk_at "rpl") => `(tactic| first | with_reducible assumption | (with_reducible exact RpL.nil) | (with_reducible apply RpL.tk'; (with_reducible assumption); (walk_at "tk")) | (with_reducible apply RpL.cons; (walk_at "rp"); (walk_at "rpl")))
local macro_rules | `(tactic| walk_at "g") => `(tactic| repeat (first | refine ⟨_, rfl, ?_⟩ | refine ⟨_, _, rfl, rfl, ?_⟩ | refine ⟨rfl, _, rfl, ?_⟩ | refine ⟨_, _, rfl, rfl, (by first | decide | omega), ?_⟩))
abbrev sWhole : Stmt := top 23
abbrev sFrom : Stmt := top 24
structure IB (mg : Str → Option Value) : Prop where
  isinstance : mg "isinstance" = none
  int : mg "int" = none
  bool : mg "bool" = none

section
variable {P : Program} {w : World} {K : PySem.W.Frag} {mg : Str → Option Value} {base : Heap}
theorem scWhole : FnScope ["thing"] ["thing"] (defScope sWhole) := ⟨rfl, rfl, rfl, by decide +kernel, rfl, by decide +kernel, by decide +kernel⟩
theorem ok_whole {f : Addr} {fd : FuncData} (F : Fun K "is_whole" "is_whole" sWhole f fd) (B : IB mg) : FnOk P w K mg base CX0 1 f fd ["thing"] (spWholeT K) := by
  refine F.ok scWhole (fun vs H Q E h => ?_) (fun cdv A outer s H vs Q E hr h => ?_)
  · obtain ⟨v, rfl, _⟩ := h
    rfl
  · obtain ⟨v, rfl, hth, k⟩ := h
    obtain ⟨t, ht, ty, hi⟩ := hth.ty
    refine ⟨_, (pss_one (ps_ret (pe_and (pe_callB (isiK (K := K) rfl) (by rfl) B.isinstance (by decide +kernel) (pa_cons (pv 0) (pa_cons (pe_bltn (v := .ty "int") (by rfl) B.int PyProof.Rows.boot_int rfl) pa_nil))) (pe_one (pe_not (pe_callB (isiK (K := K) rfl) (by rfl) B.isinstance (by decide +kernel) (pa_cons (pv 0) (pa_cons (pe_bltn (v := .ty "bool") (by rfl) B.bool PyProof.Rows.boot_bool rfl) pa_nil)))))))), ?_⟩
    have e : decide (t = "int") = (isI v).isSome := by
      rw [Bool.eq_iff_iff, decide_eq_true_eq]
      exact hi
    rw [← e] at k
    refine ⟨_, rfl, _, _, _, _, _, rfl, .ty _, ty, kit_intT ht, _, rfl, iteP (fun c => ?_) (fun c => ?_)⟩
    · refine ⟨_, rfl, _, _, _, _, _, rfl, .ty _, ty, kit_boolT ht, _, rfl, ?_⟩
      have e2 : (!decide (t = "bool")) = decide (t = "int") := by
        rcases c with rfl | rfl <;> rfl
      rw [e2]
      exact k
    · rw [decide_eq_false (fun z => c (.inl z))] at k
      exact k
theorem scFrom : FnScope ["thing", "low", "high"] ["thing", "low", "high"] (defScope sFrom) := ⟨rfl, rfl, rfl, by decide +kernel, rfl, by decide +kernel, by decide +kernel⟩
theorem ok_from {f : Addr} {fd : FuncData} (F : Fun K "is_from" "is_from" sFrom f fd) (cW : Cd P w K mg base 1 "is_whole" ["thing"] (spWholeT K)) : FnOk P w K mg base CX0 2 f fd ["thing", "low", "high"] (spFromT K) := by
  obtain ⟨fW, fdW, GW, mW, kW, bW⟩ := cW
  refine F.ok scFrom (fun vs H Q E h => ?_) (fun cdv A outer s H vs Q E hr h => ?_)
  · obtain ⟨v, lo, hi, rfl, _⟩ := h
    rfl
  · obtain ⟨v, lo, hi, rfl, ht, k⟩ := h
    have hr1 : Room 1 _ := hr
    refine ⟨_, (pss_one (ps_ret (pe_and (pe_call GW hr1 rfl mW kW bW .nil pass0 (pa_cons (pv 0) pa_nil)) (pe_one (pe_chain op_le op_le (pv 1) (pv 0) (pv 2)))))), ?_⟩
    refine ⟨_, rfl, v, rfl, ht, _, rfl, iteB (fun c => ?_) (fun c => ?_)⟩
    · obtain ⟨i, rfl⟩ := isI_some c
      have k : Q (.bl (decide (lo ≤ i) && decide (i ≤ hi))) H := k
      refine ⟨_, rfl, _, rfl, _, _, rfl, rfl, _, rfl, iteP (fun c1 => ?_) (fun c1 => ?_)⟩
      · rw [decide_eq_true c1, Bool.true_and] at k
        exact ⟨_, rfl, _, _, rfl, rfl, k⟩
      · rw [decide_eq_false c1, Bool.false_and] at k
        exact k
    · have e : fromV v lo hi = false := by
        cases v <;> first | rfl | cases c
      rw [e] at k
      exact k
end
end Wn

namespace Wn
open PySem L2
/-! ### comprehensions over data: any target, a test or none, each element data -/
section
variable {K : PySem.W.Frag}
theorem comp_it {J : It} {G : Hp → Prop} {β : Type} {enc : β → PyData} {g : TG} {tt : TT} {te : TE} {is : List Nat} {σ : L2.St} {H2 : Hp} {D : Addr} {xs : List V} {L : List β} {Qd : Hp → Prop} (w : Walk J xs.length G (YAt xs)) (hG : ∀ H', Same H2 H' → G H') (p : β → Bool) (f : β → PyData) (hr : RpL K H2 (L.map enc) xs) (hD : H2 D = none) (hl : L.length ≤ 1000000)
    (hte : ∀ (j : Nat) (b : β) (x : V) (H' : Hp) (Q : VK) (N : Hp → Prop), L[j]? = some b → Rp K H' (enc b) x → Same H2 H' → (p b = true → ∀ (H'' : Hp) (y : V), Same H' H'' → Rp K H'' (f b) y → Q y H'') → (p b = false → ∀ (H'' : Hp), Same H' H'' → N H'') →
      g x (wipe σ is) H' fun σ2 H3 => wipe σ2 is = wipe σ is ∧ tt σ2 H3 fun b' H4 => if b' = true then te σ2 H4 Q else N H4)
    (hd : ∀ (H' : Hp) (ys : List V), Same H2 H' → H' D = some (.lst ys) → RpL K H' ((L.filter p).map f) ys → Qd H') :
    ∃ W : Nat → Nat → Hp → Prop, (∃ m, W 0 m (upd H2 D (.lst []))) ∧ ∀ j m H, W j m H →
      (J.stop j H ∧ Qd H) ∨ (J.go j H ∧ ∃ Nx : Hp → Prop, (∀ H', Nx H' → ∃ m', m' < m ∧ W (j + 1) m' H') ∧ ∀ x H', J.yld j H x H' → g x (wipe σ is) H' fun σ2 H2 => wipe σ2 is = wipe σ is ∧ tt σ2 H2 fun b H3 =>
        if b = true then te σ2 H3 fun y H4 => ∃ acc, H4 D = some (.lst acc) ∧ acc.length < sizeLine ∧ Nx (upd H4 D (.lst (acc ++ [y]))) else Nx H3) := by
  refine lc_it w (fun j H => ∃ ys, Same H2 H ∧ H D = some (.lst ys) ∧ RpL K H (((L.take j).filter p).map f) ys)
    ⟨[], (L2.Same.refl H2).new hD, upd_same, RpL.nil⟩ (fun j H _ ⟨ys, s, _⟩ => hG H s) ?_ ?_
  · rintro j x H3 H3' hj ⟨ys, s3, hD3, hr3⟩ ⟨rfl, hx⟩
    have hlen := RpL.len _ _ hr
    rw [List.length_map] at hlen
    have hj : j < L.length := by omega
    have ej : L[j]? = some L[j] := List.getElem?_eq_getElem hj
    obtain ⟨v, ev, rv⟩ := RpL.get _ _ hr j (enc L[j]) (by rw [List.getElem?_map, ej]; rfl)
    have ex : v = x := Option.some.inj (ev.symm.trans hx)
    rw [ex] at rv
    have rx := Rp.tk (TK.of s3) _ _ rv
    have et : L.take (j + 1) = L.take j ++ [L[j]] := List.take_succ_eq_append_getElem hj
    have ly : ys.length < sizeLine := by
      have h1 := RpL.len _ _ hr3
      rw [List.length_map] at h1
      have h2 := List.length_filter_le p (L.take j)
      rw [List.length_take] at h2
      exact Nat.lt_of_le_of_lt (show ys.length ≤ 1000000 by omega) (by decide)
    refine hte j L[j] x H3' _ _ ej rx s3 (fun hp H4 y s4 ry => ⟨ys, s4 _ _ hD3, ly, ys ++ [y], (s3.trans s4).wrn hD, upd_same, ?_⟩) (fun hp H4 s4 => ⟨ys, s3.trans s4, s4 _ _ hD3, ?_⟩)
    · have tE : TK H4 (upd H4 D (.lst (ys ++ [y]))) := (TK.refl _).wr (s4 _ _ hD3) rfl
      rw [et, List.filter_append, List.filter_cons, hp, List.map_append]
      exact RpL.app (RpL.tk ((TK.of s4).trans tE) _ _ hr3) (RpL.cons (Rp.tk tE _ _ ry) RpL.nil)
    · rw [et, List.filter_append, List.filter_cons, hp]
      simp only [Bool.false_eq_true, if_false, List.filter_nil, List.append_nil]
      exact RpL.tk (TK.of s4) _ _ hr3
  · rintro H3 ⟨ys, s3, hD3, hr3⟩
    have hlen := RpL.len _ _ hr
    rw [hlen, List.length_map, List.take_length] at hr3
    exact hd H3 ys s3 hD3 hr3
/-- over range(..) -/
theorem comp_rg {J : It} {n : Nat} {fv : Nat → V} {g : TG} {tt : TT} {te : TE} {is : List Nat} {σ : L2.St} {H2 : Hp} {D : Addr} {Qd : Hp → Prop} (w : Walk J n (fun _ => True) (YFn fv)) (p : Nat → Bool) (f : Nat → PyData) (hD : H2 D = none) (hl : n ≤ 1000000)
    (hte : ∀ (j : Nat) (H' : Hp) (Q : VK) (N : Hp → Prop), j < n → Same H2 H' → (p j = true → ∀ (H'' : Hp) (y : V), Same H' H'' → Rp K H'' (f j) y → Q y H'') → (p j = false → ∀ (H'' : Hp), Same H' H'' → N H'') →
      g (fv j) (wipe σ is) H' fun σ2 H3 => wipe σ2 is = wipe σ is ∧ tt σ2 H3 fun b' H4 => if b' = true then te σ2 H4 Q else N H4)
    (hd : ∀ (H' : Hp) (ys : List V), Same H2 H' → H' D = some (.lst ys) → RpL K H' (((List.range n).filter p).map f) ys → Qd H') :
    ∃ W : Nat → Nat → Hp → Prop, (∃ m, W 0 m (upd H2 D (.lst []))) ∧ ∀ j m H, W j m H →
      (J.stop j H ∧ Qd H) ∨ (J.go j H ∧ ∃ Nx : Hp → Prop, (∀ H', Nx H' → ∃ m', m' < m ∧ W (j + 1) m' H') ∧ ∀ x H', J.yld j H x H' → g x (wipe σ is) H' fun σ2 H2 => wipe σ2 is = wipe σ is ∧ tt σ2 H2 fun b H3 =>
        if b = true then te σ2 H3 fun y H4 => ∃ acc, H4 D = some (.lst acc) ∧ acc.length < sizeLine ∧ Nx (upd H4 D (.lst (acc ++ [y]))) else Nx H3) := by
  refine lc_it w (fun j H => ∃ ys, Same H2 H ∧ H D = some (.lst ys) ∧ RpL K H (((List.range j).filter p).map f) ys)
    ⟨[], (L2.Same.refl H2).new hD, upd_same, RpL.nil⟩ (fun j H _ _ => trivial) ?_ ?_
  · rintro j x H3 H3' hj ⟨ys, s3, hD3, hr3⟩ ⟨rfl, rfl⟩
    have ly : ys.length < sizeLine := by
      have h1 := RpL.len _ _ hr3
      rw [List.length_map] at h1
      have h2 := List.length_filter_le p (List.range j)
      rw [List.length_range] at h2
      exact Nat.lt_of_le_of_lt (show ys.length ≤ 1000000 by omega) (by decide)
    refine hte j H3' _ _ hj s3 (fun hp H4 y s4 ry => ⟨ys, s4 _ _ hD3, ly, ys ++ [y], (s3.trans s4).wrn hD, upd_same, ?_⟩) (fun hp H4 s4 => ⟨ys, s3.trans s4, s4 _ _ hD3, ?_⟩)
    · have tE : TK H4 (upd H4 D (.lst (ys ++ [y]))) := (TK.refl _).wr (s4 _ _ hD3) rfl
      rw [List.range_succ, List.filter_append, List.filter_cons, hp, List.map_append]
      exact RpL.app (RpL.tk ((TK.of s4).trans tE) _ _ hr3) (RpL.cons (Rp.tk tE _ _ ry) RpL.nil)
    · rw [List.range_succ, List.filter_append, List.filter_cons, hp]
      simp only [Bool.false_eq_true, if_false, List.filter_nil, List.append_nil]
      exact RpL.tk (TK.of s4) _ _ hr3
  · rintro H3 ⟨ys, s3, hD3, hr3⟩
    exact hd H3 ys s3 hD3 hr3
theorem RpL.bools {H : Hp} : ∀ {bs : List Bool} {ys : List V}, RpL K H (bs.map PyData.bool) ys → ys = bs.map V.bl
  | [], ys, h => by
    unfold List.map RpL at h
    exact h
  | n :: ns, ys, h => by
    rw [List.map_cons] at h
    unfold RpL at h
    obtain ⟨v, r, rfl, h1, h2⟩ := h
    unfold Rp at h1
    rw [RpL.bools h2, h1]
    rfl
theorem filter_yes {α : Type} (l : List α) : l.filter (fun _ => true) = l := List.filter_eq_self.mpr fun _ _ => rfl
end
end Wn

namespace DT
open PySem PySem.W PySem.Calls PyProof.Rows PyProof.V PySem.Spec
section
variable {K : Type} [DecidableEq K] {prog : Program} {w : World} {knd : HeapKind prog w K}
/-- d.pop(k), k a tuple that is there -/
theorem meetsPop1 {d b : Addr} {k : K} (hd : (d == sysModules) = false) :
    MeetsIn prog w (Builtin.«dict.pop» ⟨[.ref d, .ref b], []⟩) (fun A R s => ∃ xs p, knd.room A.in1 ∧ knd.is s.heap k b ∧ s.heap.DictOfH knd d xs ∧ xs.length ≤ sizeLine ∧ atKey xs k = some p ∧
      ∀ h' tk, h'.DictOfH knd d (dropH xs k) → Heap.SameBut d s.heap h' → R (.ok (.ret p.2)) { s with heap := h', toks := tk }) :=
  .of_wp fun A R s ⟨xs, p, hu, hkey, hm, hsz, hp, hsome⟩ => by
    obtain ⟨o, es, ep, ho, hc, hdat, he, his, hn⟩ := id hm
    have hes : es.size = xs.length := size_of_entries he
    have hpart : (keyPart (Value.ref b)).isSome = false := rfl
    unfold Builtin.«dict.pop»
    refine wpAny_bind ?_
    unfold Builtin.Dict.keyAndDefault
    refine wpAny_bind (wpAny_notOrdered_dict hm.typeIs ?_)
    show wpAny _ _ (pure (d, Value.ref b, none)) _ _ s
    refine wpAny_pure ?_
    simp only [hpart, Bool.false_eq_true, if_false]
    refine wpAny_bind (wpAny_dictEntries ho hdat (wpAny_bind (wpAny_pure ?_)))
    cases hem : es.isEmpty with
    | true =>
      have h0 : xs = [] := by
        have z : es.size = 0 := by simpa using hem
        exact List.length_eq_zero_iff.mp (by omega)
      rw [h0] at hp
      cases hp
    | false =>
      simp only [Bool.false_eq_true, if_false]
      refine wpAny_bind (takeH hu hkey hm hsz (fun hno => ?_) fun p' e hp' hev h' hm' hs' => ?_)
      · rw [hp] at hno
        cases hno
      · rw [hp] at hp'
        cases hp'
        simp only [Option.isNone_some, Bool.false_eq_true, if_false]
        exact wpAny_bind (wpAny_letGo (wpAny_pure ⟨e.val, rfl, by rw [hev]; exact hsome h' _ hm' hs'⟩))
end
end DT
namespace L2.DX
open PySem PySem.Spec PyProof.Rows
section
variable {X : Cx}
def rPopT1 : V → List V → Hp → VK → Prop := fun x xs H Q => ∃ (a : Addr) (kvs : List (List L2.Key × V)) (k : List L2.Key) (b : Addr) (v : V), x = .ref a ∧ xs = [.ref b] ∧ H a = some (.dT kvs) ∧ H b = some (.tup (k.map kV)) ∧
  valV kvs k = some v ∧ Q v (upd H a (.dT (dropK kvs k)))
theorem mt_popT1 (hu : X.A.units + 1 < cLine) : MtR X "dict.pop" rPopT1 := by
  intro pins s σ H x xs v us Q I rx rxs h
  obtain ⟨a, kvs, k, b, v0, rfl, rfl, ha, hb, ev, q1⟩ := h
  cases rx
  obtain ⟨u1, rfl, r1⟩ := vals1 rxs
  cases r1
  obtain ⟨z, hd, xs', rel, dd⟩ := dt_of I.hok ha
  have hz : xs'.length ≤ sizeLine := by rw [← Paired.length rel]; exact z
  have r := rel.val k
  obtain ⟨p, hp, rv⟩ : ∃ p, atKey xs' k = some p ∧ RelV v0 p.2 := by
    rw [ev] at r
    cases hp : atKey xs' k with
    | none =>
      rw [hp] at r
      exact (show False from r).elim
    | some p =>
      rw [hp] at r
      exact ⟨p, rfl, r⟩
  refine call_meetsIn PySem.F.slot_dict_pop dd.typeIs PySem.F.entry_dict_pop (PySem.F.args_dict_pop_2 _ _) (DT.meetsPop1 (knd := tupleKind (mixKind X.prog X.w)) (k := k) hd)
    ⟨xs', p, tupleKind_room_in1 hu, key_of I.hok hb, dd, hz, hp, fun h' tk dd' hs => ?_⟩
  obtain ⟨o, es, ep, hq, h2, h3, h4, _, h5⟩ := dd'
  have I2 : Inv X pins σ (upd H a (.dT (dropK kvs k))) { s with heap := h', toks := tk } :=
    d_write I (by rw [ha]; exact True.intro) hs ⟨o, hq⟩ ⟨Nat.le_trans (dropK_le kvs k) z, hd, _, (KT_drop k rel).keeps (fun c ys ec => (by rw [upd_ne (ne_of ec ha (fun z => nomatch z))]; exact ec)), o, es, ep, hq, h2, h3, h4, h5⟩
  show EP X pins σ Q p.2 _
  exact ⟨v0, _, I2, rv, q1⟩
end
end L2.DX

namespace Wn
open PySem L2 PySem.Spec PyProof.Rows HT
/-! ### t[::-1], t[i::-1] of a tuple -/
def revLen (n : Nat) : Option Int → Nat
  | none => n
  | some v => ((if v < 0 then max (v + (n : Int)) (-1) else min v ((n : Int) - 1)) + 1).toNat
theorem revLen_le (n : Nat) (lo : Option Int) : revLen n lo ≤ n := by
  cases lo with
  | none => exact Nat.le_refl _
  | some v =>
    show ((if v < 0 then max (v + (n : Int)) (-1) else min v ((n : Int) - 1)) + 1).toNat ≤ n
    split <;> omega
theorem fm_congr {α β : Type} {f g : α → Option β} : ∀ {l : List α}, (∀ x ∈ l, f x = g x) → l.filterMap f = l.filterMap g
  | [], _ => rfl
  | x :: l, h => by
    rw [List.filterMap_cons, List.filterMap_cons, h x List.mem_cons_self, fm_congr fun y hy => h y (List.mem_cons_of_mem _ hy)]
section
variable {prog : Program} {w : World} {A : Around} {E : Value → Shared → Prop} {s : Shared}
theorem rev_adjust (lo : Option Int) (n : Nat) : Builtin.Slice.sliceAdjust lo none (-1) (n : Int) = (((revLen n lo : Nat) : Int) - 1, -1) := by
  have h1 : ((-1 : Int) < 0) := by omega
  unfold Builtin.Slice.sliceAdjust
  simp only [h1, if_true]
  refine Prod.ext ?_ rfl
  cases lo with
  | none => rfl
  | some v =>
    show (if v < 0 then max (v + (n : Int)) (-1) else min v ((n : Int) - 1)) = (((((if v < 0 then max (v + (n : Int)) (-1) else min v ((n : Int) - 1)) + 1).toNat : Nat) : Int)) - 1
    split <;> omega
theorem rev_places (k : Nat) : Builtin.Slice.slicePlaces ((k : Int) - 1) (-1) (-1) = k := by
  unfold Builtin.Slice.slicePlaces
  have h1 : ¬ ((-1 : Int) > 0) := by omega
  rw [if_neg h1, show (- -1 : Int) = 1 by decide]
  simp only [Int.ediv_one]
  split <;> omega
theorem rev_applied {sl : Addr} {vl vs : Value} {lo : Option Int} {n : Nat} {Q : Int × Int × Nat → Shared → Prop} (hs : s.heap.IsSliceOf sl vl .none vs) (pl : IsPart vl lo) (ps : IsPart vs (some (-1)))
    (h : Q (((revLen n lo : Nat) : Int) - 1, -1, revLen n lo) s) : wpAny (model prog w) A (Builtin.Slice.sliceApplied (.ref sl) (pure (n : Int))) Q E s := by
  obtain ⟨os, hos, hcs, hds⟩ := id hs
  unfold Builtin.Slice.sliceApplied Builtin.Slice.sliceFields
  refine wpAny_bind (wpAny_bind (wpAny_field hos hds (x := vl) rfl (wpAny_bind (wpAny_field hos hds (x := .none) rfl (wpAny_bind (wpAny_field hos hds (x := vs) rfl (wpAny_pure ?_)))))))
  refine wpAny_bind (slicePart_ ps ?_)
  show wpAny _ _ (if ((-1 : Int) == 0) = true then _ else _) _ _ s
  rw [if_neg (by decide)]
  refine wpAny_bind (slicePart_ pl (wpAny_bind (slicePart_ .none (wpAny_bind (wpAny_pure ?_)))))
  show wpAny _ _ (match Builtin.Slice.sliceAdjust lo none (-1) (n : Int) with | (lo, hi) => pure (lo, (-1 : Int), Builtin.Slice.slicePlaces lo hi (-1))) _ _ s
  rw [rev_adjust lo n]
  show wpAny _ _ (pure (((revLen n lo : Nat) : Int) - 1, (-1 : Int), Builtin.Slice.slicePlaces (((revLen n lo : Nat) : Int) - 1) (-1) (-1))) _ _ s
  rw [rev_places]
  exact wpAny_pure h
theorem rev_pick (xs : Array Value) (k : Nat) (hk : k ≤ xs.size) : ((List.range k).filterMap fun (m : Nat) => xs[(((k : Int) - 1) + (m : Int) * (-1)).toNat]?).toArray = (xs.toList.take k).reverse.toArray := by
  congr 1
  have e : (List.range k).filterMap (fun (m : Nat) => xs[(((k : Int) - 1) + (m : Int) * (-1)).toNat]?) = ((List.range k).map fun m => k - 1 - m).filterMap (xs[·]?) := by
    rw [List.filterMap_map]
    refine fm_congr fun m hm => ?_
    have hm := List.mem_range.mp hm
    show xs[_]? = xs[k - 1 - m]?
    congr 1
    omega
  rw [e, PySem.W.krv_range, List.filterMap_reverse]
  congr 1
  have := pick_run xs 0 k
  rw [List.filterMap_map] at this
  have e2 : ((fun x => xs[x]?) ∘ fun x => 0 + x) = fun m => xs[m]? := by
    funext m
    show xs[0 + m]? = xs[m]?
    rw [Nat.zero_add]
  rw [e2, List.drop_zero] at this
  exact this
theorem getItem_tuple_rev {t sl : Addr} {items : Array Value} {vl vs : Value} {lo : Option Int} {Q : Value → Shared → Prop} (ht : IsTup s.heap t items) (hs : s.heap.IsSliceOf sl vl .none vs) (pl : IsPart vl lo) (ps : IsPart vs (some (-1)))
    (h : Q (.ref s.heap.objs.size) { s with heap := s.heap.push { cls := .type "tuple", data := .seq (items.toList.take (revLen items.size lo)).reverse.toArray } })
    (hsz : items.size ≤ sizeLine) : wpAny (model prog w) A (getItem (.ref t) (.ref sl)) Q E s := by
  have hk := revLen_le items.size lo
  have htake : sizeOk (.seq (items.toList.take (revLen items.size lo)).reverse.toArray) := by
    show (items.toList.take (revLen items.size lo)).reverse.toArray.size ≤ sizeLine
    rw [List.size_toArray, List.length_reverse, List.length_take, Array.length_toList]
    omega
  obtain ⟨os, hos, hcs, hds⟩ := id hs
  have hTs : s.TypeIs (.ref sl) "slice" := ⟨os, hos, hcs⟩
  unfold getItem
  try with_reducible refine wpAny_holding ?_
  first | refine wpAny_bind (wpAny_pure ?_) | skip
  refine wpAny_bind (wpAny_sequenceKey ht.typeIs (by decide) ?_)
  refine wpAny_bind (wpAny_callSpecial?_slot (name := Str.ofString "__getitem__") ht.typeIs PyProof.Rows.slot_tuple_getitem
    (wpAny_call_entry PyProof.Rows.slot_tuple_getitem ht.typeIs entry_tuple_getitem ?_ (args_tuple_getitem _ _)))
  show wpAny _ _ (Builtin.Tuple.tupleItemsOf (.ref t) >>= _) _ _ s
  refine wpAny_bind (tupleItemsOf_ ht ?_)
  refine wpAny_bind (wpAny_typeOf hTs ?_)
  rw [if_pos (by decide)]
  refine wpAny_bind (rev_applied hs pl ps ?_)
  have hno : ¬ (((((revLen items.size lo : Nat) : Int) - 1) == 0 && (-1 : Int) == 1 && (revLen items.size lo) == items.size) = true) := by
    rw [show ((-1 : Int) == 1) = false by decide, Bool.and_false, Bool.false_and]
    exact Bool.false_ne_true
  show wpAny _ _ (if ((((revLen items.size lo : Nat) : Int) - 1) == 0 && (-1 : Int) == 1 && (revLen items.size lo) == items.size) = true then _ else _) _ _ s
  rw [if_neg hno, rev_pick _ _ hk]
  first
    | exact wpAny_bind (m := Builtin.Tuple.tupleExact _) (wpAny_newObj_type (wpAny_pure ⟨_, rfl, wpAny_pure h⟩) htake)
    | exact wpAny_bind (m := Builtin.Tuple.tupleExact _) (wpAny_newObj_type (wpAny_bind (wpAny_pure (wpAny_pure ⟨_, rfl, wpAny_pure h⟩))) htake)
    | exact wpAny_bind (wpAny_bind (m := Builtin.Tuple.tupleExact _) (wpAny_newObj_type (wpAny_pure (wpAny_pure ⟨_, rfl, wpAny_pure h⟩)) htake))
    | exact wpAny_bind (wpAny_bind (m := Builtin.Tuple.tupleExact _) (wpAny_newObj_type (wpAny_pure ⟨_, rfl, wpAny_pure h⟩) htake))
end
section
variable {X : Cx} {K : PySem.W.Frag}
def tRevT (K : PySem.W.Frag) (te : TE) (tl : TO) : TE := fun σ H Q => te σ H fun x H1 => tl σ H1 fun lo H2 => ∃ a xs, x = .ref a ∧ SqT K H2 a xs ∧ ∀ p, H2 p = none → Q (.ref p) (upd H2 p (.tup (xs.take (revLen xs.length lo)).reverse))
theorem pe_revT {e : Expr} {lo : Option Expr} {te : TE} {tl : TO} {k : Nat} {p1 p2 p3 pos : Pos} (hK : X.K = K) (he : PE X e te) (hl : PO X lo tl) : PE X (.Subscript e (.Slice lo none (some (.UnaryOp .USub (.Constant (.int 1) k p1) p2)) p3) pos) (tRevT K te tl) := by
  subst hK
  refine ⟨fun pins s σ H Q I h => ?_⟩
  refine Subscript_ (thn (he.run pins s σ H _ I h) fun v s1 ⟨x, H1, I1, r1, q1⟩ => ?_)
  have hst : PO X (some (.UnaryOp .USub (.Constant (.int 1) k p1) p2)) (tPart (tUn (rU fun i => .int (-i)) (tC (.int 1)))) := po_some (pe_un un_neg pe_int)
  refine wpAny_Slice (thn (hl.run pins s1 σ H1 _ I1 q1) fun vl s2 ⟨l, H2, I2, pl, q2⟩ => ?_)
  obtain ⟨a, xs, ex, hx, q⟩ := q2
  subst ex
  cases r1
  refine thn (po_none.run pins s2 σ H2 (fun o H3 => o = none ∧ H3 = H2) I2 ⟨rfl, rfl⟩) fun vu s3 ⟨u, H3, I3, pu, eu, e3⟩ => ?_
  subst eu e3
  refine thn (hst.run pins s3 σ H3 (fun o H4 => o = some (-1) ∧ H4 = H3) I3 ⟨1, rfl, -1, rfl, rfl, rfl⟩) fun vs s4 ⟨o, H4, I4, ps, eo, e4⟩ => ?_
  subst eo e4
  cases pu
  have I5 : Inv X pins σ H4 { s4 with heap := s4.heap.push { cls := .type "slice", data := .fields #[vl, .none, vs] } } := I4.kept (t' := s4.toks) fun b ob q => Heap.get?_push_of_some _ q
  obtain ⟨its, r, ht, hz⟩ := I5.tuple hx
  have hlen : its.toArray.size = xs.length := by rw [List.size_toArray]; exact r.length.symm
  show wpAny (model X.prog X.w) X.A (subscriptTail e (.Slice lo none (some (.UnaryOp .USub (.Constant (.int 1) k p1) p2)) p3) (.ref a) (.ref s4.heap.objs.size)) (EP X pins σ Q) X.xe { s4 with heap := s4.heap.push { cls := .type "slice", data := .fields #[vl, .none, vs] } }
  refine tail_any (ops := [.ref a, .ref s4.heap.objs.size]) ht.typeIs (PyProof.Rows.slot_tuple_getitem.lookup) ?_ (by with_unfolding_all rfl)
  refine getItem_tuple_rev ht (Heap.IsSliceOf.new _ vl .none vs) pl ps ?_ (by rw [hlen]; exact hz)
  rw [hlen]
  refine ⟨.ref _, _, I5.laid (t' := s4.toks) (o := .tup (xs.take (revLen xs.length l)).reverse) (fun b ob q => Heap.get?_push_of_some _ q) (Nat.le_refl _) ?_, rfl, q _ (I5.hok.fresh (Nat.le_refl _))⟩
  refine ⟨by rw [List.length_reverse, List.length_take]; omega, _, ?_, IsTup.new _ _⟩
  have := r.take (revLen xs.length l)
  exact this.reverse
end
end Wn

namespace Wn
open PySem L2
/-! ### slices and sums of tuples, whatever they are -/
theorem SqT.sm {K : PySem.W.Frag} {H H' : Hp} {a : Addr} {xs : List V} (h : SqT K H a xs) (e : Same H H') : SqT K H' a xs := SqT.tk h (TK.of e)
section
variable {α : Type}
def cutL (xs : List α) (lo hi : Option Int) : List α := (xs.drop (HT.sIx xs.length 0 lo)).take (HT.sIx xs.length xs.length hi - HT.sIx xs.length 0 lo)
theorem cutL_all (xs : List α) : cutL xs none none = xs := by
  unfold cutL
  rw [HT.sIx_none, HT.sIx_none, List.drop_zero, Nat.sub_zero, List.take_length]
theorem cutL_to (xs : List α) (k : Nat) : cutL xs none (some (k : Int)) = xs.take k := by
  unfold cutL
  rw [HT.sIx_nat, HT.sIx_none, List.drop_zero, Nat.sub_zero]
  by_cases hk : k ≤ xs.length
  · rw [Nat.min_eq_left hk]
  · rw [Nat.min_eq_right (by omega), List.take_of_length_le (Nat.le_refl _), List.take_of_length_le (by omega)]
theorem cutL_from (xs : List α) (k : Nat) : cutL xs (some (k : Int)) none = xs.drop k := by
  unfold cutL
  rw [HT.sIx_nat, HT.sIx_none]
  by_cases hk : k ≤ xs.length
  · rw [Nat.min_eq_left hk, List.take_of_length_le (by rw [List.length_drop]; exact Nat.le_refl _)]
  · rw [Nat.min_eq_right (by omega), List.drop_of_length_le (Nat.le_refl _), List.drop_of_length_le (by omega), List.take_nil]
theorem cutL_mid (xs : List α) (a b : Nat) : cutL xs (some (a : Int)) (some (b : Int)) = (xs.drop a).take (b - a) := by
  unfold cutL
  rw [HT.sIx_nat, HT.sIx_nat]
  by_cases h : a ≤ xs.length
  · rw [Nat.min_eq_left h]
    by_cases h2 : b ≤ xs.length
    · rw [Nat.min_eq_left h2]
    · rw [Nat.min_eq_right (by omega), List.take_of_length_le (by rw [List.length_drop]; exact Nat.le_refl _), List.take_of_length_le (by rw [List.length_drop]; omega)]
  · rw [show min a xs.length = xs.length by omega, List.drop_of_length_le (Nat.le_refl _), List.drop_of_length_le (show xs.length ≤ a by omega), List.take_nil, List.take_nil]
theorem cutL_butlast (xs : List α) : cutL xs none (some (-1)) = xs.dropLast := by
  unfold cutL
  have e : HT.sIx xs.length xs.length (some (-1)) = xs.length - 1 := by
    unfold HT.sIx
    dsimp only
    rw [if_pos (show (-1 : Int) < 0 by decide)]
    omega
  rw [e, HT.sIx_none, List.drop_zero, Nat.sub_zero, List.dropLast_eq_take]
theorem cutL_last (xs : List α) : cutL xs (some (-1)) none = xs.drop (xs.length - 1) := by
  unfold cutL
  have e : HT.sIx xs.length 0 (some (-1)) = xs.length - 1 := by
    unfold HT.sIx
    dsimp only
    rw [if_pos (show (-1 : Int) < 0 by decide)]
    omega
  rw [e, HT.sIx_none, List.take_of_length_le (by rw [List.length_drop]; exact Nat.le_refl _)]
theorem cutL_map {β : Type} (f : α → β) (xs : List α) (lo hi : Option Int) : cutL (xs.map f) lo hi = (cutL xs lo hi).map f := by
  unfold cutL
  rw [List.length_map, List.map_take, List.map_drop]
theorem cutL_mem {xs : List α} {lo hi : Option Int} {x : α} (h : x ∈ cutL xs lo hi) : x ∈ xs := List.mem_of_mem_drop (List.mem_of_mem_take h)
theorem cutL_len (xs : List α) (lo hi : Option Int) : (cutL xs lo hi).length ≤ xs.length := by
  unfold cutL
  rw [List.length_take, List.length_drop]
  omega
end
theorem cutV_L (xs : List V) (lo hi : Option Int) : cutV xs lo hi = cutL xs lo hi := rfl
section
variable {K : PySem.W.Frag} {H H' : Hp} {a b : Addr} {xs ys : List V} {ds es : List PyData} {lo hi : Option Int} {Q : VK}
theorem slA_sq (h : SqT K H a xs) (q : ∀ (H' : Hp) (x : Addr), Same H H' → SqT K H' x (cutL xs lo hi) → Q (.ref x) H') : rSlA K (.ref a) lo hi H Q := by
  refine ⟨a, xs, rfl, h, fun hw => ?_, fun hw p hp => ?_⟩
  · refine q H a (L2.Same.refl _) ?_
    have e : cutL xs lo hi = xs := by
      unfold cutL
      rw [hw.1, hw.2, List.drop_zero, Nat.sub_zero, List.take_length]
    rw [e]
    exact h
  · exact q _ p ((L2.Same.refl _).new hp) (SqT.of upd_same)
theorem catA_sq (ha : SqT K H a xs) (hb : SqT K H b ys) (hl : xs.length + ys.length ≤ 1000000) (q : ∀ (H' : Hp) (x : Addr), Same H H' → SqT K H' x (xs ++ ys) → Q (.ref x) H') : rCatA K (.ref a) (.ref b) H Q := by
  refine ⟨a, b, xs, ys, rfl, rfl, ha, hb, Nat.le_trans hl (by decide), fun e => ?_, fun _ e => ?_, fun _ _ p hp => ?_⟩
  · subst e
    exact q H b (L2.Same.refl _) hb
  · subst e
    exact q H a (L2.Same.refl _) (by rw [List.append_nil]; exact ha)
  · exact q _ p ((L2.Same.refl _).new hp) (SqT.of upd_same)
/-- a tuple of data -/
def TupAt (K : PySem.W.Frag) (H : Hp) (a : Addr) (ds : List PyData) : Prop := Rp K H (.tuple ds) (.ref a)
theorem TupAt.inv (h : TupAt K H a ds) : ∃ xs, SqT K H a xs ∧ RpL K H ds xs := by
  unfold TupAt Rp at h
  obtain ⟨b, xs, e, h1, h2⟩ := h
  cases e
  exact ⟨xs, h1, h2⟩
theorem TupAt.sm (h : TupAt K H a ds) (s : Same H H') : TupAt K H' a ds := Rp.tk (TK.of s) _ _ h
theorem TupAt.tk (h : TupAt K H a ds) (s : TK H H') : TupAt K H' a ds := Rp.tk s _ _ h
theorem RpL.cut (h : RpL K H ds xs) : RpL K H (cutL ds lo hi) (cutL xs lo hi) := by
  unfold cutL
  rw [RpL.len _ _ h]
  exact RpL.take _ (RpL.drop _ h)
theorem slA_tup (h : TupAt K H a ds) (q : ∀ (H' : Hp) (x : Addr), Same H H' → TupAt K H' x (cutL ds lo hi) → Q (.ref x) H') : rSlA K (.ref a) lo hi H Q := by
  obtain ⟨xs, hx, rx⟩ := h.inv
  exact slA_sq hx fun H' x s h' => q H' x s (Rp.tupS h' (RpL.tk (TK.of s) _ _ rx.cut))
theorem catA_tup (ha : TupAt K H a ds) (hb : TupAt K H b es) (hl : ds.length + es.length ≤ 1000000) (q : ∀ (H' : Hp) (x : Addr), Same H H' → TupAt K H' x (ds ++ es) → Q (.ref x) H') : rCatA K (.ref a) (.ref b) H Q := by
  obtain ⟨xs, hx, rx⟩ := ha.inv
  obtain ⟨ys, hy, ry⟩ := hb.inv
  refine catA_sq hx hy (by rw [RpL.len _ _ rx, RpL.len _ _ ry]; exact hl) fun H' x s h' => q H' x s (Rp.tupS h' (RpL.tk (TK.of s) _ _ (RpL.app rx ry)))
/-! ### the same of things of any kind -/
theorem DpAll.app : ∀ {xs ys : List V} {ds es : List PyData}, DpAll K H xs ds → DpAll K H ys es → DpAll K H (xs ++ ys) (ds ++ es)
  | _, _, _, _, .nil, h => h
  | _, _, _, _, .cons h1 h2, h => .cons h1 (DpAll.app h2 h)
theorem DpAll.take : ∀ (k : Nat) {xs : List V} {ds : List PyData}, DpAll K H xs ds → DpAll K H (xs.take k) (ds.take k)
  | 0, _, _, _ => .nil
  | k + 1, _, _, .nil => .nil
  | k + 1, _, _, .cons h1 h2 => .cons h1 (DpAll.take k h2)
theorem DpAll.drop : ∀ (k : Nat) {xs : List V} {ds : List PyData}, DpAll K H xs ds → DpAll K H (xs.drop k) (ds.drop k)
  | 0, _, _, h => h
  | k + 1, _, _, .nil => .nil
  | k + 1, _, _, .cons h1 h2 => DpAll.drop k h2
theorem DpAll.len' : ∀ {vs : List V} {ds : List PyData}, DpAll K H vs ds → vs.length = ds.length
  | _, _, .nil => rfl
  | _, _, .cons _ h => by rw [List.length_cons, List.length_cons, DpAll.len' h]
theorem DpAll.cut (h : DpAll K H xs ds) : DpAll K H (cutL xs lo hi) (cutL ds lo hi) := by
  unfold cutL
  rw [DpAll.len' h]
  exact DpAll.take _ (DpAll.drop _ h)
theorem DpAll.rev : ∀ {xs : List V} {ds : List PyData}, DpAll K H xs ds → DpAll K H xs.reverse ds.reverse
  | _, _, .nil => .nil
  | _, _, .cons h1 h2 => by
    rw [List.reverse_cons, List.reverse_cons]
    exact DpAll.app (DpAll.rev h2) (.cons h1 .nil)
end
end Wn
namespace Wn
open PySem L2
/-- a part of a tuple that isn't the whole: a new one -/
theorem slA_new {K : PySem.W.Frag} {H : Hp} {a : Addr} {xs : List V} {lo hi : Option Int} {Q : VK} (h : SqT K H a xs) (hw : ¬ (HT.sIx xs.length 0 lo = 0 ∧ HT.sIx xs.length xs.length hi = xs.length))
    (q : ∀ (H' : Hp) (x : Addr), Same H H' → H x = none → H' x = some (.tup (cutL xs lo hi)) → Q (.ref x) H') : rSlA K (.ref a) lo hi H Q :=
  ⟨a, xs, rfl, h, fun z => absurd z hw, fun _ p hp => q _ p ((L2.Same.refl _).new hp) hp upd_same⟩
theorem slA_2of4 {K : PySem.W.Frag} {H : Hp} {a : Addr} {x1 x2 x3 x4 : V} {Q : VK} (h : SqT K H a [x1, x2, x3, x4])
    (q : ∀ (H' : Hp) (x : Addr), Same H H' → H x = none → H' x = some (.tup [x1, x2]) → Q (.ref x) H') : rSlA K (.ref a) none (some 2) H Q :=
  slA_new h (fun z => absurd z.2 (by show ¬ (2 : Nat) = 4; decide)) fun H' x s n e => q H' x s n (by
    have e2 : cutL [x1, x2, x3, x4] none (some 2) = [x1, x2] := cutL_to _ 2
    rw [e2] at e
    exact e)
end Wn

namespace Wn
open PySem L2
section
variable {X : Cx} {ι : Type} {C f : ι → Addr} {fd : ι → FuncData} {sp : ι → Sp} {o e : Expr} {es : List Expr} {m : Str} {ta : TE} {t : TA} {CX : CXT} {k : Nat} {ps : List Str} {ds : List Value} {dvs : List V} {E : XK} {apos pos : Pos}
/-- o.m(..), o of one of some classes -/
def tMethI (C : ι → Addr) (m : Str) (sp : ι → Sp) (dvs : List V) (E : XK) (ta : TE) (t : TA) : TE := fun σ H Q => ta σ H fun x H1 => ∃ i a dx fs, x = .ref a ∧ H1 a = some (.ins (C i) dx fs) ∧ fs.lookup m = none ∧
  t σ H1 fun vs H2 => sp i (x :: (vs ++ dvs)) H2 Q E
theorem pe_methI {pl : Sem Bool} (he : PE X o ta) (c : ∀ i, Cls X.K (C i)) (hm : ∀ i, Meth X.K (C i) m (f i)) (F : ∀ i, FnOk X.prog X.w X.K X.mg X.base CX k (f i) (fd i) ps (sp i)) (hr : Room k X.A) (hb : ∀ i, Binds X.K (fd i) ps ds) (hd : Vals dvs ds) (hx : Passes CX X E) (ha : PA X (e :: es) t)
    (hst : starEach (e :: es) X.env = (false, eval e X.env) :: starEach es X.env := by rfl) (hpl : (backTo pos (starEach es X.env)).any (·.1) = false := by rfl)
    (ht : eval (.Call (.Attribute o m apos) (e :: es) [] pos) X.env = (do
      let ov ← eval o X.env
      standAt apos.atName
      let (f, first) ← holding [ov] (getMethod ov m pl)
      callWith pos f first (backTo pos (starEach (e :: es) X.env)) (backToKw pos (keywordEach [] X.env))) := by rfl) :
    PE X (.Call (.Attribute o m apos) (e :: es) [] pos) (tMethI C m sp dvs E ta t) := by
  refine ⟨fun pins s σ H Q I h => ?_⟩
  refine PySem.W.methodCall_KW (pl := pl) (thn (he.run pins s σ H _ I h) fun u s1 ⟨x, H1, I1, rx, i, a, dx, fs, ex, ea, l, q⟩ => ?_) ht
  subst ex
  obtain rfl : u = Value.ref a := rx
  refine getmeth_ok I1 ea (c i) (hm i) l ?_
  refine PySem.W.callWith_K (first := [.ref a]) (h₀ := X.base) I.ok.mod.kin (hm i).kp (thn (ha.run pos pins s1 σ H1 _ I1 q) fun us s2 ⟨vs, H2, I2, r, q2⟩ => ⟨I2.kIn, ?_⟩) hst hpl
  exact run_fn (us := .ref a :: us) (vs := .ref a :: vs) (F i) hr (hb i) hd hx I2 (.cons rfl r) q2
theorem pe_methI0 {pl : Sem Bool} (he : PE X o ta) (c : ∀ i, Cls X.K (C i)) (hm : ∀ i, Meth X.K (C i) m (f i)) (F : ∀ i, FnOk X.prog X.w X.K X.mg X.base CX k (f i) (fd i) ps (sp i)) (hr : Room k X.A) (hb : ∀ i, Binds X.K (fd i) ps ds) (hd : Vals dvs ds) (hx : Passes CX X E)
    (ht : eval (.Call (.Attribute o m apos) [] [] pos) X.env = (do
      let ov ← eval o X.env
      standAt apos.atName
      let (f, first) ← holding [ov] (getMethod ov m pl)
      callWith pos f first (backTo pos (starEach [] X.env)) (backToKw pos (keywordEach [] X.env))) := by rfl) :
    PE X (.Call (.Attribute o m apos) [] [] pos) (tMethI C m sp dvs E ta tNil) := by
  refine ⟨fun pins s σ H Q I h => ?_⟩
  refine PySem.W.methodCall_KW (pl := pl) (thn (he.run pins s σ H _ I h) fun u s1 ⟨x, H1, I1, rx, i, a, dx, fs, ex, ea, l, q⟩ => ?_) ht
  subst ex
  obtain rfl : u = Value.ref a := rx
  refine getmeth_ok I1 ea (c i) (hm i) l ?_
  exact PySem.W.callWith_K0 (first := [.ref a]) I1.kIn (hm i).kp (run_fn (us := [.ref a]) (vs := [.ref a]) (F i) hr (hb i) hd hx I1 (.cons rfl .nil) q)
end
section
variable {X : Cx} {K : PySem.W.Frag}
/-- len(s), s a set of tuples -/
def rLenSetT (K : PySem.W.Frag) (P : Program) (w : World) : List V → Hp → VK → Prop := fun xs H Q => ∃ a L, xs = [V.ref a] ∧ H a = some (SetTO P w a L) ∧ (∀ p ∈ L, SqT K H p.1 (p.2.map V.int)) ∧ ((L.map (·.2)).Nodup → Q (.int L.length) H)
theorem call_lenSetT : CallR X (.builtin "len") (rLenSetT X.K X.prog X.w) := by
  intro pins s σ H vs us Q I r h
  obtain ⟨a, L, rfl, ha, hk, q⟩ := h
  have R0 : SetT0 X.prog X.w s.heap a L := (I.hok a _ ha).1
  obtain ⟨es, ep, t, R⟩ := R0.full fun p hp => I.isT (hk p hp)
  rw [Vals.ref1 r]
  obtain ⟨o, ho, hex, hd⟩ := R.ob
  have hn := R.size
  have hf := R.few
  exact call_len_set ho hex hd R.fits (by omega) ⟨.int L.length, H, I.tok _, ⟨_, by rw [hn]⟩, q R.nd⟩
theorem lenSetTK {P : Program} {w : World} (hK : X.K = K) (hP : X.prog = P) (hw : X.w = w) : CallR X (.builtin "len") (rLenSetT K P w) := hK ▸ hP ▸ hw ▸ call_lenSetT
theorem setOfTK {P : Program} {w : World} (hK : X.K = K) (hP : X.prog = P) (hw : X.w = w) (hc : X.calm = true) (hu : X.A.units + 64 < cLine) : CallR X (.type "set") (rSetOfT K P w) := hK ▸ hP ▸ hw ▸ cr_setOfT hc hu
theorem sortedTK {P : Program} {w : World} (hK : X.K = K) (hP : X.prog = P) (hw : X.w = w) (hc : X.calm = true) : CallR X (.builtin "sorted") (rSortedT K P w) := hK ▸ hP ▸ hw ▸ cr_sortedT hc
theorem sortUK {d : Nat} {B : Int} (hK : X.K = K) (hd : 1 ≤ d) : CallR X (.builtin "sorted") (rSortU K d B) := hK ▸ cr_sortT hd
theorem inDK (hK : X.K = K) (hu : X.A.units + 65 < cLine) : OpR X (compareOp .In) (rInD K) := hK ▸ op_inD hu
theorem notInDK (hK : X.K = K) (hu : X.A.units + 65 < cLine) : OpR X (compareOp .NotIn) (rNotInD K) := hK ▸ op_notInD hu
end
end Wn
namespace Wn
open PySem L2
section
variable {X : Cx} {K : PySem.W.Frag}
theorem lenSetIK {a : Expr} {ta : TE} {p p2 q pos : Pos} (hK : X.K = K) (hc : X.calm = true) (hg : Gl X "len") (hm : X.mg "len" = none) (hg2 : Gl X "set") (hm2 : X.mg "set" = none) (ha : PE X a ta)
    (na : starEach [a] X.env = (false, eval a X.env) :: starEach [] X.env := by rfl) : PE X (.Call (.Name "len" p) [.Call (.Name "set" p2) [a] [] q] [] pos) (tLenSetI K ta) := hK ▸ pe_lenSetI hc hg hm hg2 hm2 ha na
end
end Wn

namespace Wn
open PySem L2
abbrev sE_BadGround : Stmt := inClass (top 27) 0
abbrev sE_BadWeave : Stmt := inClass (top 28) 0
abbrev sE_NoHead : Stmt := inClass (top 29) 0
abbrev sE_BadRoom : Stmt := inClass (top 30) 0
abbrev sE_NoRoom : Stmt := inClass (top 31) 0
abbrev sE_NoNumber : Stmt := inClass (top 32) 0
abbrev sE_Taken : Stmt := inClass (top 33) 0
abbrev sE_NoHand : Stmt := inClass (top 34) 0
abbrev sE_NoPlace : Stmt := inClass (top 35) 0
abbrev sE_InUse : Stmt := inClass (top 36) 0
abbrev sE_Full : Stmt := inClass (top 37) 0
abbrev sE_BadText : Stmt := inClass (top 38) 0
abbrev sE_BadGate : Stmt := inClass (top 39) 0
abbrev sE_NoGate : Stmt := inClass (top 40) 0
abbrev sE_NoRoad : Stmt := inClass (top 41) 0
abbrev sE_Same : Stmt := inClass (top 42) 0
abbrev sE_Long : Stmt := inClass (top 43) 0
abbrev sE_Busy : Stmt := inClass (top 44) 0
abbrev sE_BadDeeds : Stmt := inClass (top 45) 0
abbrev sE_Broken : Stmt := inClass (top 46) 0

section
variable {P : Program} {w : World} {K : PySem.W.Frag} {mg : Str → Option Value} {base : Heap} {NA C : Addr}
theorem scE_BadGround : FnScope ["self", "at"] ["self", "at"] (defScope sE_BadGround) := ⟨rfl, rfl, rfl, by decide +kernel, rfl, by decide +kernel, by decide +kernel⟩
theorem ok_E_BadGround {f : Addr} {fd : FuncData} (F : Fun K "__init__" "BadGround.__init__" sE_BadGround f fd) (N : NetE K mg NA) (T : OexC K C) (no0 : PySem.W.findIn K (.ref C) "at" = some none) : FnOk P w K mg base CX0 1 f fd ["self", "at"] (spX1 C "at") := by
  refine F.ok scE_BadGround (fun vs H Q E h => ?_) (fun cdv A outer s H vs Q E hr h => ?_)
  · obtain ⟨a, v, rfl, _⟩ := h
    rfl
  · obtain ⟨a, v, rfl, ha, k⟩ := h
    refine ⟨_, (pss_cons (ps_expr (pe_ownInit (by rfl) N.g N.sp N.rd N.v (pa_cons (pv 0) (pa_cons pe_str pa_nil))))
       (pss_one (ps_ost (pv 0) (pv 1)))), ?_⟩
    refine ⟨_, rfl, a, C, _, rfl, (by simp), T, ha, _, rfl, _, rfl, a, C, rfl, T, no0, .inl ⟨ha, fun dx hd ne => k dx hd ne⟩⟩
theorem scE_BadWeave : FnScope ["self", "at"] ["self", "at"] (defScope sE_BadWeave) := ⟨rfl, rfl, rfl, by decide +kernel, rfl, by decide +kernel, by decide +kernel⟩
theorem ok_E_BadWeave {f : Addr} {fd : FuncData} (F : Fun K "__init__" "BadWeave.__init__" sE_BadWeave f fd) (N : NetE K mg NA) (T : OexC K C) (no0 : PySem.W.findIn K (.ref C) "at" = some none) : FnOk P w K mg base CX0 1 f fd ["self", "at"] (spX1 C "at") := by
  refine F.ok scE_BadWeave (fun vs H Q E h => ?_) (fun cdv A outer s H vs Q E hr h => ?_)
  · obtain ⟨a, v, rfl, _⟩ := h
    rfl
  · obtain ⟨a, v, rfl, ha, k⟩ := h
    refine ⟨_, (pss_cons (ps_expr (pe_ownInit (by rfl) N.g N.sp N.rd N.v (pa_cons (pv 0) (pa_cons pe_str pa_nil))))
       (pss_one (ps_ost (pv 0) (pv 1)))), ?_⟩
    refine ⟨_, rfl, a, C, _, rfl, (by simp), T, ha, _, rfl, _, rfl, a, C, rfl, T, no0, .inl ⟨ha, fun dx hd ne => k dx hd ne⟩⟩
theorem scE_NoHead : FnScope ["self"] ["self"] (defScope sE_NoHead) := ⟨rfl, rfl, rfl, by decide +kernel, rfl, by decide +kernel, by decide +kernel⟩
theorem ok_E_NoHead {f : Addr} {fd : FuncData} (F : Fun K "__init__" "NoHead.__init__" sE_NoHead f fd) (N : NetE K mg NA) (T : OexC K C) : FnOk P w K mg base CX0 1 f fd ["self"] (spX0 C) := by
  refine F.ok scE_NoHead (fun vs H Q E h => ?_) (fun cdv A outer s H vs Q E hr h => ?_)
  · obtain ⟨a, rfl, _⟩ := h
    rfl
  · obtain ⟨a, rfl, ha, k⟩ := h
    refine ⟨_, (pss_one (ps_expr (pe_ownInit (by rfl) N.g N.sp N.rd N.v (pa_cons (pv 0) (pa_cons pe_str pa_nil))))), ?_⟩
    refine ⟨_, rfl, a, C, _, rfl, (by simp), T, ha, k⟩
theorem scE_BadRoom : FnScope ["self", "word"] ["self", "word"] (defScope sE_BadRoom) := ⟨rfl, rfl, rfl, by decide +kernel, rfl, by decide +kernel, by decide +kernel⟩
theorem ok_E_BadRoom {f : Addr} {fd : FuncData} (F : Fun K "__init__" "BadRoom.__init__" sE_BadRoom f fd) (N : NetE K mg NA) (T : OexC K C) (no0 : PySem.W.findIn K (.ref C) "word" = some none) : FnOk P w K mg base CX0 1 f fd ["self", "word"] (spX1 C "word") := by
  refine F.ok scE_BadRoom (fun vs H Q E h => ?_) (fun cdv A outer s H vs Q E hr h => ?_)
  · obtain ⟨a, v, rfl, _⟩ := h
    rfl
  · obtain ⟨a, v, rfl, ha, k⟩ := h
    refine ⟨_, (pss_cons (ps_expr (pe_ownInit (by rfl) N.g N.sp N.rd N.v (pa_cons (pv 0) (pa_cons pe_str pa_nil))))
       (pss_one (ps_ost (pv 0) (pv 1)))), ?_⟩
    refine ⟨_, rfl, a, C, _, rfl, (by simp), T, ha, _, rfl, _, rfl, a, C, rfl, T, no0, .inl ⟨ha, fun dx hd ne => k dx hd ne⟩⟩
theorem scE_NoRoom : FnScope ["self", "room"] ["self", "room"] (defScope sE_NoRoom) := ⟨rfl, rfl, rfl, by decide +kernel, rfl, by decide +kernel, by decide +kernel⟩
theorem ok_E_NoRoom {f : Addr} {fd : FuncData} (F : Fun K "__init__" "NoRoom.__init__" sE_NoRoom f fd) (N : NetE K mg NA) (T : OexC K C) (no0 : PySem.W.findIn K (.ref C) "room" = some none) : FnOk P w K mg base CX0 1 f fd ["self", "room"] (spX1 C "room") := by
  refine F.ok scE_NoRoom (fun vs H Q E h => ?_) (fun cdv A outer s H vs Q E hr h => ?_)
  · obtain ⟨a, v, rfl, _⟩ := h
    rfl
  · obtain ⟨a, v, rfl, ha, k⟩ := h
    refine ⟨_, (pss_cons (ps_expr (pe_ownInit (by rfl) N.g N.sp N.rd N.v (pa_cons (pv 0) (pa_cons pe_str pa_nil))))
       (pss_one (ps_ost (pv 0) (pv 1)))), ?_⟩
    refine ⟨_, rfl, a, C, _, rfl, (by simp), T, ha, _, rfl, _, rfl, a, C, rfl, T, no0, .inl ⟨ha, fun dx hd ne => k dx hd ne⟩⟩
theorem scE_NoNumber : FnScope ["self", "number"] ["self", "number"] (defScope sE_NoNumber) := ⟨rfl, rfl, rfl, by decide +kernel, rfl, by decide +kernel, by decide +kernel⟩
theorem ok_E_NoNumber {f : Addr} {fd : FuncData} (F : Fun K "__init__" "NoNumber.__init__" sE_NoNumber f fd) (N : NetE K mg NA) (T : OexC K C) (no0 : PySem.W.findIn K (.ref C) "number" = some none) : FnOk P w K mg base CX0 1 f fd ["self", "number"] (spX1 C "number") := by
  refine F.ok scE_NoNumber (fun vs H Q E h => ?_) (fun cdv A outer s H vs Q E hr h => ?_)
  · obtain ⟨a, v, rfl, _⟩ := h
    rfl
  · obtain ⟨a, v, rfl, ha, k⟩ := h
    refine ⟨_, (pss_cons (ps_expr (pe_ownInit (by rfl) N.g N.sp N.rd N.v (pa_cons (pv 0) (pa_cons pe_str pa_nil))))
       (pss_one (ps_ost (pv 0) (pv 1)))), ?_⟩
    refine ⟨_, rfl, a, C, _, rfl, (by simp), T, ha, _, rfl, _, rfl, a, C, rfl, T, no0, .inl ⟨ha, fun dx hd ne => k dx hd ne⟩⟩
theorem scE_Taken : FnScope ["self", "number"] ["self", "number"] (defScope sE_Taken) := ⟨rfl, rfl, rfl, by decide +kernel, rfl, by decide +kernel, by decide +kernel⟩
theorem ok_E_Taken {f : Addr} {fd : FuncData} (F : Fun K "__init__" "Taken.__init__" sE_Taken f fd) (N : NetE K mg NA) (T : OexC K C) (no0 : PySem.W.findIn K (.ref C) "number" = some none) : FnOk P w K mg base CX0 1 f fd ["self", "number"] (spX1 C "number") := by
  refine F.ok scE_Taken (fun vs H Q E h => ?_) (fun cdv A outer s H vs Q E hr h => ?_)
  · obtain ⟨a, v, rfl, _⟩ := h
    rfl
  · obtain ⟨a, v, rfl, ha, k⟩ := h
    refine ⟨_, (pss_cons (ps_expr (pe_ownInit (by rfl) N.g N.sp N.rd N.v (pa_cons (pv 0) (pa_cons pe_str pa_nil))))
       (pss_one (ps_ost (pv 0) (pv 1)))), ?_⟩
    refine ⟨_, rfl, a, C, _, rfl, (by simp), T, ha, _, rfl, _, rfl, a, C, rfl, T, no0, .inl ⟨ha, fun dx hd ne => k dx hd ne⟩⟩
theorem scE_NoHand : FnScope ["self", "hand"] ["self", "hand"] (defScope sE_NoHand) := ⟨rfl, rfl, rfl, by decide +kernel, rfl, by decide +kernel, by decide +kernel⟩
theorem ok_E_NoHand {f : Addr} {fd : FuncData} (F : Fun K "__init__" "NoHand.__init__" sE_NoHand f fd) (N : NetE K mg NA) (T : OexC K C) (no0 : PySem.W.findIn K (.ref C) "hand" = some none) : FnOk P w K mg base CX0 1 f fd ["self", "hand"] (spX1 C "hand") := by
  refine F.ok scE_NoHand (fun vs H Q E h => ?_) (fun cdv A outer s H vs Q E hr h => ?_)
  · obtain ⟨a, v, rfl, _⟩ := h
    rfl
  · obtain ⟨a, v, rfl, ha, k⟩ := h
    refine ⟨_, (pss_cons (ps_expr (pe_ownInit (by rfl) N.g N.sp N.rd N.v (pa_cons (pv 0) (pa_cons pe_str pa_nil))))
       (pss_one (ps_ost (pv 0) (pv 1)))), ?_⟩
    refine ⟨_, rfl, a, C, _, rfl, (by simp), T, ha, _, rfl, _, rfl, a, C, rfl, T, no0, .inl ⟨ha, fun dx hd ne => k dx hd ne⟩⟩
theorem scE_NoPlace : FnScope ["self", "place"] ["self", "place"] (defScope sE_NoPlace) := ⟨rfl, rfl, rfl, by decide +kernel, rfl, by decide +kernel, by decide +kernel⟩
theorem ok_E_NoPlace {f : Addr} {fd : FuncData} (F : Fun K "__init__" "NoPlace.__init__" sE_NoPlace f fd) (N : NetE K mg NA) (T : OexC K C) (no0 : PySem.W.findIn K (.ref C) "place" = some none) : FnOk P w K mg base CX0 1 f fd ["self", "place"] (spX1 C "place") := by
  refine F.ok scE_NoPlace (fun vs H Q E h => ?_) (fun cdv A outer s H vs Q E hr h => ?_)
  · obtain ⟨a, v, rfl, _⟩ := h
    rfl
  · obtain ⟨a, v, rfl, ha, k⟩ := h
    refine ⟨_, (pss_cons (ps_expr (pe_ownInit (by rfl) N.g N.sp N.rd N.v (pa_cons (pv 0) (pa_cons pe_str pa_nil))))
       (pss_one (ps_ost (pv 0) (pv 1)))), ?_⟩
    refine ⟨_, rfl, a, C, _, rfl, (by simp), T, ha, _, rfl, _, rfl, a, C, rfl, T, no0, .inl ⟨ha, fun dx hd ne => k dx hd ne⟩⟩
theorem scE_InUse : FnScope ["self"] ["self"] (defScope sE_InUse) := ⟨rfl, rfl, rfl, by decide +kernel, rfl, by decide +kernel, by decide +kernel⟩
theorem ok_E_InUse {f : Addr} {fd : FuncData} (F : Fun K "__init__" "InUse.__init__" sE_InUse f fd) (N : NetE K mg NA) (T : OexC K C) : FnOk P w K mg base CX0 1 f fd ["self"] (spX0 C) := by
  refine F.ok scE_InUse (fun vs H Q E h => ?_) (fun cdv A outer s H vs Q E hr h => ?_)
  · obtain ⟨a, rfl, _⟩ := h
    rfl
  · obtain ⟨a, rfl, ha, k⟩ := h
    refine ⟨_, (pss_one (ps_expr (pe_ownInit (by rfl) N.g N.sp N.rd N.v (pa_cons (pv 0) (pa_cons pe_str pa_nil))))), ?_⟩
    refine ⟨_, rfl, a, C, _, rfl, (by simp), T, ha, k⟩
theorem scE_Full : FnScope ["self"] ["self"] (defScope sE_Full) := ⟨rfl, rfl, rfl, by decide +kernel, rfl, by decide +kernel, by decide +kernel⟩
theorem ok_E_Full {f : Addr} {fd : FuncData} (F : Fun K "__init__" "Full.__init__" sE_Full f fd) (N : NetE K mg NA) (T : OexC K C) : FnOk P w K mg base CX0 1 f fd ["self"] (spX0 C) := by
  refine F.ok scE_Full (fun vs H Q E h => ?_) (fun cdv A outer s H vs Q E hr h => ?_)
  · obtain ⟨a, rfl, _⟩ := h
    rfl
  · obtain ⟨a, rfl, ha, k⟩ := h
    refine ⟨_, (pss_one (ps_expr (pe_ownInit (by rfl) N.g N.sp N.rd N.v (pa_cons (pv 0) (pa_cons pe_str pa_nil))))), ?_⟩
    refine ⟨_, rfl, a, C, _, rfl, (by simp), T, ha, k⟩
theorem scE_BadText : FnScope ["self"] ["self"] (defScope sE_BadText) := ⟨rfl, rfl, rfl, by decide +kernel, rfl, by decide +kernel, by decide +kernel⟩
theorem ok_E_BadText {f : Addr} {fd : FuncData} (F : Fun K "__init__" "BadText.__init__" sE_BadText f fd) (N : NetE K mg NA) (T : OexC K C) : FnOk P w K mg base CX0 1 f fd ["self"] (spX0 C) := by
  refine F.ok scE_BadText (fun vs H Q E h => ?_) (fun cdv A outer s H vs Q E hr h => ?_)
  · obtain ⟨a, rfl, _⟩ := h
    rfl
  · obtain ⟨a, rfl, ha, k⟩ := h
    refine ⟨_, (pss_one (ps_expr (pe_ownInit (by rfl) N.g N.sp N.rd N.v (pa_cons (pv 0) (pa_cons pe_str pa_nil))))), ?_⟩
    refine ⟨_, rfl, a, C, _, rfl, (by simp), T, ha, k⟩
theorem scE_BadGate : FnScope ["self", "word"] ["self", "word"] (defScope sE_BadGate) := ⟨rfl, rfl, rfl, by decide +kernel, rfl, by decide +kernel, by decide +kernel⟩
theorem ok_E_BadGate {f : Addr} {fd : FuncData} (F : Fun K "__init__" "BadGate.__init__" sE_BadGate f fd) (N : NetE K mg NA) (T : OexC K C) (no0 : PySem.W.findIn K (.ref C) "word" = some none) : FnOk P w K mg base CX0 1 f fd ["self", "word"] (spX1 C "word") := by
  refine F.ok scE_BadGate (fun vs H Q E h => ?_) (fun cdv A outer s H vs Q E hr h => ?_)
  · obtain ⟨a, v, rfl, _⟩ := h
    rfl
  · obtain ⟨a, v, rfl, ha, k⟩ := h
    refine ⟨_, (pss_cons (ps_expr (pe_ownInit (by rfl) N.g N.sp N.rd N.v (pa_cons (pv 0) (pa_cons pe_str pa_nil))))
       (pss_one (ps_ost (pv 0) (pv 1)))), ?_⟩
    refine ⟨_, rfl, a, C, _, rfl, (by simp), T, ha, _, rfl, _, rfl, a, C, rfl, T, no0, .inl ⟨ha, fun dx hd ne => k dx hd ne⟩⟩
theorem scE_NoGate : FnScope ["self", "gate"] ["self", "gate"] (defScope sE_NoGate) := ⟨rfl, rfl, rfl, by decide +kernel, rfl, by decide +kernel, by decide +kernel⟩
theorem ok_E_NoGate {f : Addr} {fd : FuncData} (F : Fun K "__init__" "NoGate.__init__" sE_NoGate f fd) (N : NetE K mg NA) (T : OexC K C) (no0 : PySem.W.findIn K (.ref C) "gate" = some none) : FnOk P w K mg base CX0 1 f fd ["self", "gate"] (spX1 C "gate") := by
  refine F.ok scE_NoGate (fun vs H Q E h => ?_) (fun cdv A outer s H vs Q E hr h => ?_)
  · obtain ⟨a, v, rfl, _⟩ := h
    rfl
  · obtain ⟨a, v, rfl, ha, k⟩ := h
    refine ⟨_, (pss_cons (ps_expr (pe_ownInit (by rfl) N.g N.sp N.rd N.v (pa_cons (pv 0) (pa_cons pe_str pa_nil))))
       (pss_one (ps_ost (pv 0) (pv 1)))), ?_⟩
    refine ⟨_, rfl, a, C, _, rfl, (by simp), T, ha, _, rfl, _, rfl, a, C, rfl, T, no0, .inl ⟨ha, fun dx hd ne => k dx hd ne⟩⟩
theorem scE_NoRoad : FnScope ["self", "a", "b"] ["self", "a", "b"] (defScope sE_NoRoad) := ⟨rfl, rfl, rfl, by decide +kernel, rfl, by decide +kernel, by decide +kernel⟩
theorem ok_E_NoRoad {f : Addr} {fd : FuncData} (F : Fun K "__init__" "NoRoad.__init__" sE_NoRoad f fd) (N : NetE K mg NA) (T : OexC K C) (no0 : PySem.W.findIn K (.ref C) "a" = some none) (no1 : PySem.W.findIn K (.ref C) "b" = some none) : FnOk P w K mg base CX0 1 f fd ["self", "a", "b"] (spX2 C "a" "b") := by
  refine F.ok scE_NoRoad (fun vs H Q E h => ?_) (fun cdv A outer s H vs Q E hr h => ?_)
  · obtain ⟨a, v, u, rfl, _⟩ := h
    rfl
  · obtain ⟨a, v, u, rfl, ha, k⟩ := h
    refine ⟨_, (pss_cons (ps_expr (pe_ownInit (by rfl) N.g N.sp N.rd N.v (pa_cons (pv 0) (pa_cons pe_str pa_nil))))
       (pss_cons (ps_ost (pv 0) (pv 1))
       (pss_one (ps_ost (pv 0) (pv 2))))), ?_⟩
    refine ⟨_, rfl, a, C, _, rfl, (by simp), T, ha, _, rfl, _, rfl, a, C, rfl, T, no0, .inl ⟨ha, fun dx hd ne => ?_⟩⟩
    refine ⟨_, rfl, _, rfl, a, C, rfl, T, no1, .inr ⟨dx, _, upd_same, (upd_ne ne).trans upd_same, (by simp), ?_⟩⟩
    rw [upd_swap ne, upd_upd]
    exact k dx hd ne
theorem scE_Same : FnScope ["self"] ["self"] (defScope sE_Same) := ⟨rfl, rfl, rfl, by decide +kernel, rfl, by decide +kernel, by decide +kernel⟩
theorem ok_E_Same {f : Addr} {fd : FuncData} (F : Fun K "__init__" "Same.__init__" sE_Same f fd) (N : NetE K mg NA) (T : OexC K C) : FnOk P w K mg base CX0 1 f fd ["self"] (spX0 C) := by
  refine F.ok scE_Same (fun vs H Q E h => ?_) (fun cdv A outer s H vs Q E hr h => ?_)
  · obtain ⟨a, rfl, _⟩ := h
    rfl
  · obtain ⟨a, rfl, ha, k⟩ := h
    refine ⟨_, (pss_one (ps_expr (pe_ownInit (by rfl) N.g N.sp N.rd N.v (pa_cons (pv 0) (pa_cons pe_str pa_nil))))), ?_⟩
    refine ⟨_, rfl, a, C, _, rfl, (by simp), T, ha, k⟩
theorem scE_Long : FnScope ["self"] ["self"] (defScope sE_Long) := ⟨rfl, rfl, rfl, by decide +kernel, rfl, by decide +kernel, by decide +kernel⟩
theorem ok_E_Long {f : Addr} {fd : FuncData} (F : Fun K "__init__" "Long.__init__" sE_Long f fd) (N : NetE K mg NA) (T : OexC K C) : FnOk P w K mg base CX0 1 f fd ["self"] (spX0 C) := by
  refine F.ok scE_Long (fun vs H Q E h => ?_) (fun cdv A outer s H vs Q E hr h => ?_)
  · obtain ⟨a, rfl, _⟩ := h
    rfl
  · obtain ⟨a, rfl, ha, k⟩ := h
    refine ⟨_, (pss_one (ps_expr (pe_ownInit (by rfl) N.g N.sp N.rd N.v (pa_cons (pv 0) (pa_cons pe_str pa_nil))))), ?_⟩
    refine ⟨_, rfl, a, C, _, rfl, (by simp), T, ha, k⟩
theorem scE_Busy : FnScope ["self"] ["self"] (defScope sE_Busy) := ⟨rfl, rfl, rfl, by decide +kernel, rfl, by decide +kernel, by decide +kernel⟩
theorem ok_E_Busy {f : Addr} {fd : FuncData} (F : Fun K "__init__" "Busy.__init__" sE_Busy f fd) (N : NetE K mg NA) (T : OexC K C) : FnOk P w K mg base CX0 1 f fd ["self"] (spX0 C) := by
  refine F.ok scE_Busy (fun vs H Q E h => ?_) (fun cdv A outer s H vs Q E hr h => ?_)
  · obtain ⟨a, rfl, _⟩ := h
    rfl
  · obtain ⟨a, rfl, ha, k⟩ := h
    refine ⟨_, (pss_one (ps_expr (pe_ownInit (by rfl) N.g N.sp N.rd N.v (pa_cons (pv 0) (pa_cons pe_str pa_nil))))), ?_⟩
    refine ⟨_, rfl, a, C, _, rfl, (by simp), T, ha, k⟩
theorem scE_BadDeeds : FnScope ["self"] ["self"] (defScope sE_BadDeeds) := ⟨rfl, rfl, rfl, by decide +kernel, rfl, by decide +kernel, by decide +kernel⟩
theorem ok_E_BadDeeds {f : Addr} {fd : FuncData} (F : Fun K "__init__" "BadDeeds.__init__" sE_BadDeeds f fd) (N : NetE K mg NA) (T : OexC K C) : FnOk P w K mg base CX0 1 f fd ["self"] (spX0 C) := by
  refine F.ok scE_BadDeeds (fun vs H Q E h => ?_) (fun cdv A outer s H vs Q E hr h => ?_)
  · obtain ⟨a, rfl, _⟩ := h
    rfl
  · obtain ⟨a, rfl, ha, k⟩ := h
    refine ⟨_, (pss_one (ps_expr (pe_ownInit (by rfl) N.g N.sp N.rd N.v (pa_cons (pv 0) (pa_cons pe_str pa_nil))))), ?_⟩
    refine ⟨_, rfl, a, C, _, rfl, (by simp), T, ha, k⟩
theorem scE_Broken : FnScope ["self", "at"] ["self", "at"] (defScope sE_Broken) := ⟨rfl, rfl, rfl, by decide +kernel, rfl, by decide +kernel, by decide +kernel⟩
theorem ok_E_Broken {f : Addr} {fd : FuncData} (F : Fun K "__init__" "Broken.__init__" sE_Broken f fd) (N : NetE K mg NA) (T : OexC K C) (no0 : PySem.W.findIn K (.ref C) "at" = some none) : FnOk P w K mg base CX0 1 f fd ["self", "at"] (spX1 C "at") := by
  refine F.ok scE_Broken (fun vs H Q E h => ?_) (fun cdv A outer s H vs Q E hr h => ?_)
  · obtain ⟨a, v, rfl, _⟩ := h
    rfl
  · obtain ⟨a, v, rfl, ha, k⟩ := h
    refine ⟨_, (pss_cons (ps_expr (pe_ownInit (by rfl) N.g N.sp N.rd N.v (pa_cons (pv 0) (pa_cons pe_str pa_nil))))
       (pss_one (ps_ost (pv 0) (pv 1)))), ?_⟩
    refine ⟨_, rfl, a, C, _, rfl, (by simp), T, ha, _, rfl, _, rfl, a, C, rfl, T, no0, .inl ⟨ha, fun dx hd ne => k dx hd ne⟩⟩
end
end Wn

namespace Wn
open PySem PySem.Spec PyProof.Rows L2
section
variable {X : Cx} {a b c d : Expr} {ta tb tc td : TE} {pos : Pos}
/-- a < b < c < d as a value -/
def tChain3 (r r' r'' : R2) (ta tb tc td : TE) : TE := fun σ H Q => ta σ H fun x H1 => tb σ H1 fun y H2 => r x y H2 fun z H3 => ∃ k, z = .bl k ∧ (if k = true then
  tc σ H3 fun x2 H4 => r' y x2 H4 fun z2 H5 => ∃ k2, z2 = .bl k2 ∧ (if k2 = true then td σ H5 fun x3 H6 => r'' x2 x3 H6 Q else Q (.bl false) H5) else Q (.bl false) H3)
theorem pe_chain3 {op op' op'' : CmpOp} {r r' r'' : R2} (ho : OpR X (compareOp op) r) (ho' : OpR X (compareOp op') r') (ho'' : OpR X (compareOp op'') r'') (ha : PE X a ta) (hb : PE X b tb) (hc : PE X c tc) (hd : PE X d td)
    (hm : lastMarks [op, op', op''] [b, c, d] = false := by with_unfolding_all rfl) : PE X (.Compare a [op, op', op''] [b, c, d] pos) (tChain3 r r' r'' ta tb tc td) := by
  refine ⟨fun pins s σ H Q I h => ?_⟩
  refine Compare_chain (thn (ha.run pins s σ H _ I h) fun v s1 ⟨x, H1, I1, r1, q1⟩ => chain_link (thn (hb.run pins s1 σ H1 _ I1 q1) fun u s2 ⟨y, H2, I2, r2, q2⟩ =>
    thn (ho pins s2 σ H2 x y v u _ I2 r1 r2 q2) fun d s3 ⟨z, H3, I3, r3, k, e, q3⟩ => ?_)) hm
  subst e
  cases r3
  refine wpAny_truthy_bool ?_
  cases k with
  | false => exact ite_ff ⟨.bl false, H3, I3, rfl, q3⟩
  | true =>
    refine ite_tt (chain_link (thn (hc.run pins s3 σ H3 _ I3 q3) fun u2 s4 ⟨y2, H4, I4, r4, q4⟩ => thn (ho' pins s4 σ H4 y y2 u u2 _ I4 r2 r4 q4) fun d2 s5 ⟨z2, H5, I5, r5, k2, e2, q5⟩ => ?_))
    subst e2
    cases r5
    refine wpAny_truthy_bool ?_
    cases k2 with
    | false => exact ite_ff ⟨.bl false, H5, I5, rfl, q5⟩
    | true => exact ite_tt (chain_last (thn (hd.run pins s5 σ H5 _ I5 q5) fun w' s6 ⟨z', H6, I6, r6, q6⟩ => ho'' pins s6 σ H6 y2 z' u2 w' Q I6 r4 r6 q6))
end
end Wn

namespace Wn
open PySem PySem.Spec PyProof.Rows L2
section
open AutoSeq1 (wpAny_loadPart')
theorem drawsTuple {prog : Program} {w : World} {A : Around} (hh : A.handled = none) (it l : Addr) (hne : l ≠ it) (items : Array Value) :
    Draws prog w A it [it, l] items.size (fun i v => items[i]? = some v) (fun i h => h.IsTupleIter it l i ∧ h.IsTuple l items) where
  live := fun _ _ st => let ⟨o, ho, _⟩ := st.1; ⟨o, ho⟩
  frame := fun _ _ _ st hk => ⟨st.1.at fun o e => hk it (by simp) o e, let ⟨o, ho, r⟩ := st.2; ⟨o, hk l (by simp) o ho, r⟩⟩
  item := fun i s Q E hi st hQ => by
    refine RZ.nextOf_tuple_item st.1 st.2 (x := items[i]) (by simp [hi]) fun h' hit' hs' => ?_
    exact hQ _ h' s.toks (by simp [hi]) ⟨hit', let ⟨o, ho, r⟩ := st.2; ⟨o, (hs'.2 l hne).trans ho, r⟩⟩ hs'
  done := fun s Q E st hE => RZ.nextOf_tuple_end hh st.1 st.2 (by simp) hE
theorem meets_enumerate_newT (l : Addr) (items : Array Value) (n : Nat) (dct : Option Addr) (sl : Array (Option Value)) :
    Meets (Builtin.«enumerate.__new__» ⟨[.type "enumerate", .ref l], []⟩) (fun _ R s => s.heap.get? l = some { cls := .type "tuple", dict := dct, data := .seq items n, slots := sl } ∧
      R (.ok (.ret (.ref (s.heap.push { cls := .type "tuple_iterator", data := .fields #[.ref l, .int 0 0] }).objs.size)))
        { s with heap := (s.heap.push { cls := .type "tuple_iterator", data := .fields #[.ref l, .int 0 0] }).push { cls := .type "enumerate", data := .fields #[.none, .bool false, .ref s.heap.objs.size, rawInt 0, .none, .none] } }) :=
  .of_wp fun prog w A R s h => by
    obtain ⟨hp, g, d, tk, os⟩ := s; obtain ⟨hl, h⟩ := h
    have hsub := sub_enumerate
    have hL : Heap.IsTuple (Shared.heap ⟨hp, g, d, tk, os⟩) l items := ⟨_, hl, rfl, n, rfl⟩
    wp_walk using wpAny_loadPart' hl
    refine wpAny_stack_any fun st => wpAny_pure ?_
    split
    · rename_i c _ _ _ _ _
      cases (c == Value.type "enumerate")
      · wp_walk using wpAny_loadPart' hl, wpAny_pyIter_tuple hL
        exact ⟨_, rfl, h⟩
      · wp_walk using wpAny_loadPart' hl, wpAny_pyIter_tuple hL
        exact ⟨_, rfl, h⟩
    · wp_walk using wpAny_loadPart' hl, wpAny_pyIter_tuple hL
      exact ⟨_, rfl, h⟩
theorem call_enumerate_tuple {prog : Program} {w : World} {A : Around} {E : Value → Shared → Prop} {s : Shared} {l : Addr} {items : Array Value} {Q : Value → Shared → Prop} (hL : s.heap.IsTuple l items)
    (h : ∀ h', IsEnum h' (s.heap.objs.size + 1) s.heap.objs.size 0 .none → h'.IsTupleIter s.heap.objs.size l 0 → h'.objs.size = s.heap.objs.size + 2 →
      (∀ b o, s.heap.get? b = some o → h'.get? b = some o) → Q (.ref (s.heap.objs.size + 1)) { s with heap := h' }) :
    wpAny (model prog w) A (call (.type "enumerate") [.ref l]) Q E s := by
  obtain ⟨⟨c, dct, dt, sl⟩, hl, hc, n, hd⟩ := hL
  replace hc : c = .type "tuple" := hc
  replace hd : dt = .seq items n := hd
  subst hc hd
  refine callType_new F.called_enumerate (by decide) (F.typeCall_enumerate_1 _) (F.newCall_enumerate_1 _) (fun obj => F.args_object_init_2 obj _) F.entry_enumerate_new
    (meets_enumerate_newT l items n dct sl) ⟨hl, ?_⟩
  have hz : (s.heap.push { cls := .type "tuple_iterator", data := .fields #[.ref l, .int 0 0] }).objs.size = s.heap.objs.size + 1 := Heap.size_push ..
  show _ ∧ _
  rw [hz]
  have he : IsEnum ((s.heap.push { cls := .type "tuple_iterator", data := .fields #[.ref l, .int 0 0] }).push
      { cls := .type "enumerate", data := .fields #[.none, .bool false, .ref s.heap.objs.size, rawInt 0, .none, .none] }) (s.heap.objs.size + 1) s.heap.objs.size 0 .none := by
    have := Heap.get?_push_size (s.heap.push { cls := .type "tuple_iterator", data := .fields #[.ref l, .int 0 0] })
      (o := { cls := .type "enumerate", data := .fields #[.none, .bool false, .ref s.heap.objs.size, rawInt 0, .none, .none] }) rfl
    rw [hz] at this; exact this
  refine ⟨⟨_, he, rfl⟩, h _ he ⟨_, Heap.get?_push_of_some _ (Heap.get?_push_size _ rfl), rfl, rfl⟩ (by rw [Heap.size_push, hz]) fun b o x => Heap.get?_push_of_some _ (Heap.get?_push_of_some _ x)⟩
end
/-- enumerate of a tuple: each item in a new pair -/
def IttE (K : PySem.W.Frag) (a : Addr) : It :=
  ⟨fun i H => ∃ (xs : List V) (x : V), SqT K H a xs ∧ xs[i]? = some x, fun i H v H' => ∃ T x, v = .ref T ∧ H T = none ∧ H' = upd H T (.tup [.int (i : Nat), x]) ∧ ∀ xs, SqT K H a xs → xs[i]? = some x, fun i H => ∃ xs : List V, SqT K H a xs ∧ xs.length ≤ i⟩
theorem turn_enumT {P : Program} {w : World} {K : PySem.W.Frag} {elts : List Expr} {kk : Nat} {tpos : Pos} (a e it : Addr) :
    Turn P w K (.Tuple elts kk tpos) (IttE K a) [e, it] e (fun i h => (∃ old, IsEnum h e it ((i : Nat) : Int) old) ∧ h.IsTupleIter it a i ∧ e ≠ it) where
  mem := by simp
  obj := fun i h st b hb => by
    obtain ⟨⟨old, he⟩, ⟨o, ho, hc, hd⟩, _⟩ := st
    have e' : b = e ∨ b = it := by simpa using hb
    rcases e' with z | z
    · rw [z]; exact ⟨_, he, fun v q => nomatch q⟩
    · rw [z]; exact ⟨o, ho, fun v q => by rw [hd] at q; cases q⟩
  keep := fun i h h' st k => let ⟨⟨old, he⟩, hi, hne⟩ := st; ⟨⟨old, k e (by simp) _ he⟩, hi.at fun o q => k it (by simp) o q, hne⟩
  item := by
    intro X hP hw hK hc i pins s σ H E I hf st hg
    subst hP hw hK
    obtain ⟨⟨old, he⟩, hit, hne⟩ := st
    obtain ⟨xs, x, hq, hx⟩ := hg
    obtain ⟨its, rv, p, hz⟩ := I.tuple hq
    obtain ⟨u, hu, ru⟩ := rv.get hx
    have hh : X.A.in1.handled = none := I.ok.hd hc
    have hel : e < s.heap.objs.size := Heap.lt_size he
    have hil : it < s.heap.objs.size := by obtain ⟨_, q, _⟩ := hit; exact Heap.lt_size q
    have p' : s.heap.IsTuple a its.toArray := p
    have hai : a ≠ it := fun z => by
      obtain ⟨o, ho, hc1, _⟩ := hit
      obtain ⟨o2, ho2, hc2, _⟩ := p'
      rw [z, ho] at ho2
      cases ho2
      rw [hc1] at hc2
      exact absurd hc2 (by decide)
    have hae : a ≠ e := fun z => by
      have he' : s.heap.get? e = _ := he
      obtain ⟨o2, ho2, hc2, _⟩ := p'
      rw [z, he'] at ho2
      cases ho2
      have hc3 : Value.type "enumerate" = Value.type "tuple" := hc2
      exact absurd hc3 (by decide)
    have D := drawsTuple (prog := X.prog) (w := X.w) (A := X.A.in1) hh it a hai its.toArray
    refine wpAny_pyNext_enum_itemD D he ⟨hit, p'⟩ (by have := (List.getElem?_eq_some_iff.mp hu).1; simpa using this) hne (by simp [hne, Ne.symm hae]) fun v h' tk hv ho hit' hT hsz hk => ?_
    obtain rfl : v = u := by
      have hv : its.toArray[i]? = some v := hv
      rw [List.getElem?_toArray, hu] at hv
      exact (Option.some.inj hv).symm
    refine ⟨_, rfl, wpAny_letOwnedTupleGo_enum (s := { s with heap := h', toks := tk + 1 }) ho fun h'' he' sb => ?_⟩
    have hT2 : h''.get? s.heap.objs.size = some { cls := .type "tuple", data := .seq #[.int i tk, v] } := (sb.2 _ (Nat.ne_of_gt hel)).trans hT
    have new : ObjOk X.prog X.w (upd H s.heap.objs.size (.tup [.int (i : Nat), x])) h'' s.heap.objs.size (.tup [.int (i : Nat), x]) :=
      ⟨by show 2 ≤ sizeLine; decide, [.int i tk, v], .cons ⟨_, rfl⟩ (.cons ru .nil), ⟨_, hT2, rfl, _, rfl⟩⟩
    have I1 : Inv X pins σ (upd H s.heap.objs.size (.tup [.int (i : Nat), x])) { s with heap := h'', toks := tk + 1 } :=
      I.turnedNew (ch := [e, it]) (fun b ob hb q => (sb.2 b (fun z => hb (by simp [z]))).trans (hk b ob (fun z => hb (by simp [z])) (fun z => hb (by simp [z])) q)) hf (Nat.le_refl _) new
    refine ⟨.ref s.heap.objs.size, _, I1, rfl, ⟨_, x, rfl, I.hok.fresh (Nat.le_refl _), rfl, fun ys hy => by rw [I.tuple_inj hy hq]; exact hx⟩, ⟨⟨v, ?_⟩, hit'.1.at fun o q => (sb.2 it (Ne.symm hne)).trans q, hne⟩, fun b hb => ?_⟩
    · have e1 : ((i + 1 : Nat) : Int) = (i : Int) + 1 := by omega
      rw [e1]; exact he'
    · have hb' : b < s.heap.objs.size := by
        have e' : b = e ∨ b = it := by simpa using hb
        rcases e' with z | z
        · rw [z]; exact hel
        · rw [z]; exact hil
      rw [upd_ne (Nat.ne_of_lt hb')]
      exact (hf b hb).1
  done := by
    intro X hP hw hK hc i pins s σ H E I hf st hg
    subst hP hw hK
    obtain ⟨⟨old, he⟩, hit, hne⟩ := st
    obtain ⟨xs, hq, hx⟩ := hg
    obtain ⟨its, rv, p, hz⟩ := I.tuple hq
    have hh : X.A.in1.handled = none := I.ok.hd hc
    obtain ⟨f0, f1, f2, f3, f4, f5⟩ := hf it (by simp)
    have hl := rv.length
    have p' : s.heap.IsTuple a its.toArray := p
    have D : Draws X.prog X.w X.A.in1 it [it, a] i (fun i v => False) (fun j h => j = i ∧ h.IsTupleIter it a i ∧ h.IsTuple a its.toArray) := by
      refine ⟨fun _ _ st => let ⟨o, ho, _⟩ := st.2.1; ⟨o, ho⟩, fun _ _ _ st hk => ⟨st.1, st.2.1.at fun o e => hk it (by simp) o e, let ⟨o, ho, r⟩ := st.2.2; ⟨o, hk a (by simp) o ho, r⟩⟩, fun j s Q E hj st => absurd st.1 (Nat.ne_of_lt hj), fun s Q E st hE => ?_⟩
      exact RZ.nextOf_tuple_end hh st.2.1 st.2.2 (by simp; omega) hE
    exact wpAny_pyNext_enum_endD D he ⟨rfl, hit, p'⟩ fun h' eb => ⟨rfl, I.turned (t' := s.toks) (fun b o hb q => eb b o hb q) f0 f1 f3 f4 f5⟩
  self := fun A i s Q E st h => let ⟨⟨_, he⟩, _⟩ := st; wpAny_pyIter_enum he h
def iEnumT (K : PySem.W.Frag) (ta : TA) : TI := fun σ H R => ta σ H fun vs H1 => ∃ a xs, vs = [.ref a] ∧ SqT K H1 a xs ∧ R (IttE K a) H1
theorem pi_enumT {X : Cx} {e : Expr} {ta : TA} {p pos tpos : Pos} {elts : List Expr} {kk : Nat} (hg : Gl X "enumerate") (hm : X.mg "enumerate" = none) (ha : PA X [e] ta) (hs : starEach [e] X.env = [(false, eval e X.env)] := by rfl) :
    PI X (.Tuple elts kk tpos) (.Call (.Name "enumerate" p) [e] [] pos) (iEnumT X.K ta) := by
  refine ⟨fun pins s σ H R I h => ?_⟩
  refine Call_ (ld_blt I hg hm boot_enumerate (PyProof.Rows.callWith_type1 (thn (ha.run pos pins s σ H _ I h) fun us s1 ⟨vs, H1, I1, r1, q1⟩ => ?_) hs rfl))
  obtain ⟨a, xs, ex, hq, q⟩ := q1
  subst ex
  cases r1 with
  | cons r rr =>
    cases rr
    cases r
    obtain ⟨its, rv, p', hz⟩ := I1.tuple hq
    refine call_enumerate_tuple p' fun h' he hit hsz hk => wpAny_pyIter_enum he ?_
    have I2 : Inv X pins σ H1 { s1 with heap := h' } := I1.kept (t' := s1.toks) hk
    refine ⟨s1.heap.objs.size + 1, [s1.heap.objs.size + 1, s1.heap.objs.size], _, _, H1, rfl, I2, turn_enumT a (s1.heap.objs.size + 1) s1.heap.objs.size, ⟨⟨.none, he⟩, hit, Nat.succ_ne_self _⟩, fun b hb => ?_, q⟩
    have e' : b = s1.heap.objs.size + 1 ∨ b = s1.heap.objs.size := by simpa using hb
    have hle : s1.heap.objs.size ≤ b := by
      rcases e' with z | z
      · rw [z]; exact Nat.le_add_right _ _
      · rw [z]; exact Nat.le_refl _
    exact I1.fpOk hle (I1.hok.fresh hle)
theorem walk_enumT {K : PySem.W.Frag} {a : Addr} {xs : List V} : Walk (IttE K a) xs.length (fun H => SqT K H a xs) (fun i H v H' => ∃ T x, v = .ref T ∧ H T = none ∧ H' = upd H T (.tup [.int (i : Nat), x]) ∧ xs[i]? = some x) :=
  ⟨fun i H hi g => ⟨xs, xs[i], g, List.getElem?_eq_getElem hi⟩, fun H g => ⟨xs, g, Nat.le_refl _⟩, fun i H v H' hi g y => by
    obtain ⟨T, x, e1, e2, e3, e4⟩ := y
    exact ⟨T, x, e1, e2, e3, e4 xs g⟩⟩
/-- str of a number or a text -/
theorem call_strU {X : Cx} : CallR X (.type "str") (fun xs H Q => (∃ i : Int, xs = [.int i] ∧ i.natAbs.log2 < 1920 ∧ Q (.str (toString i)) H) ∨ ∃ a, xs = [.str a] ∧ Q (.str a) H) := by
  intro pins s σ H xs us Q I r h
  rcases h with h | h
  · exact call_str_int pins s σ H xs us Q I r h
  · exact SkE.call_str_str pins s σ H xs us Q I r h
/-- a text no times or once -/
theorem op_rep_str {X : Cx} : OpR X (binaryOp .Mult) (fun x y H Q => ∃ (a : Str) (k : Int), x = .str a ∧ y = .int k ∧ ((k = 0 ∧ Q (.str Str.empty) H) ∨ (k = 1 ∧ Q (.str a) H))) := by
  intro pins s σ H x y v u Q I rx ry h
  obtain ⟨a, k, rfl, rfl, h⟩ := h
  obtain ⟨t, rfl⟩ := rx
  obtain ⟨t', rfl⟩ := ry
  rcases h with ⟨rfl, q⟩ | ⟨rfl, q⟩
  · exact PySem.P.mul_str_none (by decide) (by decide) ⟨.str Str.empty, H, I.tok _, ⟨_, rfl⟩, q⟩
  · refine PySem.P.mul_str (by decide) (fun _ h => absurd h (by simp)) (fun _ h => absurd h (by simp)) ?_
    rw [if_neg (by decide), if_pos (by simp)]
    exact ⟨.str a, H, I, ⟨_, rfl⟩, q⟩
end Wn

set_option maxHeartbeats 800000
namespace Wn
open PySem L2
set_option pp.maxSteps 700
set_option pp.deepTerms false
local macro_rules | `(tactic| walk_at "h") => `(tactic| first | with_reducible assumption | (with_reducible exact upd_same) | (with_reducible apply g_upd; (walk_at "neq"); (walk_at "h")) | (with_reducible apply g_same; (with_reducible assumption); (walk_at "h")) | (with_reducible apply g_kp; (with_reducible assumption); (walk_at "nin"); (walk_at "h")) | (with_reducible apply g_tk; (with_reducible assumption); (walk_at "h")))
local macro_rules | `(tactic| walk_at "neq") => `(tactic| first | with_reducible assumption | (with_reducible apply Ne.symm; with_reducible assumption) | (with_reducible apply ne_upd; (with_reducible assumption)) | (with_reducible apply Ne.symm; with_reducible apply ne_upd; with_reducible assumption) | (with_reducible apply ne_fr; (with_reducible assumption); (walk_at "h")) | (with_reducible apply ne_fr'; (with_reducible assumption); (walk_at "h")) | (with_reducible apply ne_kd; (walk_at "h"); (walk_at "h"); (with_unfolding_all (intro z; cases z))))
local macro_rules | `(tactic| walk_at "nin") => `(tactic| first | (with_reducible exact nin0) | with_reducible assumption | (with_reducible apply ninc; (walk_at "neq"); (walk_at "nin")))
local macro_rules | `(tactic| walk_at "none") => `(tactic| first | with_reducible assumption | (with_reducible apply n_upd; (with_reducible assumption)) | (with_reducible apply n_same; (with_reducible assumption); (walk_at "none")) | (with_reducible apply n_kp; (with_reducible assumption); (walk_at "nin"); (walk_at "none")))
local macro_rules | `(tactic| walk_at "mem") => `(tactic| first | (with_reducible exact List.mem_cons_self) | (with_reducible apply List.mem_cons_of_mem; (walk_at "mem")))
local macro_rules | `(tactic| walk_at "am") => `(tactic| first | (with_reducible exact am0) | (with_reducible apply am1; (first | (apply Or.inl; walk_at "mem") | (apply Or.inr; walk_at "none")); (walk_at "am")))
local macro_rules | `(tactic| walk_at "tk") => `(tactic| first | (with_reducible exact TK.refl _) | with_reducible assumption | (with_reducible apply t_tk; (with_reducible assumption); (walk_at "tk")) | (with_reducible apply t_same; (with_reducible assumption); (walk_at "tk")) | (with_reducible apply t_new; (with_reducible assumption); (walk_at "tk")) | (with_reducible apply t_wr; (walk_at "h"); (with_unfolding_all rfl); (walk_at "tk")))
local macro_rules | `(tactic| walk_at "same") => `(tactic| first | (with_reducible exact L2.Same.refl _) | with_reducible assumption | (with_reducible apply s_same; (with_reducible assumption); (walk_at "same")) | (with_reducible apply s_new; (with_reducible assumption); (walk_at "same")) | (with_reducible apply s_wrn; (walk_at "none"); (walk_at "same")))
local macro_rules | `(tactic| walk_at "kp") => `(tactic| first | (with_reducible exact Kp.refl _ _) | with_reducible assumption | (with_reducible apply k_same; (with_reducible assumption); (walk_at "kp")) | (with_reducible apply k_kp; (with_reducible assumption); (walk_at "kp")) | (with_reducible apply k_kpm; (with_reducible assumption); (walk_at "am"); (walk_at "kp")) | (with_reducible apply k_new; (with_reducible assumption); (walk_at "kp")) | (with_reducible apply k_wr; (walk_at "mem"); (walk_at "kp")) | (with_reducible apply k_wrn; (walk_at "none"); (walk_at "kp")))
local macro_rules | `(tactic| walk_at "rp") => `(tactic| first | with_reducible assumption | (with_reducible exact Rp.int) | (with_reducible exact Rp.str) | (with_reducible exact Rp.none) | (with_reducible exact Rp.bool) | (with_reducible apply Rp.tk'; (with_reducible assumption); (walk_at "tk")) | (with_reducible apply Rp.tup; (walk_at "h"); (walk_at "rpl")))
local macro_rules | `(tactic| walk_at "rpl") => `(tactic| first | with_reducible assumption | (with_reducible exact RpL.nil) | (with_reducible apply RpL.tk'; (with_reducible assumption); (walk_at "tk")) | (with_reducible apply RpL.cons; (walk_at "rp"); (walk_at "rpl")))
local macro_rules | `(tactic| walk_at "g") => `(tactic| repeat (first | refine ⟨_, rfl, ?_⟩ | refine ⟨_, _, rfl, rfl, ?_⟩ | refine ⟨rfl, _, rfl, ?_⟩ | refine ⟨_, _, rfl, rfl, (by first | decide | omega), ?_⟩))
abbrev sIsRoad : Stmt := top 48
abbrev sBadRows : Stmt := top 49
abbrev sRoadsInit : Stmt := (inClass (top 50) 0)
abbrev sRoadsUp : Stmt := (inClass (top 50) 2)
abbrev sRoadsPair : Stmt := (inClass (top 50) 3)
abbrev sRoadsFall : Stmt := (inClass (top 50) 4)
abbrev sRoadsRise : Stmt := (inClass (top 50) 5)
abbrev sRoadsNbr : Stmt := (inClass (top 50) 6)
/-- the numbers of bounds -/
theorem rpl_intsR {K : PySem.W.Frag} {H : Hp} (xs : List Int) : RpL K H (xs.map PyData.int) (xs.map V.int) := by
  induction xs with
  | nil => exact RpL.nil
  | cons n ns ih => exact RpL.cons Rp.int ih
structure RC (mg : Str → Option Value) : Prop where
  HOUSES : ∃ t, mg "HOUSES" = some (.int 8 t)
  ROADS : ∃ t, mg "ROADS" = some (.int 14 t)
  DELAY : ∃ t, mg "DELAY" = some (.int 2 t)
  NARROW : ∃ t, mg "NARROW" = some (.int 16 t)
  WIDE : ∃ t, mg "WIDE" = some (.int 80 t)
structure RB (mg : Str → Option Value) : Prop where
  isinstance : mg "isinstance" = none
  tuple : mg "tuple" = none
  len : mg "len" = none
  all : mg "all" = none
  enumerate : mg "enumerate" = none
  sorted : mg "sorted" = none
/-- the class Roads -/
structure TRoads (K : PySem.W.Frag) (C : Addr) : Prop where
  cl : Cls K C
  many : NoAttr K C "many"
  lines : NoAttr K C "lines"
  fallen : NoAttr K C "fallen"
def spIsRoad (K : PySem.W.Frag) : Sp := fun vs H Q _ => ∃ (m : Nat) (r : Rd) (v : V), vs = [.int m, v] ∧ Rp K H (rdD r) v ∧ RdOk m r ∧ ∀ H', Same H H' → Q (.bl true) H'
def spBadRows (K : PySem.W.Frag) : Sp := fun vs H Q _ => ∃ (m : Nat) (rs : List Rd) (a : Addr), vs = [.int m, .ref a] ∧ TupAt K H a (rs.map rdD) ∧ RdsOk m rs ∧ ∀ H' p, Same H H' → H p = none → H' p = some (.lst []) → Q (.ref p) H'

section
variable {P : Program} {w : World} {K : PySem.W.Frag} {mg : Str → Option Value} {base : Heap}
theorem room0 {k : Nat} {A : Around} (r : Room k A) : A.units < cLine := by have := r.un; omega
theorem scIsRoad : FnScope ["houses", "thing", "a", "b", "delay", "size", "part"] ["houses", "thing"] (defScope sIsRoad) := ⟨rfl, rfl, rfl, by decide +kernel, rfl, by decide +kernel, by decide +kernel⟩
theorem ok_isroad {f : Addr} {fd : FuncData} (F : Fun K "is_road" "is_road" sIsRoad f fd) (B : RB mg) (Cn : RC mg) (cW : Cd P w K mg base 1 "is_whole" ["thing"] (spWholeT K)) (cF : Cd P w K mg base 2 "is_from" ["thing", "low", "high"] (spFromT K)) :
    FnOk P w K mg base CX0 3 f fd ["houses", "thing"] (spIsRoad K) := by
  obtain ⟨fW, fdW, GW, mW, kW, bW⟩ := cW
  obtain ⟨fF, fdF, GF, mF, kF, bF⟩ := cF
  obtain ⟨tD, mDELAY⟩ := Cn.DELAY
  obtain ⟨tN, mNARROW⟩ := Cn.NARROW
  obtain ⟨tW, mWIDE⟩ := Cn.WIDE
  refine F.ok scIsRoad (fun vs H Q E h => ?_) (fun cdv A outer s H vs Q E hr h => ?_)
  · obtain ⟨m, r, v, rfl, _⟩ := h
    rfl
  · obtain ⟨m, r, v, rfl, hv, ⟨o1, o2, o3, o4, o5, o6⟩, k⟩ := h
    have hr2 : Room 2 _ := hr
    have hr1 : Room 1 _ := hr.mono (by decide)
    refine ⟨_, (pss_cons (ps_if (PW.pt (pw_or (pt_not (pt_val (pe_callB (isiK (K := K) rfl) (by rfl) B.isinstance (by decide +kernel) (pa_cons (pv 1) (pa_cons (pe_bltn (v := .ty "tuple") (by rfl) B.tuple PyProof.Rows.boot_tuple rfl) pa_nil))))) (pw_or (pt_cmpR op_ne (pe_callB (lenK (K := K) rfl) (by rfl) B.len PySem.boot_len (pa_cons (pv 1) pa_nil)) pe_int (nomark _)) (pw_or1 (pt_not (pt_val (pe_callB (crAllK (K := K) rfl rfl) (by rfl) B.all (by decide +kernel) (pa_cons (pe_lc (own := [("part", 6)]) (g := (gName 6)) (tt := tYes) rfl scIsRoad.nd (pi_tup (pv 1)) (blkOk_by (N := ["houses", "thing", "a", "b", "delay", "size", "part"]) (sc := defScope sIsRoad) (by decide +kernel))
       (fun _ _ _ _ _ => (pg_name (i := 6) scIsRoad.nd rfl (Or.inl rfl))) (fun _ _ _ _ _ => pts_nil) (fun _ _ _ _ _ => (pe_call GW hr1 rfl mW kW bW .nil pass0 (pa_cons (pv 6) pa_nil)))) pa_nil))))))))
       (pss_one (ps_ret pe_bl))
       pss_nil)
       (pss_cons (ps_asg (pv 1) (pg_tup rfl (pgs_cons (pg_name (i := 2) scIsRoad.nd rfl (Or.inl rfl)) (pgs_cons (pg_name (i := 3) scIsRoad.nd rfl (Or.inl rfl)) (pgs_cons (pg_name (i := 4) scIsRoad.nd rfl (Or.inl rfl)) (pgs_cons (pg_name (i := 5) scIsRoad.nd rfl (Or.inl rfl)) pgs_nil))))))
       (pss_one (ps_ret (pe_and (pe_chain3 op_le op_lt op_lt pe_int (pv 2) (pv 3) (pv 0)) (pe_and (pe_call GF hr2 rfl mF kF bF .nil pass0 (pa_cons (pv 4) (pa_cons pe_int (pa_cons (pe_glob (v := .int 2) (by rfl) mDELAY ⟨_, rfl⟩) pa_nil)))) (pe_one (pe_call GF hr2 rfl mF kF bF .nil pass0 (pa_cons (pv 5) (pa_cons (pe_glob (v := .int 16) (by rfl) mNARROW ⟨_, rfl⟩) (pa_cons (pe_glob (v := .int 80) (by rfl) mWIDE ⟨_, rfl⟩) pa_nil))))))))))), ?_⟩
    obtain ⟨t, rfl, ht⟩ := Rp.rd hv
    refine ⟨_, rfl, _, _, _, _, true, rfl, .ty _, ty_tup ht, kit_ty (by decide +kernel), _, rfl, iteF ?_⟩
    refine ⟨_, rfl, _, 4, rfl, .inr ⟨_, ht, rfl⟩, rfl, _, rfl, iteNI (fun c => absurd rfl c) (fun _ => ?_)⟩
    refine ⟨_, rfl, t, rfl, ⟨_, ht⟩, fun D nD => ?_⟩
    refine comp_it (K := K) (enc := PyData.int) (L := [(r.a : Int), r.b, r.delay, r.size]) (walk_tup (K := K) (a := t)) (fun H' s' => SqT.sm ht s') (fun _ => true) (fun _ => .bool true) (rpl_intsR _) nD (by show 4 ≤ 1000000; decide) ?_ ?_
    · intro j b x H' Q' N hb rx s' hQ _
      have ex := Rp.int_eq rx
      subst ex
      refine ⟨rfl, tYes_t (iteT ?_)⟩
      exact ⟨_, rfl, _, rfl, Th.int, hQ rfl H' _ (L2.Same.refl _) Rp.bool⟩
    · intro H1 ys s1 hD ry
      have ey := RpL.bools (bs := [true, true, true, true]) ry
      subst ey
      refine ⟨D, [true, true, true, true], rfl, SqL.of hD, _, rfl, iteF ?_⟩
      refine ⟨_, rfl, t, _, rfl, SqT.sm ht s1, rfl, _, _, rfl, _, _, rfl, _, _, rfl, _, _, rfl, rfl, ?_⟩
      have k1 := k H1 s1
      refine ⟨_, rfl, _, _, rfl, rfl, _, rfl, iteYes (by omega) ?_⟩
      refine ⟨_, rfl, _, _, rfl, rfl, _, rfl, iteYes (by omega) ?_⟩
      refine ⟨_, rfl, _, _, rfl, rfl, _, rfl, iteYes (by omega) ?_⟩
      refine ⟨_, rfl, _, _, _, rfl, Th.int, _, rfl, ?_⟩
      have e1 : fromV (.int r.delay) 1 2 = true := by
        show (decide ((1 : Int) ≤ r.delay) && decide ((r.delay : Int) ≤ 2)) = true
        rw [decide_eq_true (by omega), decide_eq_true (by omega)]
        rfl
      have e2 : fromV (.int r.size) 16 80 = true := by
        show (decide ((16 : Int) ≤ r.size) && decide ((r.size : Int) ≤ 80)) = true
        rw [decide_eq_true (by omega), decide_eq_true (by omega)]
        rfl
      rw [e1]
      refine iteT ⟨_, rfl, _, _, _, rfl, Th.int, ?_⟩
      rw [e2]
      exact k1
theorem scBadRows : FnScope ["houses", "roads", "at", "thing"] ["houses", "roads"] (defScope sBadRows) := ⟨rfl, rfl, rfl, by decide +kernel, rfl, by decide +kernel, by decide +kernel⟩
theorem ok_badrows {f : Addr} {fd : FuncData} (F : Fun K "bad_rows" "bad_rows" sBadRows f fd) (B : RB mg) (cI : Cd P w K mg base 3 "is_road" ["houses", "thing"] (spIsRoad K)) :
    FnOk P w K mg base CX0 4 f fd ["houses", "roads"] (spBadRows K) := by
  obtain ⟨fI, fdI, GI, mI, kI, bI⟩ := cI
  refine F.ok scBadRows (fun vs H Q E h => ?_) (fun cdv A outer s H vs Q E hr h => ?_)
  · obtain ⟨m, rs, a, rfl, _⟩ := h
    rfl
  · obtain ⟨m, rs, a, rfl, hT, R, k⟩ := h
    have hr3 : Room 3 _ := hr
    refine ⟨_, (pss_cons (ps_for PassesOwn.never rfl (pi_enumT (by rfl) B.enumerate (pa_cons (pv 1) pa_nil)) (pg_tup rfl (pgs_cons (pg_name (i := 2) scBadRows.nd rfl (Or.inl rfl)) (pgs_cons (pg_name (i := 3) scBadRows.nd rfl (Or.inl rfl)) pgs_nil)))
       (pss_one (ps_if (PW.pt (pw_or (pt_not (pt_val (pe_call GI hr3 rfl mI kI bI .nil pass0 (pa_cons (pv 0) (pa_cons (pv 3) pa_nil))))) (pw_or1 (PW.pt (pw_and (pt_cmpR op_gt (pv 2) pe_int (nomark _)) (pw_and1 (pt_cmpR (geTK (K := K) rfl (room0 hr)) (pe_slice (slA (K := K) rfl) (pe_ix (ixT (K := K) rfl) (pv 1) (pe_op op_sub (pv 2) pe_int) (fun _ _ => rfl)) po_none (po_some pe_int)) (pe_slice (slA (K := K) rfl) (pv 3) po_none (po_some pe_int)) (nomark _))))))))
       (pss_one (ps_ret (pe_lst (pa_cons (pv 2) pa_nil))))
       pss_nil)))
       (pss_one (ps_ret (pe_lst pa_nil)))), ?_⟩
    obtain ⟨xs, hx, rx⟩ := hT.inv
    have lx := RpL.len _ _ rx
    rw [List.length_map] at lx
    have lr := R.few
    refine ⟨_, rfl, a, xs, rfl, hx, ?_⟩
    refine for_it (walk_enumT (K := K) (a := a) (xs := xs)) (fun i σ H' => ∃ (v2 v3 : Option V), σ = [some (.int m), some (.ref a), v2, v3] ∧ Same H H') ⟨_, _, rfl, L2.Same.refl _⟩ (fun i σ H' _ ⟨_, _, _, s⟩ => SqT.sm hx s) ?_ ?_
    · rintro i x σ H1 H1' hi ⟨v2, v3, rfl, s1⟩ ⟨T, y, rfl, nT, rfl, hy⟩
      have hi : i < rs.length := by omega
      obtain ⟨v, ev, rv⟩ := RpL.get _ _ rx i (rdD rs[i]) (by rw [List.getElem?_map, List.getElem?_eq_getElem hi]; rfl)
      have ex : v = y := Option.some.inj (ev.symm.trans hy)
      subst ex
      have okr := R.ok _ (List.getElem_mem hi)
      obtain ⟨G1, eG1, s2, hTT⟩ := new_any (o := .tup [.int (i : Int), v]) nT
      rw [← eG1]
      have s02 := s1.trans s2
      have rv2 := Rp.tk' rv (TK.of s02)
      refine ⟨T, _, rfl, SqT.of hTT, rfl, _, _, rfl, _, _, rfl, rfl, ?_⟩
      refine ⟨_, rfl, _, rfl, m, rs[i], v, rfl, rv2, okr, fun H3 s3 => ⟨_, rfl, iteF ?_⟩⟩
      have s03 := s02.trans s3
      refine ⟨_, rfl, _, _, rfl, rfl, _, rfl, iteP (fun c => ?_) (fun c => iteF ⟨_, _, rfl, s03⟩)⟩
      have c : 0 < i := by
        have : (0 : Int) < (i : Int) := c
        omega
      have hj : i - 1 < rs.length := by omega
      obtain ⟨u, eu, ru⟩ := RpL.get _ _ rx (i - 1) (rdD rs[i - 1]) (by rw [List.getElem?_map, List.getElem?_eq_getElem hj]; rfl)
      obtain ⟨t1, rfl, ht1⟩ := Rp.rd (Rp.tk' ru (TK.of s03))
      obtain ⟨t2, rfl, ht2⟩ := Rp.rd (Rp.tk' rv (TK.of s03))
      have ei : (i : Int) - 1 = ((i - 1 : Nat) : Int) := by omega
      refine ⟨_, rfl, _, rfl, _, _, rfl, rfl, a, xs, _, _, rfl, rfl, SqT.sm hx s03, by rw [ei]; exact atI_nat eu, _, rfl, slA_sq ht1 fun H4 y1 s4 g4 => ?_⟩
      refine ⟨_, rfl, _, rfl, slA_sq (SqT.sm ht2 s4) fun H5 y2 s5 g5 => ?_⟩
      have e2 : ∀ x1 x2 x3 x4 : V, cutL [x1, x2, x3, x4] none (some 2) = [x1, x2] := fun x1 x2 x3 x4 => cutL_to _ 2
      rw [e2] at g4 g5
      refine ⟨y1, y2, [_, _], [_, _], rfl, rfl, SqT.sm g4 s5, g5, _, rfl, ?_⟩
      have lt := (List.pairwise_iff_getElem.mp R.up) (i - 1) i hj hi (by omega)
      have e3 : lexGe [(rs[i - 1].a : Int), rs[i - 1].b] [(rs[i].a : Int), rs[i].b] = false := by
        rw [lexGe2]
        refine decide_eq_false ?_
        unfold rdLt at lt
        omega
      rw [e3]
      exact iteF ⟨_, _, rfl, s03.trans (s4.trans s5)⟩
    · rintro σ H1 ⟨v2, v3, rfl, s1⟩
      refine ⟨Nat.zero_le _, fun p n_p => ?_⟩
      obtain ⟨H2, e_H2, s2, h2⟩ := new_any n_p
      rw [← e_H2]
      clear e_H2
      exact k H2 p (s1.trans s2) (by walk_at "none") h2
end
end Wn

namespace Wn
open PySem L2
/-- a list that rises already is its own sorted one -/
theorem sorted_self {le lt : V → V → Prop} (h : ∀ x y, lt x y → le y x → False) : ∀ {xs ys : List V}, ys.Perm xs → ys.Pairwise le → xs.Pairwise lt → ys = xs
  | [], ys, p, _, _ => List.Perm.eq_nil p
  | x :: xs, [], p, _, _ => by
    have := p.length_eq
    cases this
  | x :: xs, y :: ys, p, sy, sx => by
    rw [List.pairwise_cons] at sy sx
    by_cases e : y = x
    · subst e
      rw [sorted_self h (List.Perm.cons_inv p) sy.2 sx.2]
    · have hy : y ∈ xs := by
        have : y ∈ x :: xs := p.mem_iff.mp List.mem_cons_self
        rcases List.mem_cons.mp this with z | z
        · exact absurd z e
        · exact z
      have hx : x ∈ ys := by
        have : x ∈ y :: ys := p.mem_iff.mpr List.mem_cons_self
        rcases List.mem_cons.mp this with z | z
        · exact absurd z.symm e
        · exact z
      exact (h x y (sx.1 y hy) (sy.1 x hx)).elim
theorem code3 (B a b c : Int) : TS.code B [a, b, c] = a * (B * B) + (b * B + c) := by
  show a * B ^ 2 + (b * B ^ 1 + (c * B ^ 0 + 0)) = _
  rw [show B ^ 2 = B * B by rw [Int.pow_succ, Int.pow_succ, Int.pow_zero, Int.one_mul], show B ^ 1 = B by rw [Int.pow_succ, Int.pow_zero, Int.one_mul], Int.pow_zero]
  omega
theorem code2 (B a b : Int) : TS.code B [a, b] = a * B + b := by
  show a * B ^ 1 + (b * B ^ 0 + 0) = _
  rw [show B ^ 1 = B by rw [Int.pow_succ, Int.pow_zero, Int.one_mul], Int.pow_zero]
  omega
end Wn

set_option maxHeartbeats 800000
namespace Wn
open PySem L2
set_option pp.maxSteps 700
set_option pp.deepTerms false
local macro_rules | `(tactic| walk_at "h") => `(tactic| first | with_reducible assumption | (with_reducible exact upd_same) | (with_reducible apply g_upd; (walk_at "neq"); (walk_at "h")) | (with_reducible apply g_same; (with_reducible assumption); (walk_at "h")) | (with_reducible apply g_kp; (with_reducible assumption); (walk_at "nin"); (walk_at "h")) | (with_reducible apply g_tk; (with_reducible assumption); (walk_at "h")))
local macro_rules | `(tactic| walk_at "neq") => `(tactic| first | with_reducible assumption | (with_reducible apply Ne.symm; with_reducible assumption) | (with_reducible apply ne_upd; (with_reducible assumption)) | (with_reducible apply Ne.symm; with_reducible apply ne_upd; with_reducible assumption) | (with_reducible apply ne_fr; (with_reducible assumption); (walk_at "h")) | (with_reducible apply ne_fr'; (with_reducible assumption); (walk_at "h")) | (with_reducible apply ne_kd; (walk_at "h"); (walk_at "h"); (with_unfolding_all (intro z; cases z))))
local macro_rules | `(tactic| walk_at "nin") => `(tactic| first | (with_reducible exact nin0) | with_reducible assumption | (with_reducible apply ninc; (walk_at "neq"); (walk_at "nin")))
local macro_rules | `(tactic| walk_at "none") => `(tactic| first | with_reducible assumption | (with_reducible apply n_upd; (with_reducible assumption)) | (with_reducible apply n_same; (with_reducible assumption); (walk_at "none")) | (with_reducible apply n_kp; (with_reducible assumption); (walk_at "nin"); (walk_at "none")))
local macro_rules | `(tactic| walk_at "mem") => `(tactic| first | (with_reducible exact List.mem_cons_self) | (with_reducible apply List.mem_cons_of_mem; (walk_at "mem")))
local macro_rules | `(tactic| walk_at "am") => `(tactic| first | (with_reducible exact am0) | (with_reducible apply am1; (first | (apply Or.inl; walk_at "mem") | (apply Or.inr; walk_at "none")); (walk_at "am")))
local macro_rules | `(tactic| walk_at "tk") => `(tactic| first | (with_reducible exact TK.refl _) | with_reducible assumption | (with_reducible apply t_tk; (with_reducible assumption); (walk_at "tk")) | (with_reducible apply t_same; (with_reducible assumption); (walk_at "tk")) | (with_reducible apply t_new; (with_reducible assumption); (walk_at "tk")) | (with_reducible apply t_wr; (walk_at "h"); (with_unfolding_all rfl); (walk_at "tk")))
local macro_rules | `(tactic| walk_at "same") => `(tactic| first | (with_reducible exact L2.Same.refl _) | with_reducible assumption | (with_reducible apply s_same; (with_reducible assumption); (walk_at "same")) | (with_reducible apply s_new; (with_reducible assumption); (walk_at "same")) | (with_reducible apply s_wrn; (walk_at "none"); (walk_at "same")))
local macro_rules | `(tactic| walk_at "kp") => `(tactic| first | (with_reducible exact Kp.refl _ _) | with_reducible assumption | (with_reducible apply k_same; (with_reducible assumption); (walk_at "kp")) | (with_reducible apply k_kp; (with_reducible assumption); (walk_at "kp")) | (with_reducible apply k_kpm; (with_reducible assumption); (walk_at "am"); (walk_at "kp")) | (with_reducible apply k_new; (with_reducible assumption); (walk_at "kp")) | (with_reducible apply k_wr; (walk_at "mem"); (walk_at "kp")) | (with_reducible apply k_wrn; (walk_at "none"); (walk_at "kp")))
local macro_rules | `(tactic| walk_at "rp") => `(tactic| first | with_reducible assumption | (with_reducible exact Rp.int) | (with_reducible exact Rp.str) | (with_reducible exact Rp.none) | (with_reducible exact Rp.bool) | (with_reducible apply Rp.tk'; (with_reducible assumption); (walk_at "tk")) | (with_reducible apply Rp.tup; (walk_at "h"); (walk_at "rpl")))
local macro_rules | `(tactic| walk_at "rpl") => `(tactic| first | with_reducible assumption | (with_reducible exact RpL.nil) | (with_reducible apply RpL.tk'; (with_reducible assumption); (walk_at "tk")) | (with_reducible apply RpL.cons; (walk_at "rp"); (walk_at "rpl")))
local macro_rules | `(tactic| walk_at "g") => `(tactic| repeat (first | refine ⟨_, rfl, ?_⟩ | refine ⟨_, _, rfl, rfl, ?_⟩ | refine ⟨rfl, _, rfl, ?_⟩ | refine ⟨_, _, rfl, rfl, (by first | decide | omega), ?_⟩))
/-- an object of Roads at ℓ, its dict of fallen ones at fa -/
structure FalOk (L : Lan) : Prop where
  nd : L.fallen.Nodup
  of : ∀ p ∈ L.fallen, ∃ r ∈ L.rs, (r.a, r.b) = p
theorem FalOk.le {L : Lan} (F : FalOk L) (R : RdsOk L.m L.rs) : L.fallen.length ≤ 14 := by
  have h := nodup_le (l' := L.rs.map fun r => (r.a, r.b)) F.nd fun p hp => by
    obtain ⟨r, hr, e⟩ := F.of p hp
    exact List.mem_map.mpr ⟨r, hr, e⟩
  rw [List.length_map] at h
  have := R.few
  omega
def RoadsAt (K : PySem.W.Frag) (C : Addr) (H : Hp) (l fa : Addr) (L : Lan) : Prop :=
  (∃ dx la, H l = some (.ins C dx [("many", .int (L.m : Int)), ("lines", .ref la), ("fallen", .ref fa)]) ∧ TupAt K H la (L.rs.map rdD)) ∧ H fa = some (.dT (fkv L.fallen)) ∧ RdsOk L.m L.rs ∧ FalOk L
section
variable {K : PySem.W.Frag} {C : Addr} {H H' : Hp} {l fa : Addr} {L : Lan}
theorem RoadsAt.kp {M : List Addr} (h : RoadsAt K C H l fa L) (k : Kp M H H') (t : TK H H') (n1 : l ∉ M) (n2 : fa ∉ M) : RoadsAt K C H' l fa L := by
  obtain ⟨⟨dx, la, h1, h2⟩, h3, h4⟩ := h
  exact ⟨⟨dx, la, k _ _ n1 h1, h2.tk t⟩, k _ _ n2 h3, h4⟩
theorem RoadsAt.same (h : RoadsAt K C H l fa L) (s : Same H H') : RoadsAt K C H' l fa L := h.kp (M := []) (Kp.of s) (TK.of s) nin0 nin0
theorem RoadsAt.at (h : RoadsAt K C H l fa L) : (∃ dx fs, H l = some (.ins C dx fs)) ∧ ∃ kv, H fa = some (.dT kv) := by
  obtain ⟨⟨dx, la, h1, h2⟩, h3, h4⟩ := h
  exact ⟨⟨_, _, h1⟩, _, h3⟩
end
def spRoadsInit (K : PySem.W.Frag) (C : Addr) : Sp := fun vs H Q _ => ∃ (x dx : Addr) (m : Nat) (rs : List Rd) (la : Addr), vs = [.ref x, .int m, .ref la] ∧ H x = some (.ins C dx []) ∧ TupAt K H la (rs.map rdD) ∧ RdsOk m rs ∧
  ∀ (H' : Hp) (fa : Addr), Kp [x] H H' → H fa = none → RoadsAt K C H' x fa ⟨m, rs, []⟩ → Q .non H'
def spUp (K : PySem.W.Frag) (C : Addr) : Sp := fun vs H Q _ => ∃ (l fa : Addr) (L : Lan), vs = [.ref l] ∧ RoadsAt K C H l fa L ∧ ∀ (H' : Hp) (a : Addr), Same H H' → TupAt K H' a ((upOf L).map PyData.bool) → Q (.ref a) H'
def pairV (rs : List Rd) (x y : V) : Option (Nat × Nat) := match isI x, isI y with
  | some i, some j => pairOf rs i j
  | _, _ => none
def spPair (K : PySem.W.Frag) (C CN : Addr) : Sp := fun vs H Q E => ∃ (l fa : Addr) (L : Lan) (x y : V), vs = [.ref l, x, y] ∧ RoadsAt K C H l fa L ∧ Th K H x ∧ Th K H y ∧
  (∀ (p : Nat × Nat) (H' : Hp) (t : Addr), pairV L.rs x y = some p → Same H H' → H' t = some (.tup [.int p.1, .int p.2]) → Q (.ref t) H') ∧
  (∀ (H' : Hp) (d : Addr), pairV L.rs x y = none → Same H H' → H d = none → H' d = some (.xd [("b", y), ("a", x)]) → E (.ref CN) (some d) H')
def spFall (K : PySem.W.Frag) (C CN CS : Addr) : Sp := fun vs H Q E => ∃ (l fa : Addr) (L : Lan) (x y : V), vs = [.ref l, x, y] ∧ RoadsAt K C H l fa L ∧ Th K H x ∧ Th K H y ∧
  (∀ (p : Nat × Nat) (H' : Hp), pairV L.rs x y = some p → p ∉ L.fallen → Kp [fa] H H' → RoadsAt K C H' l fa { L with fallen := L.fallen ++ [p] } → Q .non H') ∧
  (∀ (p : Nat × Nat) (H' : Hp), pairV L.rs x y = some p → p ∈ L.fallen → Same H H' → E (.ref CS) none H') ∧
  (∀ (H' : Hp) (d : Addr), pairV L.rs x y = none → Same H H' → H d = none → H' d = some (.xd [("b", y), ("a", x)]) → E (.ref CN) (some d) H')
def spRise (K : PySem.W.Frag) (C CN CS : Addr) : Sp := fun vs H Q E => ∃ (l fa : Addr) (L : Lan) (x y : V), vs = [.ref l, x, y] ∧ RoadsAt K C H l fa L ∧ Th K H x ∧ Th K H y ∧
  (∀ (p : Nat × Nat) (H' : Hp), pairV L.rs x y = some p → p ∈ L.fallen → Kp [fa] H H' → RoadsAt K C H' l fa { L with fallen := L.fallen.filter fun q => decide (q ≠ p) } → Q .non H') ∧
  (∀ (p : Nat × Nat) (H' : Hp), pairV L.rs x y = some p → p ∉ L.fallen → Same H H' → E (.ref CS) none H') ∧
  (∀ (H' : Hp) (d : Addr), pairV L.rs x y = none → Same H H' → H d = none → H' d = some (.xd [("b", y), ("a", x)]) → E (.ref CN) (some d) H')
def spNbr (K : PySem.W.Frag) (C : Addr) : Sp := fun vs H Q _ => ∃ (l fa : Addr) (L : Lan) (h : Nat), vs = [.ref l, .int h] ∧ RoadsAt K C H l fa L ∧ ∀ (H' : Hp) (a : Addr), Same H H' → TupAt K H' a ((nbrs L h).map nbD) → Q (.ref a) H'
theorem pairOf_mem {rs : List Rd} {i j : Int} {p : Nat × Nat} (h : pairOf rs i j = some p) : ∃ r ∈ rs, (r.a, r.b) = p := by
  unfold pairOf at h
  cases e : rs.find? fun r => decide ((((r.a : Int) = i ∧ (r.b : Int) = j) ∨ ((r.a : Int) = j ∧ (r.b : Int) = i))) with
  | none => rw [e] at h; cases h
  | some r =>
    rw [e] at h
    exact ⟨r, List.mem_of_find?_eq_some e, Option.some.inj h⟩
theorem pairV_mem {rs : List Rd} {x y : V} {p : Nat × Nat} (h : pairV rs x y = some p) : ∃ r ∈ rs, (r.a, r.b) = p := by
  unfold pairV at h
  split at h
  · exact pairOf_mem h
  · cases h

section
variable {P : Program} {w : World} {K : PySem.W.Frag} {mg : Str → Option Value} {base : Heap} {C CN CS : Addr}
theorem scRoadsInit : FnScope ["self", "houses", "roads", "bad"] ["self", "houses", "roads"] (defScope sRoadsInit) := ⟨rfl, rfl, rfl, by decide +kernel, rfl, by decide +kernel, by decide +kernel⟩
theorem ok_roadsinit {f : Addr} {fd : FuncData} (F : Fun K "__init__" "Roads.__init__" sRoadsInit f fd) (B : RB mg) (Cn : RC mg) (T : TRoads K C) (cF : Cd P w K mg base 2 "is_from" ["thing", "low", "high"] (spFromT K)) (cB : Cd P w K mg base 4 "bad_rows" ["houses", "roads"] (spBadRows K)) :
    FnOk P w K mg base CX0 5 f fd ["self", "houses", "roads"] (spRoadsInit K C) := by
  obtain ⟨fF, fdF, GF, mF, kF, bF⟩ := cF
  obtain ⟨fB, fdB, GB, mB, kB, bB⟩ := cB.tk
  obtain ⟨tH, mHOUSES⟩ := Cn.HOUSES
  obtain ⟨tR, mROADS⟩ := Cn.ROADS
  refine F.ok scRoadsInit (fun vs H Q E h => ?_) (fun cdv A outer s H vs Q E hr h => ?_)
  · obtain ⟨x, dx, m, rs, la, rfl, _⟩ := h
    rfl
  · obtain ⟨x, dx, m, rs, la, rfl, hx, hT, R, k⟩ := h
    have hr4 : Room 4 _ := hr
    have hr2 : Room 2 _ := hr.mono (by decide)
    refine ⟨_, (pss_cons (ps_if (PW.pt (pw_or (pt_not (pt_val (pe_call GF hr2 rfl mF kF bF .nil pass0 (pa_cons (pv 1) (pa_cons pe_int (pa_cons (pe_glob (v := .int 8) (by rfl) mHOUSES ⟨_, rfl⟩) pa_nil)))))) (pw_or (pt_not (pt_val (pe_callB (isiK (K := K) rfl) (by rfl) B.isinstance (by decide +kernel) (pa_cons (pv 2) (pa_cons (pe_bltn (v := .ty "tuple") (by rfl) B.tuple PyProof.Rows.boot_tuple rfl) pa_nil))))) (pw_or1 (pt_cmpR op_gt (pe_callB (lenK (K := K) rfl) (by rfl) B.len PySem.boot_len (pa_cons (pv 2) pa_nil)) (pe_glob (v := .int 14) (by rfl) mROADS ⟨_, rfl⟩) (nomark _))))))
       (pss_one ps_never)
       pss_nil)
       (pss_cons (ps_set (i := 3) scRoadsInit.nd rfl (Or.inl rfl) (pe_call GB hr4 rfl mB kB bB .nil pass0 (pa_cons (pv 1) (pa_cons (pv 2) pa_nil))))
       (pss_cons (ps_if (pt_cmpR (neDK (K := K) rfl hr.units) (pv 3) (pe_lst pa_nil) (nomark _))
       (pss_one ps_never)
       pss_nil)
       (pss_cons (ps_fld (pv 0) (pv 1) rfl)
       (pss_cons (ps_fld (pv 0) (pv 2) rfl)
       (pss_one (ps_fld (pv 0) pe_dnewT rfl))))))), ?_⟩
    obtain ⟨xs, hxs, rx⟩ := hT.inv
    have lx := RpL.len _ _ rx
    rw [List.length_map] at lx
    have m1 := R.m1
    have m8 := R.m8
    have lr := R.few
    have e1 : fromV (.int (m : Int)) 1 8 = true := by
      show (decide ((1 : Int) ≤ m) && decide ((m : Int) ≤ 8)) = true
      rw [decide_eq_true (by omega), decide_eq_true (by omega)]
      rfl
    refine ⟨_, rfl, _, _, _, rfl, Th.int, _, rfl, ?_⟩
    rw [e1]
    refine iteF ⟨_, rfl, _, _, _, _, true, rfl, .ty _, ty_tup hxs, kit_ty (by decide +kernel), _, rfl, iteF ?_⟩
    refine ⟨_, rfl, _, xs.length, rfl, .inr ⟨_, hxs, rfl⟩, _, _, rfl, rfl, _, rfl, iteNo (by omega) ?_⟩
    refine ⟨_, rfl, _, rfl, m, rs, la, rfl, hT, R, fun H1 p s1 n_p h1 t1 => ?_⟩
    refine ⟨_, rfl, Nat.zero_le _, fun p2 n_p2 => ?_⟩
    obtain ⟨H2, e_H2, s2, h2⟩ := new_any n_p2
    rw [← e_H2]
    clear e_H2
    refine ⟨.list [], .list [], .lst (SqL.of (s2 _ _ h1)) .nil, .lst (SqL.of h2) .nil, rfl, rfl, _, rfl, ?_⟩
    rw [show PyData.eqv (.list []) (.list []) = true from SeqAt.eqv_refl _ rfl]
    refine iteF ?_
    have s02 := s1.trans s2
    have hx2 := s02 _ _ hx
    refine ⟨_, rfl, _, rfl, x, C, dx, _, rfl, hx2, T.cl, T.many, by decide, ?_⟩
    obtain ⟨H3, e_H3, k3, t3, h3⟩ := wr_any hx2 rfl
    rw [← e_H3]
    clear e_H3
    refine ⟨_, rfl, _, rfl, x, C, dx, _, rfl, h3, T.cl, T.lines, (by show 1 < 1000; decide), ?_⟩
    obtain ⟨H4, e_H4, k4, t4, h4⟩ := wr_any h3 rfl
    rw [← e_H4]
    clear e_H4
    intro fa n_fa
    obtain ⟨H5, e_H5, s5, h5⟩ := new_any n_fa
    rw [← e_H5]
    clear e_H5
    have h45 := s5 _ _ h4
    refine ⟨_, rfl, x, C, dx, _, rfl, h45, T.cl, T.fallen, (by show 2 < 1000; decide), ?_⟩
    have nfx : fa ≠ x := by walk_at "neq"
    obtain ⟨H6, e_H6, k6, t6, h6⟩ := wr_any h45 rfl
    rw [← e_H6]
    clear e_H6
    have h56 := k6 _ _ (nin1 nfx) h5
    refine k H6 fa (by walk_at "kp") (by walk_at "none") ⟨⟨dx, la, h6, hT.tk (by walk_at "tk")⟩, h56, R, ⟨List.nodup_nil, fun p hp => by cases hp⟩⟩
theorem scRoadsUp : FnScope ["self", "row"] ["self"] (defScope sRoadsUp) := ⟨rfl, rfl, rfl, by decide +kernel, rfl, by decide +kernel, by decide +kernel⟩
theorem ok_roadsup {f : Addr} {fd : FuncData} (F : Fun K "up" "Roads.up" sRoadsUp f fd) (B : RB mg) (T : TRoads K C) : FnOk P w K mg base CX0 1 f fd ["self"] (spUp K C) := by
  refine F.ok scRoadsUp (fun vs H Q E h => ?_) (fun cdv A outer s H vs Q E hr h => ?_)
  · obtain ⟨l, fa, L, rfl, _⟩ := h
    rfl
  · obtain ⟨l, fa, L, rfl, ⟨⟨dx, la, h1, hT⟩, h3, R, FO⟩, k⟩ := h
    have hu := hu_of hr
    refine ⟨_, (pss_one (ps_ret (pe_callTy (tupOfK (K := K) rfl) (by rfl) B.tuple PyProof.Rows.boot_tuple (pa_cons (pe_lc (own := [("row", 1)]) (g := (gName 1)) (tt := tYes) rfl scRoadsUp.nd (pi_tup (fldK (K := K) rfl (pv 0) rfl)) (blkOk_by (N := ["self", "row"]) (sc := defScope sRoadsUp) (by decide +kernel))
       (fun _ _ _ _ _ => (pg_name (i := 1) scRoadsUp.nd rfl (Or.inl rfl))) (fun _ _ _ _ _ => pts_nil) (fun _ _ _ _ _ => (pe_cmp (pc_dnotin hu (pe_slice (slA (K := K) rfl) (pv 1) po_none (po_some pe_int)) (fldK (K := K) rfl (pv 0) rfl)) rfl))) pa_nil)))), ?_⟩
    obtain ⟨xs, hxs, rx⟩ := hT.inv
    have lr := R.few
    refine ⟨_, rfl, l, C, dx, _, _, rfl, h1, T.cl, T.lines, rfl, la, rfl, ⟨_, hxs⟩, fun D nD => ?_⟩
    refine comp_it (K := K) (enc := rdD) (L := L.rs) (walk_tup (K := K) (a := la)) (fun H' s' => SqT.sm hxs s') (fun _ => true) (fun r => .bool (!decide ((r.a, r.b) ∈ L.fallen))) rx nD (by omega) ?_ ?_
    · intro j r x H' Q' N hb rr s' hQ _
      refine ⟨rfl, tYes_t (iteT ?_)⟩
      obtain ⟨t, rfl, ht⟩ := Rp.rd rr
      refine ⟨_, rfl, _, rfl, slA_2of4 ht fun H2 y1 s2 n2 g2 => ?_⟩
      have s02 := s'.trans s2
      refine ⟨_, rfl, l, C, dx, _, _, rfl, s02 _ _ h1, T.cl, T.fallen, rfl, fa, _, rfl, DGet.t (k := pk (r.a, r.b)) (s02 _ _ h3) g2, ?_⟩
      rw [fkv_some]
      exact hQ rfl H2 _ s2 Rp.bool
    · intro H1 ys s1 hD ry
      rw [filter_yes] at ry
      refine ⟨D, ys, rfl, .inl ⟨SqL.of hD, fun t n_t => ?_⟩⟩
      generalize e_H2 : upd _ t _ = H2
      obtain ⟨s2, r2⟩ := new_tup (K := K) n_t e_H2 (by walk_at "rpl")
      clear e_H2
      refine k H2 t (s1.trans s2) ?_
      unfold upOf
      rw [List.map_map]
      exact r2
theorem scRoadsPair : FnScope ["self", "a", "b", "row"] ["self", "a", "b"] (defScope sRoadsPair) := ⟨rfl, rfl, rfl, by decide +kernel, rfl, by decide +kernel, by decide +kernel⟩
theorem ok_roadspair {f : Addr} {fd : FuncData} (F : Fun K "pair_of" "Roads.pair_of" sRoadsPair f fd) (T : TRoads K C) (cW : Cd P w K mg base 1 "is_whole" ["thing"] (spWholeT K)) (EN : Err P w K mg base "NoRoad" CN ["self", "a", "b"] (spX2 CN "a" "b")) :
    FnOk P w K mg base (L2.CX P w) 3 f fd ["self", "a", "b"] (spPair K C CN) := by
  obtain ⟨fW, fdW, GW, mW, kW, bW⟩ := cW
  refine F.okX scRoadsPair (fun vs H Q E h => ?_) (fun cdv A outer s H vs Q E hr h => ?_)
  · obtain ⟨l, fa, L, x, y, rfl, _⟩ := h
    rfl
  · obtain ⟨l, fa, L, x, y, rfl, ⟨⟨dx, la, h1, hT⟩, h3, R, FO⟩, tx, ty, k1, k2⟩ := h
    have hr2 : Room 2 _ := hr
    have hr1 : Room 1 _ := hr.mono (by decide)
    refine ⟨_, (pss_cons (ps_for (passes_of rfl) rfl (pi_tup (fldK (K := K) rfl (pv 0) rfl)) (pg_name (i := 3) scRoadsPair.nd rfl (Or.inl rfl))
       (pss_one (ps_if (PW.pt (pw_and (pt_val (pe_call GW hr1 rfl mW kW bW .nil pass0 (pa_cons (pv 1) pa_nil))) (pw_and (pt_val (pe_call GW hr1 rfl mW kW bW .nil pass0 (pa_cons (pv 2) pa_nil))) (pw_and1 (pt_cmpR (inDTK (K := K) rfl (room65 hr)) (pe_slice (slA (K := K) rfl) (pv 3) po_none (po_some pe_int)) (pe_tup (pa_cons (pe_tup (pa_cons (pv 1) (pa_cons (pv 2) pa_nil))) (pa_cons (pe_tup (pa_cons (pv 2) (pa_cons (pv 1) pa_nil))) pa_nil))) (by rfl))))))
       (pss_one (ps_ret (pe_slice (slA (K := K) rfl) (pv 3) po_none (po_some pe_int))))
       pss_nil)))
       (pss_one (ps_raise rfl (takes_of rfl rfl rfl rfl) (pmk_err EN hr2 rfl (pa_cons (pv 1) (pa_cons (pv 2) pa_nil)))))), ?_⟩
    obtain ⟨xs, hxs, rx⟩ := hT.inv
    have lx := RpL.len _ _ rx
    rw [List.length_map] at lx
    have lr := R.few
    refine ⟨_, rfl, l, C, dx, _, _, rfl, h1, T.cl, T.lines, rfl, la, rfl, ⟨_, hxs⟩, ?_⟩
    refine for_tup (K := K) (a := la) (xs := xs) (fun i σ H' => ∃ v3 : Option V, σ = [some (.ref l), some x, some y, v3] ∧ Same H H' ∧ pairV L.rs x y = pairV (L.rs.drop i) x y) ⟨_, rfl, L2.Same.refl _, rfl⟩ (fun i σ H' _ ⟨_, _, s, _⟩ => SqT.sm hxs s) ?_ ?_
    · rintro i z σ H2 hz ⟨v3, rfl, s2, ep⟩
      have hi : i < L.rs.length := by
        have q := (List.getElem?_eq_some_iff.mp hz).1
        omega
      obtain ⟨v, ev, rv⟩ := RpL.get _ _ rx i (rdD L.rs[i]) (by rw [List.getElem?_map, List.getElem?_eq_getElem hi]; rfl)
      have ez : v = z := Option.some.inj (ev.symm.trans hz)
      subst ez
      have edr : L.rs.drop i = L.rs[i] :: L.rs.drop (i + 1) := List.drop_eq_getElem_cons hi
      rw [edr] at ep
      obtain ⟨t, rfl, ht⟩ := Rp.rd (Rp.tk' rv (TK.of s2))
      generalize L.rs[i] = r at ht ep
      have nx : ∀ H', Same H2 H' → (∀ i j, x = .int i → y = .int j → ¬ (((r.a : Int) = i ∧ (r.b : Int) = j) ∨ ((r.a : Int) = j ∧ (r.b : Int) = i))) → ∃ v3 : Option V, [some (V.ref l), some x, some y, some (V.ref t)] = [some (.ref l), some x, some y, v3] ∧ Same H H' ∧ pairV L.rs x y = pairV (L.rs.drop (i + 1)) x y := fun H' s' hn => by
        refine ⟨_, rfl, s2.trans s', ?_⟩
        rw [ep]
        unfold pairV
        split
        · rename_i a b ea eb
          have hx' : x = .int a := by cases x <;> simp [isI] at ea; rw [ea]
          have hy' : y = .int b := by cases y <;> simp [isI] at eb; rw [eb]
          unfold pairOf
          rw [List.find?_cons, decide_eq_false (hn a b hx' hy')]
        · rfl
      refine ⟨_, rfl, x, rfl, tx.sm s2, _, rfl, iteB (fun c => ?_) (fun c => iteF (nx _ (L2.Same.refl _) fun i j e => by rw [e] at c; cases c))⟩
      obtain ⟨xi, rfl⟩ := isI_some c
      refine ⟨_, rfl, y, rfl, ty.sm s2, _, rfl, iteB (fun c2 => ?_) (fun c2 => iteF (nx _ (L2.Same.refl _) fun i j e e2 => by rw [e2] at c2; cases c2))⟩
      obtain ⟨yj, rfl⟩ := isI_some c2
      refine ⟨_, rfl, _, rfl, slA_2of4 ht fun H3 y1 s3 n3 g3 => ?_⟩
      refine ⟨_, rfl, _, rfl, (by show 2 ≤ sizeLine; decide), fun p1 n_p1 => ?_⟩
      generalize e_H4 : upd _ p1 _ = H4
      obtain ⟨s4, r4⟩ := new_tup (K := K) n_p1 e_H4 (by walk_at "rpl")
      clear e_H4
      refine ⟨_, rfl, _, rfl, (by show 2 ≤ sizeLine; decide), fun p2 n_p2 => ?_⟩
      generalize e_H5 : upd _ p2 _ = H5
      obtain ⟨s5, r5⟩ := new_tup (K := K) n_p2 e_H5 (by walk_at "rpl")
      clear e_H5
      refine ⟨(by show 2 ≤ sizeLine; decide), fun p3 n_p3 => ?_⟩
      generalize e_H6 : upd _ p3 _ = H6
      obtain ⟨s6, r6⟩ := new_tup (K := K) n_p3 e_H6 (by walk_at "rpl")
      clear e_H6
      have ry1 : Rp K H6 (.tuple [.int r.a, .int r.b]) (.ref y1) := Rp.tup (by walk_at "h") (by walk_at "rpl")
      have s26 : Same H2 H6 := by walk_at "same"
      refine ⟨.tuple [.int r.a, .int r.b], [.tuple [.int xi, .int yj], .tuple [.int yj, .int xi]], Rp.dp _ _ ry1, Rp.dp _ _ r6, rfl, rfl, _, rfl, ?_⟩
      have e : (List.any [PyData.tuple [.int xi, .int yj], .tuple [.int yj, .int xi]] fun z => PyData.eqv z (.tuple [.int r.a, .int r.b])) = decide ((((r.a : Int) = xi ∧ (r.b : Int) = yj) ∨ ((r.a : Int) = yj ∧ (r.b : Int) = xi))) := by
        rw [Bool.eq_iff_iff]
        simp [PyData.eqv, PyData.eqvAll]
        omega
      rw [e]
      refine iteP (fun c3 => ?_) (fun c3 => nx _ s26 fun i j e1 e2 => by
        injection e1 with e1
        injection e2 with e2
        rw [← e1, ← e2]
        exact c3)
      refine ⟨_, rfl, _, rfl, slA_2of4 (SqT.sm ht s26) fun H7 y2 s7 n7 g7 => ?_⟩
      refine k1 (r.a, r.b) H7 y2 ?_ (s2.trans (s26.trans s7)) g7
      rw [ep]
      show pairOf (r :: _) xi yj = _
      unfold pairOf
      rw [List.find?_cons, decide_eq_true c3]
      rfl
    · rintro σ H2 ⟨v3, rfl, s2, ep⟩
      rw [lx, List.drop_length] at ep
      refine ⟨_, rfl, _, rfl, err2_ok fun d hd => ?_⟩
      refine k2 _ d ?_ (s2.new hd) (by walk_at "none") upd_same
      rw [ep]
      unfold pairV
      split <;> rfl
theorem scRoadsFall : FnScope ["self", "a", "b", "pair"] ["self", "a", "b"] (defScope sRoadsFall) := ⟨rfl, rfl, rfl, by decide +kernel, rfl, by decide +kernel, by decide +kernel⟩
theorem ok_roadsfall {f : Addr} {fd : FuncData} (F : Fun K "fall" "Roads.fall" sRoadsFall f fd) (T : TRoads K C) (cP : MdX P w K mg base 3 C "pair_of" ["self", "a", "b"] (spPair K C CN)) (ES : Err P w K mg base "Same" CS ["self"] (spX0 CS)) :
    FnOk P w K mg base (L2.CX P w) 4 f fd ["self", "a", "b"] (spFall K C CN CS) := by
  obtain ⟨fP, fdP, GP, MP, bP⟩ := cP.tk
  refine F.okX scRoadsFall (fun vs H Q E h => ?_) (fun cdv A outer s H vs Q E hr h => ?_)
  · obtain ⟨l, fa, L, x, y, rfl, _⟩ := h
    rfl
  · obtain ⟨l, fa, L, x, y, rfl, RA, tx, ty, k1, k2, k3⟩ := h
    have hr3 : Room 3 _ := hr
    have hr2 : Room 2 _ := hr.mono (by decide)
    have hu := hu_of hr
    refine ⟨_, (pss_cons (ps_set (i := 3) scRoadsFall.nd rfl (Or.inl rfl) (pe_meth (pv 0) T.cl MP GP hr3 bP .nil (passes_call (takes_of rfl rfl rfl rfl) (fun _ _ _ _ h => h)) (pa_cons (pv 1) (pa_cons (pv 2) pa_nil))))
       (pss_cons (ps_if (pt_cmp (pc_din hu (pv 3) (fldK (K := K) rfl (pv 0) rfl)))
       (pss_one (ps_raise rfl (takes_of rfl rfl rfl rfl) (pmk_err0 ES hr2 rfl)))
       pss_nil)
       (pss_one (ps_dput hu (fldK (K := K) rfl (pv 0) rfl) (pv 3) pe_bl rfl)))), ?_⟩
    obtain ⟨⟨dx, la, h1, hT⟩, h3, R, FO⟩ := id RA
    refine ⟨_, rfl, l, dx, _, rfl, h1, rfl, _, rfl, _, rfl, l, fa, L, x, y, rfl, RA, tx, ty, fun p H1 t ep s1 ht t1 => ?_, fun H1 d ep s1 nd hd => k3 H1 d ep s1 nd hd⟩
    refine ⟨_, rfl, _, rfl, l, C, dx, _, _, rfl, s1 _ _ h1, T.cl, T.fallen, rfl, fa, _, rfl, DGet.t (k := pk p) (s1 _ _ h3) ht, _, rfl, ?_⟩
    rw [fkv_some]
    refine iteP (fun c => err0_ok (k2 p H1 ep c s1)) (fun c => ?_)
    have lf := FO.le R
    refine ⟨_, rfl, l, C, dx, _, _, rfl, s1 _ _ h1, T.cl, T.fallen, rfl, _, rfl, fa, _, rfl, DPut.t (k := pk p) (s1 _ _ h3) ht (Nat.lt_of_le_of_lt (by unfold fkv; rw [List.length_map]; exact lf) (by decide)), ?_⟩
    rw [fkv_put c]
    have h31 := s1 _ _ h3
    obtain ⟨H2, e_H2, k2', t2, h2⟩ := wr_any h31 rfl
    rw [← e_H2]
    clear e_H2
    have nlf : l ≠ fa := by walk_at "neq"
    refine k1 p H2 ep c (by walk_at "kp") ⟨⟨dx, la, by walk_at "h", hT.tk (by walk_at "tk")⟩, h2, R, ?_⟩
    refine ⟨List.nodup_append.mpr ⟨FO.nd, List.nodup_cons.mpr ⟨List.not_mem_nil, List.nodup_nil⟩, fun a ha b hb e => ?_⟩, fun q hq => ?_⟩
    · rw [List.mem_singleton.mp hb] at e
      exact c (e ▸ ha)
    · rcases List.mem_append.mp hq with hq | hq
      · exact FO.of q hq
      · rw [List.mem_singleton.mp hq]
        exact pairV_mem ep
theorem scRoadsRise : FnScope ["self", "a", "b", "pair"] ["self", "a", "b"] (defScope sRoadsRise) := ⟨rfl, rfl, rfl, by decide +kernel, rfl, by decide +kernel, by decide +kernel⟩
theorem ok_roadsrise {f : Addr} {fd : FuncData} (F : Fun K "rise" "Roads.rise" sRoadsRise f fd) (T : TRoads K C) (cP : MdX P w K mg base 3 C "pair_of" ["self", "a", "b"] (spPair K C CN)) (ES : Err P w K mg base "Same" CS ["self"] (spX0 CS)) :
    FnOk P w K mg base (L2.CX P w) 4 f fd ["self", "a", "b"] (spRise K C CN CS) := by
  obtain ⟨fP, fdP, GP, MP, bP⟩ := cP.tk
  refine F.okX scRoadsRise (fun vs H Q E h => ?_) (fun cdv A outer s H vs Q E hr h => ?_)
  · obtain ⟨l, fa, L, x, y, rfl, _⟩ := h
    rfl
  · obtain ⟨l, fa, L, x, y, rfl, RA, tx, ty, k1, k2, k3⟩ := h
    have hr3 : Room 3 _ := hr
    have hr2 : Room 2 _ := hr.mono (by decide)
    have hu := hu_of hr
    refine ⟨_, (pss_cons (ps_set (i := 3) scRoadsRise.nd rfl (Or.inl rfl) (pe_meth (pv 0) T.cl MP GP hr3 bP .nil (passes_call (takes_of rfl rfl rfl rfl) (fun _ _ _ _ h => h)) (pa_cons (pv 1) (pa_cons (pv 2) pa_nil))))
       (pss_cons (ps_if (pt_cmp (pc_dnotin hu (pv 3) (fldK (K := K) rfl (pv 0) rfl)))
       (pss_one (ps_raise rfl (takes_of rfl rfl rfl rfl) (pmk_err0 ES hr2 rfl)))
       pss_nil)
       (pss_one (ps_expr (pe_bm PySem.F.plainAttrs_dict PySem.F.slot_dict_pop PySem.F.type_dict_pop (L2.DX.mt_popT1 hu) (fldK (K := K) rfl (pv 0) rfl) (pa_cons (pv 3) pa_nil)))))), ?_⟩
    obtain ⟨⟨dx, la, h1, hT⟩, h3, R, FO⟩ := id RA
    refine ⟨_, rfl, l, dx, _, rfl, h1, rfl, _, rfl, _, rfl, l, fa, L, x, y, rfl, RA, tx, ty, fun p H1 t ep s1 ht t1 => ?_, fun H1 d ep s1 nd hd => k3 H1 d ep s1 nd hd⟩
    refine ⟨_, rfl, _, rfl, l, C, dx, _, _, rfl, s1 _ _ h1, T.cl, T.fallen, rfl, fa, _, rfl, DGet.t (k := pk p) (s1 _ _ h3) ht, _, rfl, ?_⟩
    rw [fkv_some]
    refine iteNP (fun c => err0_ok (k2 p H1 ep c s1)) (fun c => ?_)
    have h31 := s1 _ _ h3
    have ev : valV (fkv L.fallen) (pk p) = some (.bl true) := by rw [fkv_val, if_pos c]
    refine ⟨_, rfl, l, C, dx, _, _, rfl, s1 _ _ h1, T.cl, T.fallen, rfl, .inr (.inr (.inl ⟨rfl, .inr ⟨_, h31⟩⟩)), _, rfl, fa, _, pk p, t, _, rfl, rfl, h31, ht, ev, ?_⟩
    rw [fkv_drop]
    obtain ⟨H2, e_H2, k2', t2, h2⟩ := wr_any h31 rfl
    rw [← e_H2]
    clear e_H2
    have nlf : l ≠ fa := by walk_at "neq"
    refine k1 p H2 ep c (by walk_at "kp") ⟨⟨dx, la, by walk_at "h", hT.tk (by walk_at "tk")⟩, h2, R, ?_⟩
    exact ⟨FO.nd.sublist List.filter_sublist, fun q hq => FO.of q (List.mem_filter.mp hq).1⟩
theorem scRoadsNbr : FnScope ["self", "house", "found", "a", "b", "delay", "size"] ["self", "house"] (defScope sRoadsNbr) := ⟨rfl, rfl, rfl, by decide +kernel, rfl, by decide +kernel, by decide +kernel⟩
theorem ok_roadsnbr {f : Addr} {fd : FuncData} (F : Fun K "neighbours" "Roads.neighbours" sRoadsNbr f fd) (B : RB mg) (T : TRoads K C) : FnOk P w K mg base CX0 1 f fd ["self", "house"] (spNbr K C) := by
  refine F.ok scRoadsNbr (fun vs H Q E h => ?_) (fun cdv A outer s H vs Q E hr h => ?_)
  · obtain ⟨l, fa, L, hh, rfl, _⟩ := h
    rfl
  · obtain ⟨l, fa, L, hh, rfl, ⟨⟨dx, la, h1, hT⟩, h3, R, FO⟩, k⟩ := h
    have hu := hu_of hr
    refine ⟨_, (pss_cons (ps_set (i := 2) scRoadsNbr.nd rfl (Or.inl rfl) (pe_lst pa_nil))
       (pss_cons (ps_for PassesOwn.never rfl (pi_tup (fldK (K := K) rfl (pv 0) rfl)) (pg_tup rfl (pgs_cons (pg_name (i := 3) scRoadsNbr.nd rfl (Or.inl rfl)) (pgs_cons (pg_name (i := 4) scRoadsNbr.nd rfl (Or.inl rfl)) (pgs_cons (pg_name (i := 5) scRoadsNbr.nd rfl (Or.inl rfl)) (pgs_cons (pg_name (i := 6) scRoadsNbr.nd rfl (Or.inl rfl)) pgs_nil)))))
       (pss_one (ps_if (PW.pt (pw_and (pt_cmpR (inSeqK (K := K) rfl) (pv 1) (pe_tup (pa_cons (pv 3) (pa_cons (pv 4) pa_nil))) (by rfl)) (pw_and1 (pt_cmp (pc_dnotin hu (pe_tup (pa_cons (pv 3) (pa_cons (pv 4) pa_nil))) (fldK (K := K) rfl (pv 0) rfl))))))
       (pss_one (ps_expr (pe_bm PySem.F.plainAttrs_list PySem.F.slot_list_append PySem.F.type_list_append mt_append (pv 2) (pa_cons (pe_tup (pa_cons (pe_op op_sub (pe_op op_add (pv 3) (pv 4)) (pv 1)) (pa_cons (pv 5) (pa_cons (pv 6) pa_nil)))) pa_nil))))
       pss_nil)))
       (pss_one (ps_ret (pe_callTy (tupOfK (K := K) rfl) (by rfl) B.tuple PyProof.Rows.boot_tuple (pa_cons (pe_callB (sortUK (K := K) (d := 3) (B := 100) rfl (by decide)) (by rfl) B.sorted (by decide +kernel) (pa_cons (pv 2) pa_nil)) pa_nil)))))), ?_⟩
    obtain ⟨xs, hxs, rx⟩ := hT.inv
    have lx := RpL.len _ _ rx
    rw [List.length_map] at lx
    have lr := R.few
    refine ⟨Nat.zero_le _, fun fo n_fo => ?_⟩
    obtain ⟨H1, e_H1, s1, g1⟩ := new_any n_fo
    rw [← e_H1]
    clear e_H1
    refine ⟨_, rfl, l, C, dx, _, _, rfl, s1 _ _ h1, T.cl, T.lines, rfl, la, rfl, ⟨_, SqT.sm hxs s1⟩, ?_⟩
    refine for_tup (K := K) (a := la) (xs := xs) (fun i σ H' => ∃ v3 v4 v5 v6 : Option V, σ = [some (.ref l), some (.int hh), some (.ref fo), v3, v4, v5, v6] ∧ Same H H' ∧ LstAt K H' fo (((L.rs.take i).filterMap (nbr1 L hh)).map nbD)) ⟨_, _, _, _, rfl, s1, ⟨[], g1, RpL.nil⟩⟩ (fun i σ H' _ ⟨_, _, _, _, _, s, _⟩ => SqT.sm hxs s) ?_ ?_
    · rintro i z σ H2 hz ⟨v3, v4, v5, v6, rfl, s2, zs, hz2, rz2⟩
      have hi : i < L.rs.length := by
        have q := (List.getElem?_eq_some_iff.mp hz).1
        omega
      obtain ⟨v, ev, rv⟩ := RpL.get _ _ rx i (rdD L.rs[i]) (by rw [List.getElem?_map, List.getElem?_eq_getElem hi]; rfl)
      have ez : v = z := Option.some.inj (ev.symm.trans hz)
      subst ez
      have et : L.rs.take (i + 1) = L.rs.take i ++ [L.rs[i]] := List.take_succ_eq_append_getElem hi
      obtain ⟨t, rfl, ht⟩ := Rp.rd (Rp.tk' rv (TK.of s2))
      have okr := R.ok _ (List.getElem_mem hi)
      have ll : ((L.rs.take i).filterMap (nbr1 L hh)).length ≤ 14 := by
        have h1 := List.length_filterMap_le (nbr1 L hh) (L.rs.take i)
        rw [List.length_take] at h1
        omega
      have lz := RpL.len _ _ rz2
      rw [List.length_map] at lz
      rw [et]
      generalize L.rs[i] = r at ht okr
      rw [List.filterMap_append]
      have no : ¬ ((hh = r.a ∨ hh = r.b) ∧ (r.a, r.b) ∉ L.fallen) → [r].filterMap (nbr1 L hh) = [] := fun h => by
        rw [List.filterMap_cons]
        unfold nbr1
        rw [if_neg h]
        rfl
      refine ⟨t, _, rfl, ht, rfl, _, _, rfl, _, _, rfl, _, _, rfl, _, _, rfl, rfl, ?_⟩
      refine ⟨_, rfl, _, rfl, _, rfl, (by show 2 ≤ sizeLine; decide), fun p1 n_p1 => ?_⟩
      obtain ⟨H3, e_H3, s3, g3⟩ := new_any n_p1
      rw [← e_H3]
      clear e_H3
      refine ⟨p1, [.int r.a, .int r.b], rfl, .inr (SqT.of g3), rfl, rfl, _, rfl, ?_⟩
      have ein : inV (.int (hh : Int)) [.int (r.a : Int), .int (r.b : Int)] = decide (hh = r.a ∨ hh = r.b) := by
        have := inV_int (k := (hh : Int)) [(r.a : Int), r.b]
        rw [List.map_cons, List.map_cons, List.map_nil] at this
        rw [this]
        refine decide_eq_decide.mpr ?_
        simp only [List.mem_cons, List.not_mem_nil, or_false]
        omega
      dsimp only
      rw [ein]
      refine iteP (fun c => ?_) (fun c => iteF ⟨_, _, _, _, rfl, s2.trans s3, ⟨zs, s3 _ _ hz2, ?_⟩⟩)
      rotate_left
      · rw [no (fun z => c z.1), List.append_nil]
        exact RpL.tk' rz2 (TK.of s3)
      refine ⟨_, rfl, _, rfl, (by show 2 ≤ sizeLine; decide), fun p2 n_p2 => ?_⟩
      obtain ⟨H4, e_H4, s4, g4⟩ := new_any n_p2
      rw [← e_H4]
      clear e_H4
      have s24 := s3.trans s4
      have s04 := s2.trans s24
      refine ⟨_, rfl, l, C, dx, _, _, rfl, s04 _ _ h1, T.cl, T.fallen, rfl, fa, _, rfl, DGet.t (k := pk (r.a, r.b)) (s04 _ _ h3) g4, _, rfl, ?_⟩
      rw [fkv_some]
      refine iteNP (fun c2 => ?_) (fun c2 => ⟨_, _, _, _, rfl, s04, ⟨zs, s24 _ _ hz2, ?_⟩⟩)
      rotate_left
      · rw [no (fun z => z.2 c2), List.append_nil]
        exact RpL.tk' rz2 (TK.of s24)
      have hz4 := s24 _ _ hz2
      refine ⟨_, rfl, .inl ⟨rfl, _, SqL.of hz4⟩, _, rfl, _, rfl, _, _, rfl, rfl, _, rfl, _, _, rfl, rfl, _, rfl, _, rfl, (by show 3 ≤ sizeLine; decide), fun p3 n_p3 => ?_⟩
      have ea : (r.a : Int) + r.b - hh = ((r.a + r.b - hh : Nat) : Int) := by
        unfold RdOk at okr
        omega
      dsimp only
      rw [ea]
      have rz4 : RpL K H4 (((L.rs.take i).filterMap (nbr1 L hh)).map nbD) zs := RpL.tk' rz2 (TK.of s24)
      obtain ⟨q1, q2, q3, q4⟩ := push_tup (ds := [.int ((r.a + r.b - hh : Nat) : Int), .int r.delay, .int r.size]) hz4 rz4 n_p3 (RpL.cons Rp.int (RpL.cons Rp.int (RpL.cons Rp.int RpL.nil)))
      refine ⟨fo, _, _, rfl, rfl, q1, Nat.lt_of_le_of_lt (show zs.length ≤ 1000 by omega) (by decide), ?_⟩
      refine ⟨_, _, _, _, rfl, fun b o e => q4 b o (nin1 (ne_of_none e n_fo)) (s04 _ _ e), ?_⟩
      have e1 : [r].filterMap (nbr1 L hh) = [(r.a + r.b - hh, r.delay, r.size)] := by
        rw [List.filterMap_cons]
        unfold nbr1
        rw [if_pos ⟨c, c2⟩]
        rfl
      rw [e1, List.map_append]
      exact q2
    · rintro σ H2 ⟨v3, v4, v5, v6, rfl, s2, zs, hz2, rz2⟩
      rw [lx, List.take_length] at rz2
      have rz2 : RpL K H2 ((nbrs L hh).map nbD) zs := rz2
      have lz := RpL.len _ _ rz2
      rw [List.length_map] at lz
      have ll : (nbrs L hh).length ≤ 14 := by
        have h1 := List.length_filterMap_le (nbr1 L hh) L.rs
        unfold nbrs
        omega
      have inv : ∀ (i : Nat) (x : V), zs[i]? = some x → ∃ (q : Nat × Nat × Nat) (u : Addr), (nbrs L hh)[i]? = some q ∧ x = .ref u ∧ SqT K H2 u ([(q.1 : Int), q.2.1, q.2.2].map V.int) := fun i x e => by
        have hi : i < (nbrs L hh).length := by
          have := (List.getElem?_eq_some_iff.mp e).1
          omega
        obtain ⟨v, ev, rv⟩ := RpL.get _ _ rz2 i (nbD (nbrs L hh)[i]) (by rw [List.getElem?_map, List.getElem?_eq_getElem hi]; rfl)
        have ex : v = x := Option.some.inj (ev.symm.trans e)
        subst ex
        refine ⟨(nbrs L hh)[i], ?_⟩
        unfold nbD Rp at rv
        obtain ⟨u, ys, rfl, hu', ry⟩ := rv
        unfold RpL at ry
        obtain ⟨v0, r0, rfl, h0, ry⟩ := ry
        unfold RpL at ry
        obtain ⟨v1, r1, rfl, h1, ry⟩ := ry
        unfold RpL at ry
        obtain ⟨v2, r2, rfl, h2, ry⟩ := ry
        unfold RpL at ry
        subst ry
        rw [Rp.int_eq h0, Rp.int_eq h1, Rp.int_eq h2] at hu'
        exact ⟨u, List.getElem?_eq_getElem hi, rfl, hu'⟩
      refine ⟨_, rfl, fo, zs, rfl, SqL.of hz2, by omega, fun x hx => ?_, fun ys p perm srt n_p => ?_⟩
      · obtain ⟨i, hi, e⟩ := List.mem_iff_getElem.mp hx
        obtain ⟨q, u, eq, rfl, hq⟩ := inv i x (by rw [List.getElem?_eq_getElem hi, e])
        have bd := nbr_bd R (List.mem_of_getElem? eq)
        refine ⟨[(q.1 : Int), q.2.1, q.2.2], ⟨u, rfl, hq⟩, rfl, fun m hm => ?_⟩
        simp only [List.mem_cons, List.not_mem_nil, or_false] at hm
        omega
      have same : ys = zs := by
        refine sorted_self (lt := fun x y => ∃ n m, TupI K H2 x n ∧ TupI K H2 y m ∧ TS.code 100 n < TS.code 100 m) ?_ perm srt ?_
        · rintro x y ⟨n, m, h1, h2, h3⟩ h4
          have := h4 m n h2 h1
          omega
        · rw [List.pairwise_iff_getElem]
          intro i j hi hj hij
          obtain ⟨q, u, eq, e1, hq⟩ := inv i zs[i] (List.getElem?_eq_getElem hi)
          obtain ⟨q', u', eq', e1', hq'⟩ := inv j zs[j] (List.getElem?_eq_getElem hj)
          rw [e1, e1']
          refine ⟨_, _, ⟨u, rfl, hq⟩, ⟨u', rfl, hq'⟩, ?_⟩
          have bd := nbr_bd R (List.mem_of_getElem? eq)
          have bd' := nbr_bd R (List.mem_of_getElem? eq')
          have up := nbrs_up R hh
          rw [List.pairwise_map, List.pairwise_iff_getElem] at up
          have hi' := (List.getElem?_eq_some_iff.mp eq).1
          have hj' := (List.getElem?_eq_some_iff.mp eq').1
          have lt := up i j hi' hj' hij
          rw [(List.getElem?_eq_some_iff.mp eq).2, (List.getElem?_eq_some_iff.mp eq').2] at lt
          rw [code3, code3]
          omega
      subst same
      obtain ⟨H3, e_H3, s3, g3⟩ := new_any n_p
      rw [← e_H3]
      clear e_H3
      refine ⟨p, ys, rfl, .inl ⟨SqL.of g3, fun t n_t => ?_⟩⟩
      generalize e_H4 : upd _ t _ = H4
      obtain ⟨s4, r4⟩ := new_tup (K := K) n_t e_H4 (by walk_at "rpl")
      clear e_H4
      exact k H4 t (by walk_at "same") r4
end
end Wn

namespace Wn
open PySem L2
theorem rd_lt {m : Nat} {rs : List Rd} (R : RdsOk m rs) {i j : Nat} (hi : i < rs.length) (hj : j < rs.length) (h : i < j) : rdLt rs[i] rs[j] := List.pairwise_iff_getElem.mp R.up i j hi hj h
theorem rd_inj {m : Nat} {rs : List Rd} (R : RdsOk m rs) {i j : Nat} (hi : i < rs.length) (hj : j < rs.length) (e : (rs[i].a, rs[i].b) = (rs[j].a, rs[j].b)) : i = j := by
  rw [Prod.mk.injEq] at e
  rcases Nat.lt_trichotomy i j with h | h | h
  · have := rd_lt R hi hj h
    unfold rdLt at this
    omega
  · exact h
  · have := rd_lt R hj hi h
    unfold rdLt at this
    omega
theorem pairOf_at {m : Nat} {rs : List Rd} (R : RdsOk m rs) {r : Rd} (h : r ∈ rs) : pairOf rs r.a r.b = some (r.a, r.b) ∧ pairOf rs r.b r.a = some (r.a, r.b) := by
  have o1 := R.ok r h
  unfold RdOk at o1
  constructor
  · unfold pairOf
    cases e : rs.find? fun s => decide ((((s.a : Int) = (r.a : Int) ∧ (s.b : Int) = (r.b : Int)) ∨ ((s.a : Int) = (r.b : Int) ∧ (s.b : Int) = (r.a : Int)))) with
    | none =>
      have := List.find?_eq_none.mp e r h
      simp at this
    | some s =>
      have h1 := List.find?_some e
      have o2 := R.ok s (List.mem_of_find?_eq_some e)
      unfold RdOk at o2
      have h1 := of_decide_eq_true h1
      show some (s.a, s.b) = _
      rw [show s.a = r.a by omega, show s.b = r.b by omega]
  · unfold pairOf
    cases e : rs.find? fun s => decide ((((s.a : Int) = (r.b : Int) ∧ (s.b : Int) = (r.a : Int)) ∨ ((s.a : Int) = (r.a : Int) ∧ (s.b : Int) = (r.b : Int)))) with
    | none =>
      have := List.find?_eq_none.mp e r h
      simp at this
    | some s =>
      have h1 := List.find?_some e
      have o2 := R.ok s (List.mem_of_find?_eq_some e)
      unfold RdOk at o2
      have h1 := of_decide_eq_true h1
      show some (s.a, s.b) = _
      rw [show s.a = r.a by omega, show s.b = r.b by omega]
theorem up_len (L : Lan) : (upOf L).length = L.rs.length := by unfold upOf; rw [List.length_map]
theorem up_at {L : Lan} {i : Nat} (hi : i < L.rs.length) : (upOf L)[i]? = some (!decide ((L.rs[i].a, L.rs[i].b) ∈ L.fallen)) := by
  unfold upOf
  rw [List.getElem?_map, List.getElem?_eq_getElem hi]
  rfl
theorem up_fall {L : Lan} (R : RdsOk L.m L.rs) {i : Nat} (hi : i < L.rs.length) : upOf { L with fallen := L.fallen ++ [(L.rs[i].a, L.rs[i].b)] } = (upOf L).set i false := by
  refine List.ext_getElem? fun j => ?_
  rw [List.getElem?_set, up_len]
  by_cases hj : j < L.rs.length
  · rw [up_at (L := { L with fallen := L.fallen ++ [(L.rs[i].a, L.rs[i].b)] }) hj, up_at hj]
    by_cases c : i = j
    · subst c
      rw [if_pos rfl, if_pos hi]
      simp
    · rw [if_neg c]
      have : ¬ (L.rs[j].a, L.rs[j].b) = (L.rs[i].a, L.rs[i].b) := fun z => c (rd_inj R hj hi z).symm
      simp only [List.mem_append, List.mem_singleton, this, or_false]
  · rw [List.getElem?_eq_none (by rw [up_len]; exact Nat.le_of_not_lt hj)]
    rw [if_neg (by omega), List.getElem?_eq_none (by rw [up_len]; exact Nat.le_of_not_lt hj)]
theorem up_rise {L : Lan} (R : RdsOk L.m L.rs) {i : Nat} (hi : i < L.rs.length) : upOf { L with fallen := L.fallen.filter fun q => decide (q ≠ (L.rs[i].a, L.rs[i].b)) } = (upOf L).set i true := by
  refine List.ext_getElem? fun j => ?_
  rw [List.getElem?_set, up_len]
  by_cases hj : j < L.rs.length
  · rw [up_at (L := { L with fallen := L.fallen.filter fun q => decide (q ≠ (L.rs[i].a, L.rs[i].b)) }) hj, up_at hj]
    by_cases c : i = j
    · subst c
      rw [if_pos rfl, if_pos hi]
      simp
    · rw [if_neg c]
      have : ¬ (L.rs[j].a, L.rs[j].b) = (L.rs[i].a, L.rs[i].b) := fun z => c (rd_inj R hj hi z).symm
      simp only [List.mem_filter, decide_eq_true_eq, ne_eq, this, not_false_eq_true, and_true]
  · rw [List.getElem?_eq_none (by rw [up_len]; exact Nat.le_of_not_lt hj)]
    rw [if_neg (by omega), List.getElem?_eq_none (by rw [up_len]; exact Nat.le_of_not_lt hj)]
/-- all roads up -/
theorem up_all (m : Nat) (rs : List Rd) : upOf ⟨m, rs, []⟩ = List.replicate rs.length true := by
  refine List.ext_getElem? fun j => ?_
  by_cases hj : j < rs.length
  · rw [up_at (L := ⟨m, rs, []⟩) hj, List.getElem?_replicate, if_pos hj]
    rfl
  · rw [List.getElem?_eq_none (by rw [up_len]; exact Nat.le_of_not_lt hj), List.getElem?_replicate, if_neg hj]
/-- which roads fall ahead -/
def offIx (bs : List Bool) (n : Nat) : List Nat := (List.range n).filter fun i => !(bs.getD i true)
theorem up_off {m : Nat} {rs : List Rd} (R : RdsOk m rs) {bs : List Bool} (lb : bs.length = rs.length) : upOf ⟨m, rs, (offIx bs rs.length).map fun i => (rs.getD i ⟨0, 0, 0, 0⟩ |> fun r => (r.a, r.b))⟩ = bs := by
  refine List.ext_getElem? fun j => ?_
  by_cases hj : j < rs.length
  · rw [up_at (L := ⟨m, rs, _⟩) hj, List.getElem?_eq_getElem (by omega)]
    congr 1
    have key : ((rs[j].a, rs[j].b) ∈ (offIx bs rs.length).map fun i => (rs.getD i ⟨0, 0, 0, 0⟩ |> fun r => (r.a, r.b))) ↔ bs[j] = false := by
      rw [List.mem_map]
      constructor
      · rintro ⟨i, hi, e⟩
        unfold offIx at hi
        rw [List.mem_filter, List.mem_range] at hi
        rw [List.getD_eq_getElem?_getD, List.getElem?_eq_getElem hi.1] at e
        have := rd_inj R hi.1 hj e
        subst this
        have h2 := hi.2
        rw [List.getD_eq_getElem?_getD, List.getElem?_eq_getElem (by omega)] at h2
        simpa using h2
      · intro hb
        refine ⟨j, ?_, ?_⟩
        · unfold offIx
          rw [List.mem_filter, List.mem_range]
          refine ⟨hj, ?_⟩
          rw [List.getD_eq_getElem?_getD, List.getElem?_eq_getElem (by omega)]
          simp [hb]
        · rw [List.getD_eq_getElem?_getD, List.getElem?_eq_getElem hj]
          rfl
    simp only [key]
    cases bs[j] <;> rfl
  · rw [List.getElem?_eq_none (by rw [up_len]; exact Nat.le_of_not_lt hj), List.getElem?_eq_none (by omega)]
theorem off_nodup (bs : List Bool) (n : Nat) : (offIx bs n).Nodup := (List.nodup_range (n := n)).filter _
theorem off_lt {bs : List Bool} {n i : Nat} (h : i ∈ offIx bs n) : i < n := by
  unfold offIx at h
  rw [List.mem_filter, List.mem_range] at h
  exact h.1
theorem roadsIn {m : Nat} {rs : List Rd} (R : RdsOk m rs) (bs : List Bool) : RoadsIn m (rs.zip bs) := fun p hp => by
  have := R.ok p.1 (List.of_mem_zip hp).1
  unfold RdOk at this
  omega
end Wn

namespace Wn
open PySem L2
open SX (S S_len S_cat S_beq_eq join_S)
/-! ### a ground as it stands, and what deeds make of it -/
abbrev LT := Nat × Nat × List Nat
structure Pl where
  beat : Nat
  many : Nat
  m : List (Int × Nat)
abbrev Drp := Nat × Str × Nat
structure Gd where
  L : Lan
  X : Mx
  clock : Nat
  run : List (Int × LT)
  mov : List (Int × Fr)
  pil : List (Int × Pl)
  ml : Nat
  mf : Nat
  lost : List Drp
def textOfM (m : List (Int × Nat)) : List Nat := (sortI (m.map (·.1))).map fun k => (lookA m k).getD 0
def Gd.lets (G : Gd) : List Int := G.mov.map (fun kv => (kv.2.lt : Int)) ++ G.pil.map (·.1)
def Gd.forget (G : Gd) : Gd := { G with run := G.run.filter fun kv => decide (kv.1 ∈ G.lets) }
def Gd.drop (G : Gd) (why : Str) (l : Nat) : Gd := { G with lost := G.lost ++ [(G.clock, why, l)] }
def putPart (f0 : Fr) (b : Nat) (G : Gd) (p : Part) : Gd := { G with mf := G.mf + 1, mov := putA G.mov G.mf { f0 with num := G.mf, fst := b + p.1, sg := p.2 } }
def onRoad (f : Fr) (house : Nat) (r : Nat × Nat × Nat) : Fr := { f with hops := f.hops - 1, st := some house, en := some r.1, left := r.2.1, sg := ((cutP f.sg r.2.2).headD (0, [])).2 }
def Gd.putOn (G : Gd) (f : Fr) (house : Nat) (r : Nat × Nat × Nat) : Gd := (cutP f.sg r.2.2).tail.foldl (putPart (onRoad f house r) f.fst) { G with mov := putA G.mov f.num (onRoad f house r) }
def Gd.setOut (G : Gd) (f : Fr) (house : Nat) : Gd := match lookA G.run f.lt with
  | none => G
  | some t => if f.hops = 0 then G.drop "hops" f.lt else match nextOf G.L G.X house t.2.1 with
    | none => G.drop "noway" f.lt
    | some th => match (nbrs G.L house).filter fun q => decide (q.1 = th) with
      | [] => G
      | r :: _ => G.putOn f house r
abbrev Wh := Nat × Nat × Nat × List Nat
def Gd.pile (G : Gd) (f : Fr) (t : LT) : Pl :=
  let p := (lookA G.pil f.lt).getD ⟨G.clock, t.2.2.length, []⟩
  { p with m := addFrom p.m f.fst f.sg }
def Gd.join (G : Gd) (f : Fr) (w : List Wh) : Gd × List Wh := match lookA G.run f.lt with
  | none => (G, w)
  | some t => if (G.pile f t).m.length = (G.pile f t).many then ({ G with pil := dropA G.pil f.lt }, w ++ [(f.lt, t.1, t.2.1, textOfM (G.pile f t).m)])
    else ({ G with pil := putA G.pil f.lt (G.pile f t) }, w)
def Gd.arrive (G : Gd) (f : Fr) (w : List Wh) : Gd × List Wh := match lookA G.run f.lt, f.en with
  | some t, some e => if e = t.2.1 then G.join f w else (G.setOut f e, w)
  | _, _ => (G, w)
def Gd.double (G : Gd) (f : Fr) : Gd := { G with mf := G.mf + 1, mov := putA G.mov G.mf { f with num := G.mf } }
def Gd.onward (G : Gd) (f : Fr) (w : List Wh) : Gd × List Wh :=
  let f' := { f with left := f.left - 1 }
  if f'.left = 0 then Gd.arrive { G with mov := dropA G.mov f.num } f' w else ({ G with mov := putA G.mov f.num f' }, w)
def Gd.goOn (G : Gd) (f : Fr) (word : Str) (w : List Wh) : Gd × List Wh :=
  if word = "lose" then (Gd.drop { G with mov := dropA G.mov f.num } "lost" f.lt, w)
  else if word = "hold" then (G, w)
  else if word = "double" then (G.double f).onward f w
  else G.onward f w
def Gd.turnX (G : Gd) : Gd := { G with X := turn (G.L.rs.zip (upOf G.L)) G.X }
def goOn1 (words : Int → Str) (s : Gd × List Wh) (k : Int) : Gd × List Wh := match lookA s.1.mov k with
  | none => s
  | some f => s.1.goOn f (words k) s.2
def brk1 (G : Gd) (k : Int) : Gd := match lookA G.pil k with
  | none => G
  | some p => if p.beat + 6 ≤ G.clock then Gd.drop { G with pil := dropA G.pil k } "broken" k.toNat else G
def Gd.stepS (G : Gd) (words : Int → Str) : Gd × List Wh := (sortI (G.mov.map (·.1))).foldl (goOn1 words) ({ G with clock := G.clock + 1 }, [])
def Gd.step (G : Gd) (words : Int → Str) : Gd := ((sortI ((G.stepS words).1.pil.map (·.1))).foldl brk1 (G.stepS words).1.turnX).forget
def Gd.told (G : Gd) (words : Int → Str) : List Wh := (G.stepS words).2
def onPair (f : Fr) (a b : Nat) : Bool := decide ((f.st = some a ∧ f.en = some b) ∨ (f.st = some b ∧ f.en = some a))
def fall1 (a b : Nat) (G : Gd) (k : Int) : Gd := match lookA G.mov k with
  | none => G
  | some f => if onPair f a b then Gd.drop { G with mov := dropA G.mov k } "fallen" f.lt else G
def Gd.fall (G : Gd) (a b : Nat) : Gd :=
  let G1 := { G with L := { G.L with fallen := G.L.fallen ++ [(min a b, max a b)] } }
  ((sortI (G.mov.map (·.1))).foldl (fall1 a b) G1).forget
def Gd.rise (G : Gd) (a b : Nat) : Gd := { G with L := { G.L with fallen := G.L.fallen.filter fun q => decide (q ≠ (min a b, max a b)) } }
def Gd.send (G : Gd) (s e : Nat) (t : List Nat) : Gd :=
  (Gd.setOut { G with ml := G.ml + 1, mf := G.mf + 1, run := putA G.run G.ml (s, e, t) } ⟨G.mf, G.ml, 0, t, 8, none, none, 0⟩ s).forget
/-! what keeps it whole -/
structure FrOk (m mf : Nat) (run : List (Int × LT)) (f : Fr) : Prop where
  num : f.num < mf
  run : ∃ t, lookA run f.lt = some t
  left : 1 ≤ f.left
  en : ∃ e, f.en = some e ∧ e < m
  st : ∃ e, f.st = some e ∧ e < m
  sg : 1 ≤ f.sg.length ∧ f.sg.length ≤ 1000
structure LtOk (m : Nat) (t : LT) : Prop where
  s : t.1 < m
  e : t.2.1 < m
  l : 1 ≤ t.2.2.length ∧ t.2.2.length ≤ 1000
  c : ∀ x ∈ t.2.2, x < 0x110000
end Wn

namespace Wn
open PySem L2
open SX (S S_len S_cat S_beq_eq join_S)
abbrev sHInit : Stmt := (inClass (top 53) 0)
abbrev sHAdd : Stmt := (inClass (top 53) 1)
abbrev sHPlaces : Stmt := (inClass (top 53) 2)
abbrev sHIs : Stmt := (inClass (top 53) 3)
abbrev sHText : Stmt := (inClass (top 53) 4)
abbrev sHCopy : Stmt := (inClass (top 53) 5)
theorem many_signs : (("many" : Str) == "signs") = false := by decide +kernel
theorem signs_many : (("signs" : Str) == "many") = false := by decide +kernel
theorem many_signs' : ¬ (("many" : Str) = "signs") := by decide +kernel
def hf (n : Int) (q : Addr) : List (Str × V) := [("many", .int n), ("signs", .ref q)]
theorem hf_many {n : Int} {q : Addr} : (hf n q).lookup ("many" : Str) = some (.int n) := by
  unfold hf
  simp only [List.lookup, beq_self_eq_true]
theorem hf_signs {n : Int} {q : Addr} : (hf n q).lookup ("signs" : Str) = some (.ref q) := by
  unfold hf
  simp only [List.lookup, signs_many, beq_self_eq_true]
theorem hf_ne {n : Int} {q : Addr} {m : Str} (h1 : (m == "many") = false) (h2 : (m == "signs") = false) : (hf n q).lookup m = none := by
  unfold hf
  simp only [List.lookup, h1, h2]
theorem hf_put {n : Int} {q q' : Addr} : putF "signs" (.ref q') (hf n q) = hf n q' := by
  show (if ("many" : Str) = "signs" then _ else (("many" : Str), V.int n) :: (if ("signs" : Str) = "signs" then (("signs" : Str), V.ref q') :: [] else _)) = _
  rw [if_neg many_signs', if_pos rfl]
  rfl
theorem hf_new {n : Int} {q : Addr} : putF "signs" (.ref q) (putF "many" (.int n) []) = hf n q := by
  show (if ("many" : Str) = "signs" then _ else (("many" : Str), V.int n) :: putF "signs" (.ref q) []) = _
  rw [if_neg many_signs']
  rfl
def HeapAt (K : PySem.W.Frag) (C : Addr) (H : Hp) (p q : Addr) (n : Int) (m : List (Int × Nat)) : Prop := (∃ dx, H p = some (.ins C dx (hf n q))) ∧ DictAt signD K H q m
section
variable {K : PySem.W.Frag} {C : Addr} {H H' : Hp} {p q : Addr} {n : Int} {m : List (Int × Nat)}
theorem HeapAt.kp {M : List Addr} (h : HeapAt K C H p q n m) (k : Kp M H H') (t : TK H H') (n1 : p ∉ M) (n2 : q ∉ M) : HeapAt K C H' p q n m := by
  obtain ⟨⟨dx, a⟩, b⟩ := h
  exact ⟨⟨dx, k _ _ n1 a⟩, b.kp k t n2⟩
theorem HeapAt.same (h : HeapAt K C H p q n m) (s : Same H H') : HeapAt K C H' p q n m := h.kp (M := []) (Kp.of s) (TK.of s) (by simp) (by simp)
theorem HeapAt.lst {d : Addr} {zs : List V} (h : HeapAt K C H p q n m) (k : Kp [d] H H') (t : TK H H') (hd : H d = some (.lst zs)) : HeapAt K C H' p q n m := by
  obtain ⟨⟨dx, a⟩, kv, b, _⟩ := id h
  exact h.kp k t (nin1 (ne_of a hd (by intro z; cases z))) (nin1 (ne_of b hd (by intro z; cases z)))
end
def placesD (m : List (Int × Nat)) : PyData := .tuple ((sortI (m.map (·.1))).map PyData.int)
def textOf (m : List (Int × Nat)) : List Nat := (sortI (m.map (·.1))).map fun k => (lookA m k).getD 0
def spHInit (K : PySem.W.Frag) (C : Addr) : Sp := fun vs H Q _ => ∃ (p dx : Addr) (n : Int), vs = [.ref p, .int n] ∧ H p = some (.ins C dx []) ∧
  ∀ (H' : Hp) (q : Addr), H q = none → Kp [p] H H' → HeapAt K C H' p q n [] → Q .non H'
def spHAdd (K : PySem.W.Frag) (C : Addr) : Sp := fun vs H Q _ => ∃ (p q : Addr) (n : Int) (m : List (Int × Nat)) (f : Nat) (cs : List Nat), vs = [.ref p, .int (f : Int), .str (S cs)] ∧ HeapAt K C H p q n m ∧ m.length + cs.length ≤ 1000000 ∧
  ∀ (H' : Hp), Kp [q] H H' → HeapAt K C H' p q n (addFrom m f cs) → Q .non H'
def spHPlaces (K : PySem.W.Frag) (C : Addr) : Sp := fun vs H Q _ => ∃ (p q : Addr) (n : Int) (m : List (Int × Nat)), vs = [.ref p] ∧ HeapAt K C H p q n m ∧
  ∀ (H' : Hp) (v : V), Same H H' → Rp K H' (placesD m) v → Q v H'
def spHIs (K : PySem.W.Frag) (C : Addr) : Sp := fun vs H Q _ => ∃ (p q : Addr) (n : Int) (m : List (Int × Nat)), vs = [.ref p] ∧ HeapAt K C H p q n m ∧ Q (.bl (decide ((m.length : Int) = n))) H
def spHText (K : PySem.W.Frag) (C : Addr) : Sp := fun vs H Q _ => ∃ (p q : Addr) (n : Int) (m : List (Int × Nat)), vs = [.ref p] ∧ HeapAt K C H p q n m ∧ m.length ≤ 100000 ∧
  ∀ (H' : Hp), Same H H' → Q (.str (S (textOf m))) H'
def spHCopy (K : PySem.W.Frag) (C : Addr) : Sp := fun vs H Q _ => ∃ (p q : Addr) (n : Int) (m : List (Int × Nat)), vs = [.ref p] ∧ HeapAt K C H p q n m ∧
  ∀ (H' : Hp) (p' q' : Addr), H p' = none → H q' = none → Same H H' → HeapAt K C H' p' q' n m → Q (.ref p') H'
structure TH (K : PySem.W.Frag) (mg : Str → Option Value) (C : Addr) : Prop where
  cl : Cls K C
  nM : NoAttr K C "many"
  nS : NoAttr K C "signs"
  mgC : mg "Heap" = some (.ref C)

section
variable {P : Program} {w : World} {K : PySem.W.Frag} {mg : Str → Option Value} {base : Heap}
theorem scHInit : FnScope ["self", "whole"] ["self", "whole"] (defScope sHInit) := ⟨rfl, rfl, rfl, by decide +kernel, rfl, by decide +kernel, by decide +kernel⟩
theorem ok_hinit {f C : Addr} {fd : FuncData} (F : Fun K "__init__" "Heap.__init__" sHInit f fd) (T : TH K mg C) : FnOk P w K mg base CX0 1 f fd ["self", "whole"] (spHInit K C) := by
  refine F.ok scHInit (fun vs H Q E h => ?_) (fun cdv A outer s H vs Q E hr h => ?_)
  · obtain ⟨p, dx, n, rfl, _⟩ := h
    rfl
  · obtain ⟨p, dx, n, rfl, hp, k⟩ := h
    refine ⟨_, (pss_cons (ps_fld (pv 0) (pv 1) rfl)
       (pss_one (ps_fld (pv 0) pe_dnewK rfl))), ?_⟩
    refine ⟨_, rfl, _, rfl, p, C, dx, [], rfl, hp, T.cl, T.nM, (by show 0 < 1000; decide), ?_⟩
    intro q hq
    have npq : p ≠ q := ne_of_none upd_same hq
    have hq0 : H q = none := by
      rw [upd_ne npq.symm] at hq
      exact hq
    refine ⟨_, rfl, p, C, dx, _, rfl, (upd_ne npq).trans upd_same, T.cl, T.nS, (by show 1 < 1000; decide), ?_⟩
    rw [hf_new]
    exact k _ q hq0 ((((Kp.refl [p] H).wr (List.mem_singleton.mpr rfl)).new hq).wr (List.mem_singleton.mpr rfl)) ⟨⟨dx, upd_same⟩, [], by rw [upd_ne npq.symm, upd_same], rfl⟩
theorem scHAdd : FnScope ["self", "first", "signs", "at", "sign"] ["self", "first", "signs"] (defScope sHAdd) := ⟨rfl, rfl, rfl, by decide +kernel, rfl, by decide +kernel, by decide +kernel⟩
theorem ok_hadd {f C : Addr} {fd : FuncData} (F : Fun K "add" "Heap.add" sHAdd f fd) (T : TH K mg C) (B : CB mg) : FnOk P w K mg base CX0 1 f fd ["self", "first", "signs"] (spHAdd K C) := by
  refine F.ok scHAdd (fun vs H Q E h => ?_) (fun cdv A outer s H vs Q E hr h => ?_)
  · obtain ⟨p, q, n, m, f, cs, rfl, _⟩ := h
    rfl
  · obtain ⟨p, q, n, m, f, cs, rfl, hH, hl, k⟩ := h
    have hu := hu_of hr
    refine ⟨_, (pss_one (ps_for PassesOwn.never rfl (pi_enumS (by rfl) B.enumerate (pa_cons (pv 2) pa_nil)) (pg_tup rfl (pgs_cons (pg_name (i := 3) scHAdd.nd rfl (Or.inl rfl)) (pgs_cons (pg_name (i := 4) scHAdd.nd rfl (Or.inl rfl)) pgs_nil)))
       (pss_one (ps_dput hu (fldK (K := K) rfl (pv 0) rfl) (pe_op op_add (pv 1) (pv 3)) (pv 4) rfl)))), ?_⟩
    refine ⟨_, rfl, _, rfl, ?_⟩
    refine for_it (walk_enumS (x := S cs)) (fun l σ H' => ∃ (v3 v4 : Option V), σ = [some (.ref p), some (.int (f : Int)), some (.str (S cs)), v3, v4] ∧ Kp [q] H H' ∧ HeapAt K C H' p q n (addFrom m f (cs.take l)))
      ⟨_, _, rfl, Kp.refl _ _, hH⟩ (fun _ _ _ _ _ => trivial) ?_ ?_
    · rintro l y σ H4 H5 hl' ⟨v3, v4, rfl, k4, hH4⟩ ⟨T', c, rfl, nT, rfl, hc⟩
      have hc : cs[l]? = some c := by
        have : (cs.toArray)[l]? = some c := hc
        rw [List.getElem?_toArray] at this
        exact this
      have hlc := (List.getElem?_eq_some_iff.mp hc).1
      have s45 : Same H4 (upd H4 T' (.tup [.int (l : Nat), .str ⟨#[c]⟩])) := (L2.Same.refl _).new nT
      have hT5 : upd H4 T' (.tup [.int (l : Nat), .str ⟨#[c]⟩]) T' = some (.tup [.int (l : Nat), .str ⟨#[c]⟩]) := upd_same
      generalize upd H4 T' (.tup [.int (l : Nat), .str ⟨#[c]⟩]) = H5 at s45 hT5
      obtain ⟨⟨dx, hp5⟩, kvs, hk5, rk5⟩ := hH4.same s45
      have e0 : ((f : Nat) : Int) + ((l : Nat) : Int) = ((f + l : Nat) : Int) := by omega
      have ll := addFrom_len m f (cs.take l)
      rw [List.length_take] at ll
      have dp : DPut H5 q (.int (((f : Nat) : Int) + ((l : Nat) : Int))) (.str ⟨#[c]⟩) (upd H5 q (.dK (putK kvs (Sum.inl ((f + l : Nat) : Int)) (.str ⟨#[c]⟩)))) := by
        rw [e0]
        exact DPut.k (k := Sum.inl ((f + l : Nat) : Int)) hk5 (by rw [rk5.len]; exact Nat.lt_of_le_of_lt (show _ ≤ 1000000 by omega) (by decide))
      have tE : TK H5 (upd H5 q (.dK (putK kvs (Sum.inl ((f + l : Nat) : Int)) (.str ⟨#[c]⟩)))) := (TK.refl _).wr hk5 rfl
      have hne : p ≠ q := ne_of hp5 hk5 (by intro z; cases z)
      refine ⟨T', _, rfl, SqT.of hT5, rfl, _, _, rfl, _, _, rfl, rfl, ?_⟩
      refine ⟨_, rfl, _, rfl, p, C, dx, _, _, rfl, hp5, T.cl, T.nS, hf_signs, _, rfl, _, rfl, _, _, rfl, rfl, q, _, rfl, dp, ?_⟩
      have et : addFrom m f (cs.take (l + 1)) = putA (addFrom m f (cs.take l)) ((f + l : Nat) : Int) c := by
        rw [List.take_succ_eq_append_getElem hlc, addFrom_snoc, List.length_take, Nat.min_eq_left (by omega)]
        rw [List.getElem?_eq_getElem hlc] at hc
        rw [Option.some.inj hc]
      refine ⟨_, _, rfl, (k4.trans (Kp.of s45)).wr (List.mem_singleton.mpr rfl), ⟨⟨dx, (upd_ne hne).trans hp5⟩, _, upd_same, ?_⟩⟩
      rw [et]
      exact (rk5.put (x := c) Rp.str).tk tE
    · rintro σ H4 ⟨v3, v4, rfl, k4, hH4⟩
      have el : (S cs).cps.size = cs.length := by simp
      rw [el, List.take_length] at hH4
      exact k H4 k4 hH4
theorem scHPlaces : FnScope ["self"] ["self"] (defScope sHPlaces) := ⟨rfl, rfl, rfl, by decide +kernel, rfl, by decide +kernel, by decide +kernel⟩
theorem ok_hplaces {f C : Addr} {fd : FuncData} (F : Fun K "places" "Heap.places" sHPlaces f fd) (T : TH K mg C) (B : CB mg) : FnOk P w K mg base CX0 1 f fd ["self"] (spHPlaces K C) := by
  refine F.ok scHPlaces (fun vs H Q E h => ?_) (fun cdv A outer s H vs Q E hr h => ?_)
  · obtain ⟨p, q, n, m, rfl, _⟩ := h
    rfl
  · obtain ⟨p, q, n, m, rfl, ⟨⟨dx, hp⟩, kvs, hq, hm⟩, k⟩ := h
    refine ⟨_, (pss_one (ps_ret (pe_callTy (tupOfK (K := K) rfl) (by rfl) B.tuple PyProof.Rows.boot_tuple (pa_cons (pe_callB (sortIK (K := K) rfl) (by rfl) B.sorted (by decide +kernel) (pa_cons (pe_callTy (call_listD rfl) (by rfl) B.list (by decide +kernel) (pa_cons (fldK (K := K) rfl (pv 0) rfl) pa_nil)) pa_nil)) pa_nil)))), ?_⟩
    refine ⟨_, rfl, p, C, dx, _, _, rfl, hp, T.cl, T.nS, hf_signs, q, kvs, rfl, .inl hq, fun l hl => ?_⟩
    have s1 : Same H (upd H l (.lst (kvs.map fun kv => kV kv.1))) := (L2.Same.refl H).new hl
    refine ⟨l, m.map (·.1), rfl, SqL.of (by rw [upd_same, hm.keys]), fun ns' S' perm rising hS => ?_⟩
    have hns : ns' = sortI (m.map (·.1)) := sortI_eq perm rising
    have s2 := s1.new (o := .lst (ns'.map V.int)) hS
    refine ⟨S', _, rfl, .inl ⟨SqL.of upd_same, fun t ht => ?_⟩⟩
    refine k _ _ (s2.new ht) (Rp.tup upd_same ?_)
    rw [hns]
    have : ∀ (H : Hp) (ns : List Int), RpL K H (ns.map PyData.int) (ns.map V.int) := fun H ns => by
      induction ns with
      | nil => exact RpL.nil
      | cons n ns ih => exact RpL.cons Rp.int ih
    exact this _ _
theorem scHIs : FnScope ["self"] ["self"] (defScope sHIs) := ⟨rfl, rfl, rfl, by decide +kernel, rfl, by decide +kernel, by decide +kernel⟩
theorem ok_his {f C : Addr} {fd : FuncData} (F : Fun K "is_whole" "Heap.is_whole" sHIs f fd) (T : TH K mg C) (B : CB mg) : FnOk P w K mg base CX0 1 f fd ["self"] (spHIs K C) := by
  refine F.ok scHIs (fun vs H Q E h => ?_) (fun cdv A outer s H vs Q E hr h => ?_)
  · obtain ⟨p, q, n, m, rfl, _⟩ := h
    rfl
  · obtain ⟨p, q, n, m, rfl, ⟨⟨dx, hp⟩, kvs, hq, hm⟩, k⟩ := h
    refine ⟨_, (pss_one (ps_ret (pe_cmpR op_eq (pe_callB call_lenD (by rfl) B.len PySem.boot_len (pa_cons (fldK (K := K) rfl (pv 0) rfl) pa_nil)) (fldK (K := K) rfl (pv 0) rfl) (nomark _)))), ?_⟩
    refine ⟨_, rfl, p, C, dx, _, _, rfl, hp, T.cl, T.nS, hf_signs, q, kvs, rfl, hq, _, rfl, p, C, dx, _, _, rfl, hp, T.cl, T.nM, hf_many, rfl, ?_⟩
    show Q (.bl (decide (V.int ((kvs.length : Nat) : Int) = V.int n))) H
    rw [show decide (V.int ((kvs.length : Nat) : Int) = V.int n) = decide ((m.length : Int) = n) from decide_eq_decide.mpr (by rw [V.int.injEq, hm.len])]
    exact k
theorem scHText : FnScope ["self", "at"] ["self"] (defScope sHText) := ⟨rfl, rfl, rfl, by decide +kernel, rfl, by decide +kernel, by decide +kernel⟩
theorem ok_htext {f C : Addr} {fd : FuncData} (F : Fun K "text" "Heap.text" sHText f fd) (T : TH K mg C) (B : CB mg) (tP : Md P w K mg base 1 C "places" ["self"] (spHPlaces K C)) : FnOk P w K mg base CX0 2 f fd ["self"] (spHText K C) := by
  obtain ⟨fP, fdP, GP, mP, bP⟩ := tP
  refine F.ok scHText (fun vs H Q E h => ?_) (fun cdv A outer s H vs Q E hr h => ?_)
  · obtain ⟨p, q, n, m, rfl, _⟩ := h
    rfl
  · obtain ⟨p, q, n, m, rfl, hH, hl, k⟩ := h
    have hu := hu_of hr
    have hr1 : Room 1 _ := hr
    refine ⟨_, (pss_one (ps_ret (joinK (K := K) rfl pe_str (pe_lc (own := [("at", 1)]) (g := (gName 1)) (tt := tYes) rfl scHText.nd (pi_tup (pe_meth0 (pv 0) T.cl mP GP hr1 bP .nil pass0)) (blkOk_by (N := ["self", "at"]) (sc := defScope sHText) (by decide +kernel))
       (fun _ _ _ _ _ => (pg_name (i := 1) scHText.nd rfl (Or.inl rfl))) (fun _ _ _ _ _ => pts_nil) (fun _ _ _ _ _ => (pe_dget hu (fldK (K := K) rfl (pv 0) rfl) (pv 1) (fun _ _ => rfl))))))), ?_⟩
    obtain ⟨⟨dx, hp⟩, _⟩ := id hH
    refine ⟨⟨_, rfl⟩, ?_⟩
    refine ⟨_, rfl, p, dx, _, rfl, hp, hf_ne (by decide +kernel) (by decide +kernel), p, q, n, m, rfl, hH, fun H1 v s1 rv => ?_⟩
    unfold placesD Rp at rv
    obtain ⟨a, xs, rfl, ha, rl⟩ := rv
    have ex := rl.ints
    subst ex
    refine ⟨a, rfl, ⟨_, ha⟩, fun D hD => ?_⟩
    have lk : (sortI (m.map (·.1))).length = m.length := by rw [(sortI_perm _).length_eq, List.length_map]
    refine mapD_it (K := K) (walk_tup (K := K) (a := a) (xs := (sortI (m.map (·.1))).map V.int)) (enc := PyData.int) (fun H' s' => SqT.tk ha (TK.of s')) (fun k => signD ((lookA m k).getD 0)) rl hD (by omega) ?_ ?_
    · intro b x H' Q' hb rb s' hQ
      unfold Rp at rb
      subst rb
      obtain ⟨⟨dx', hp'⟩, kvs, hk', rk'⟩ := hH.same (s1.trans s')
      have hb' : b ∈ m.map (·.1) := (sortI_perm _).mem_iff.mp hb
      have g := DGet.k (k := Sum.inl b) hk'
      rcases rk'.val (k := b) with ⟨e1, e2⟩ | ⟨y, u, e1, e2, r⟩
      · obtain ⟨z, e3, _⟩ := lookA_mem hb'
        rw [e1] at e3
        cases e3
      · rw [e2] at g
        refine ⟨_, rfl, p, C, dx', _, _, rfl, hp', T.cl, T.nS, hf_signs, _, rfl, q, _, rfl, g, hQ _ _ (L2.Same.refl _) ?_⟩
        rw [e1]
        exact r
    intro H2 ys s2 hD2 rD2
    have ey : ys = ((textOf m).map fun c => S [c]).map V.str := by
      unfold textOf
      rw [List.map_map, List.map_map]
      have : ∀ (ks : List Int) (ys : List V), RpL K H2 (ks.map fun k => signD ((lookA m k).getD 0)) ys → ys = ks.map (fun k => V.str (S [(lookA m k).getD 0])) := fun ks => by
        induction ks with
        | nil => intro ys h; unfold List.map RpL at h; exact h
        | cons k' ks ih =>
          intro ys h
          rw [List.map_cons] at h
          unfold RpL at h
          obtain ⟨v, r, rfl, h1, h2⟩ := h
          unfold signD Rp at h1
          rw [ih r h2, h1]
          rfl
      exact this _ _ rD2
    subst ey
    refine ⟨_, D, (textOf m).map fun c => S [c], rfl, rfl, .inl (SqL.of hD2), ?_, ?_⟩
    · have lt : (textOf m).length = m.length := by unfold textOf; rw [List.length_map, lk]
      rw [sum_signs, List.length_map, lt]
      show m.length + m.length * 0 ≤ _
      omega
    · rw [show (Txt.join (Str.ofString "") ((textOf m).map fun c => S [c])) = S (textOf m) from join_signs _]
      exact k H2 (s1.trans s2)
theorem scHCopy : FnScope ["self", "found"] ["self"] (defScope sHCopy) := ⟨rfl, rfl, rfl, by decide +kernel, rfl, by decide +kernel, by decide +kernel⟩
theorem ok_hcopy {f C fI : Addr} {fd fdI : FuncData} (F : Fun K "copy" "Heap.copy" sHCopy f fd) (T : TH K mg C) (B : CB mg) (M : Mk K C fI) (GI : FnOk P w K mg base CX0 1 fI fdI ["self", "whole"] (spHInit K C)) (bI : Binds K fdI ["self", "whole"] []) : FnOk P w K mg base CX0 3 f fd ["self"] (spHCopy K C) := by
  refine F.ok scHCopy (fun vs H Q E h => ?_) (fun cdv A outer s H vs Q E hr h => ?_)
  · obtain ⟨p, q, n, m, rfl, _⟩ := h
    rfl
  · obtain ⟨p, q, n, m, rfl, ⟨⟨dx, hp⟩, kvs, hq, hm⟩, k⟩ := h
    have hr2 : Room 2 _ := hr
    refine ⟨_, (pss_cons (ps_set (i := 1) scHCopy.nd rfl (Or.inl rfl) (pe_make M GI hr2 rfl T.mgC bI .nil pass0 (pa_cons (fldK (K := K) rfl (pv 0) rfl) pa_nil)))
       (pss_cons (ps_fld (pv 1) (pe_callTy call_dictD (by rfl) B.dict (by decide +kernel) (pa_cons (fldK (K := K) rfl (pv 0) rfl) pa_nil)) rfl)
       (pss_one (ps_ret (pv 1))))), ?_⟩
    refine ⟨_, rfl, p, C, dx, _, _, rfl, hp, T.cl, T.nM, hf_many, ?_⟩
    intro x dy nx ndy nex
    have s0 : Same H (upd (upd H dy (.own x)) x (.ins C dy [])) := ((L2.Same.refl H).new ndy).new (by rw [upd_ne nex.symm]; exact nx)
    refine ⟨x, dy, n, rfl, upd_same, fun H1 q1 nq1 k1 ⟨⟨dz, hx1⟩, _⟩ => ?_⟩
    have s1 : Same H H1 := fun b o e => k1 b o (nin1 (ne_of_none e nx)) (s0 b o e)
    refine ⟨rfl, _, rfl, p, C, dx, _, _, rfl, s1 _ _ hp, T.cl, T.nS, hf_signs, q, kvs, rfl, .inl (s1 _ _ hq), fun q2 hq2 => ?_⟩
    have hx2 : upd H1 q2 (.dK kvs) x = some (.ins C dz (hf n q1)) := by
      rw [upd_ne (ne_of_none hx1 hq2)]
      exact hx1
    have nxq : x ≠ q2 := ne_of_none hx1 hq2
    refine ⟨_, rfl, x, C, dz, _, rfl, hx2, T.cl, T.nS, (by show 2 < 1000; decide), ?_⟩
    refine ⟨_, rfl, ?_⟩
    rw [hf_put]
    have s2 : Same H (upd (upd H1 q2 (.dK kvs)) x (.ins C dz (hf n q2))) := (s1.new hq2).wrn nx
    refine k _ x q2 nx (s1.free hq2) s2 ⟨⟨dz, upd_same⟩, kvs, ?_, hm.tk (TK.of s2)⟩
    rw [upd_ne nxq.symm, upd_same]
end
end Wn

set_option maxHeartbeats 800000
namespace Wn
open PySem L2
set_option pp.maxSteps 700
set_option pp.deepTerms false
local macro_rules | `(tactic| walk_at "h") => `(tactic| first | with_reducible assumption | (with_reducible exact upd_same) | (with_reducible apply g_upd; (walk_at "neq"); (walk_at "h")) | (with_reducible apply g_same; (with_reducible assumption); (walk_at "h")) | (with_reducible apply g_kp; (with_reducible assumption); (walk_at "nin"); (walk_at "h")) | (with_reducible apply g_tk; (with_reducible assumption); (walk_at "h")))
local macro_rules | `(tactic| walk_at "neq") => `(tactic| first | with_reducible assumption | (with_reducible apply Ne.symm; with_reducible assumption) | (with_reducible apply ne_upd; (with_reducible assumption)) | (with_reducible apply Ne.symm; with_reducible apply ne_upd; with_reducible assumption) | (with_reducible apply ne_fr; (with_reducible assumption); (walk_at "h")) | (with_reducible apply ne_fr'; (with_reducible assumption); (walk_at "h")) | (with_reducible apply ne_kd; (walk_at "h"); (walk_at "h"); (with_unfolding_all (intro z; cases z))))
local macro_rules | `(tactic| walk_at "nin") => `(tactic| first | (with_reducible exact nin0) | with_reducible assumption | (with_reducible apply ninc; (walk_at "neq"); (walk_at "nin")))
local macro_rules | `(tactic| walk_at "none") => `(tactic| first | with_reducible assumption | (with_reducible apply n_upd; (with_reducible assumption)) | (with_reducible apply n_same; (with_reducible assumption); (walk_at "none")) | (with_reducible apply n_kp; (with_reducible assumption); (walk_at "nin"); (walk_at "none")))
local macro_rules | `(tactic| walk_at "mem") => `(tactic| first | (with_reducible exact List.mem_cons_self) | (with_reducible apply List.mem_cons_of_mem; (walk_at "mem")))
local macro_rules | `(tactic| walk_at "am") => `(tactic| first | (with_reducible exact am0) | (with_reducible apply am1; (first | (apply Or.inl; walk_at "mem") | (apply Or.inr; walk_at "none")); (walk_at "am")))
local macro_rules | `(tactic| walk_at "tk") => `(tactic| first | (with_reducible exact TK.refl _) | with_reducible assumption | (with_reducible apply t_tk; (with_reducible assumption); (walk_at "tk")) | (with_reducible apply t_same; (with_reducible assumption); (walk_at "tk")) | (with_reducible apply t_new; (with_reducible assumption); (walk_at "tk")) | (with_reducible apply t_wr; (walk_at "h"); (with_unfolding_all rfl); (walk_at "tk")))
local macro_rules | `(tactic| walk_at "same") => `(tactic| first | (with_reducible exact L2.Same.refl _) | with_reducible assumption | (with_reducible apply s_same; (with_reducible assumption); (walk_at "same")) | (with_reducible apply s_new; (with_reducible assumption); (walk_at "same")) | (with_reducible apply s_wrn; (walk_at "none"); (walk_at "same")))
local macro_rules | `(tactic| walk_at "kp") => `(tactic| first | (with_reducible exact Kp.refl _ _) | with_reducible assumption | (with_reducible apply k_same; (with_reducible assumption); (walk_at "kp")) | (with_reducible apply k_kp; (with_reducible assumption); (walk_at "kp")) | (with_reducible apply k_kpm; (with_reducible assumption); (walk_at "am"); (walk_at "kp")) | (with_reducible apply k_new; (with_reducible assumption); (walk_at "kp")) | (with_reducible apply k_wr; (walk_at "mem"); (walk_at "kp")) | (with_reducible apply k_wrn; (walk_at "none"); (walk_at "kp")))
local macro_rules | `(tactic| walk_at "rp") => `(tactic| first | with_reducible assumption | (with_reducible exact Rp.int) | (with_reducible exact Rp.str) | (with_reducible exact Rp.none) | (with_reducible exact Rp.bool) | (with_reducible apply Rp.tk'; (with_reducible assumption); (walk_at "tk")) | (with_reducible apply Rp.tup; (walk_at "h"); (walk_at "rpl")))
local macro_rules | `(tactic| walk_at "rpl") => `(tactic| first | with_reducible assumption | (with_reducible exact RpL.nil) | (with_reducible apply RpL.tk'; (with_reducible assumption); (walk_at "tk")) | (with_reducible apply RpL.cons; (walk_at "rp"); (walk_at "rpl")))
local macro_rules | `(tactic| walk_at "g") => `(tactic| repeat (first | refine ⟨_, rfl, ?_⟩ | refine ⟨_, _, rfl, rfl, ?_⟩ | refine ⟨rfl, _, rfl, ?_⟩ | refine ⟨_, _, rfl, rfl, (by first | decide | omega), ?_⟩))
abbrev sNear : Stmt := top 55
abbrev sTRow : Stmt := top 56
abbrev sTAll : Stmt := top 57
structure FB (mg : Str → Option Value) : Prop where
  range : mg "range" = none
  zip : mg "zip" = none
  len : mg "len" = none
  min : mg "min" = none
  tuple : mg "tuple" = none
def ndD (p : Nat × Nat) : PyData := .tuple [.int p.1, .int p.2]
/-- for each house a list of (house, delay) -/
structure NearAt (K : PySem.W.Frag) (H : Hp) (a : Addr) (ls : List Addr) (near : Nat → List (Nat × Nat)) : Prop where
  l : H a = some (.lst (ls.map V.ref))
  nd : ls.Nodup
  at' : ∀ (h : Nat) (p : Addr), ls[h]? = some p → LstAt K H p ((near h).map ndD)
theorem NearAt.same {K : PySem.W.Frag} {H H' : Hp} {a : Addr} {ls : List Addr} {near : Nat → List (Nat × Nat)} (h : NearAt K H a ls near) (s : Same H H') : NearAt K H' a ls near :=
  ⟨s _ _ h.l, h.nd, fun i p e => (h.at' i p e).same s⟩
def rowD (X : Mx) (m h : Nat) : PyData := .tuple ((List.range m).map fun o => .int (X h o))
def gridD (X : Mx) (m : Nat) : List PyData := (List.range m).map (rowD X m)
def rdsIn {m : Nat} {rs : List Rd} {bs : List Bool} (R : RdsOk m rs) : RoadsIn m (rs.zip bs) := fun p hp => by
  have o := R.ok p.1 (List.of_mem_zip hp).1
  unfold RdOk at o
  omega
def spNear (K : PySem.W.Frag) : Sp := fun vs H Q _ => ∃ (m : Nat) (rs : List Rd) (bs : List Bool) (la ua : Addr), vs = [.int m, .ref la, .ref ua] ∧ TupAt K H la (rs.map rdD) ∧ TupAt K H ua (bs.map PyData.bool) ∧ bs.length = rs.length ∧ RdsOk m rs ∧
  ∀ (H' : Hp) (a : Addr) (ls : List Addr), Same H H' → ls.length = m → NearAt K H' a ls (nearOf (rs.zip bs)) → Q (.ref a) H'
def spTRow (K : PySem.W.Frag) : Sp := fun vs H Q _ => ∃ (m h : Nat) (rs : List (Rd × Bool)) (X : Mx) (na ga : Addr) (ls : List Addr), vs = [.ref na, .ref ga, .int h] ∧ NearAt K H na ls (nearOf rs) ∧ ls.length = m ∧ m ≤ 8 ∧ rs.length ≤ 14 ∧ RoadsIn m rs ∧ h < m ∧ TupAt K H ga (gridD X m) ∧
  ∀ (H' : Hp) (a : Addr), Same H H' → Rp K H' (rowD (turn rs X) m h) (.ref a) → Q (.ref a) H'
def spTAll (K : PySem.W.Frag) : Sp := fun vs H Q _ => ∃ (m : Nat) (rs : List (Rd × Bool)) (X : Mx) (na ga : Addr) (ls : List Addr), vs = [.ref na, .ref ga] ∧ NearAt K H na ls (nearOf rs) ∧ ls.length = m ∧ m ≤ 8 ∧ rs.length ≤ 14 ∧ RoadsIn m rs ∧ TupAt K H ga (gridD X m) ∧
  ∀ (H' : Hp) (a : Addr), Same H H' → TupAt K H' a (gridD (turn rs X) m) → Q (.ref a) H'

theorem near_snoc (rs : List (Rd × Bool)) (p : Rd × Bool) (h : Nat) : nearOf (rs ++ [p]) h = nearOf rs h ++ near1 h p := by
  unfold nearOf
  rw [List.flatMap_append]
  simp
theorem NearAt.push {K : PySem.W.Frag} {G : Hp} {fo p t : Addr} {ls : List Addr} {near : Nat → List (Nat × Nat)} {h : Nat} {q : Nat × Nat} {zs : List V} (N : NearAt K G fo ls near) (e : ls[h]? = some p) (npf : p ≠ fo) (hz : G p = some (.lst zs)) (rz : RpL K G ((near h).map ndD) zs) (nt : G t = none) :
    upd G t (.tup [.int (q.1 : Int), .int (q.2 : Int)]) p = some (.lst zs) ∧ NearAt K (upd (upd G t (.tup [.int (q.1 : Int), .int (q.2 : Int)])) p (.lst (zs ++ [.ref t]))) fo ls (fun x => if x = h then near h ++ [q] else near x) ∧ Kp [p] G (upd (upd G t (.tup [.int (q.1 : Int), .int (q.2 : Int)])) p (.lst (zs ++ [.ref t]))) ∧ TK G (upd (upd G t (.tup [.int (q.1 : Int), .int (q.2 : Int)])) p (.lst (zs ++ [.ref t]))) := by
  obtain ⟨q1, q2, q3, q4⟩ := push_tup (ds := [.int (q.1 : Int), .int (q.2 : Int)]) hz rz nt (RpL.cons Rp.int (RpL.cons Rp.int RpL.nil))
  refine ⟨q1, ⟨q4 _ _ (nin1 npf.symm) N.l, N.nd, fun x r er => ?_⟩, q4, q3⟩
  by_cases c : x = h
  · subst c
    rw [e] at er
    cases er
    simp only [if_true]
    rw [List.map_append]
    exact q2
  · simp only [if_neg c]
    refine (N.at' x r er).kp q4 q3 (nin1 fun z => ?_)
    subst z
    have h1 := (List.getElem?_eq_some_iff.mp e)
    have h2 := (List.getElem?_eq_some_iff.mp er)
    exact c ((List.getElem_inj N.nd).mp (h2.choose_spec.trans h1.choose_spec.symm))
section
variable {P : Program} {w : World} {K : PySem.W.Frag} {mg : Str → Option Value} {base : Heap}
theorem scNear : FnScope ["houses", "roads", "up", "found", "row", "stands", "house"] ["houses", "roads", "up"] (defScope sNear) := ⟨rfl, rfl, rfl, by decide +kernel, rfl, by decide +kernel, by decide +kernel⟩
theorem ok_near {f : Addr} {fd : FuncData} (F : Fun K "near_rows" "near_rows" sNear f fd) (B : FB mg) : FnOk P w K mg base CX0 1 f fd ["houses", "roads", "up"] (spNear K) := by
  refine F.ok scNear (fun vs H Q E h => ?_) (fun cdv A outer s H vs Q E hr h => ?_)
  · obtain ⟨m, rs, bs, la, ua, rfl, _⟩ := h
    rfl
  · obtain ⟨m, rs, bs, la, ua, rfl, hL, hU, lb, R, k⟩ := h
    refine ⟨_, (pss_cons (ps_setLc (i := 3) (own := [("house", 6)]) (g := (gName 6)) (tt := tYes) rfl scNear.nd rfl rfl (sw_true rfl rfl rfl (by decide +kernel)) (pi_range1 rfl B.range (pa_cons (pv 0) pa_nil)) (blkOk_by (N := ["houses", "roads", "up", "found", "row", "stands", "house"]) (sc := defScope sNear) (by decide +kernel))
       (fun _ _ _ _ _ => (pg_name (i := 6) scNear.nd rfl (Or.inl rfl))) (fun _ _ _ _ _ => pts_nil) (fun _ _ _ _ _ => (pe_lst pa_nil)))
       (pss_cons (ps_for PassesOwn.never rfl (RZ.pi_zipA (by rfl) B.zip (pa_cons (pv 1) (pa_cons (pv 2) pa_nil))) (pg_tup rfl (pgs_cons (pg_name (i := 4) scNear.nd rfl (Or.inl rfl)) (pgs_cons (pg_name (i := 5) scNear.nd rfl (Or.inl rfl)) pgs_nil)))
       (pss_one (ps_if (pt_val (pv 5))
       (pss_cons (ps_expr (pe_bm PySem.F.plainAttrs_list PySem.F.slot_list_append PySem.F.type_list_append mt_append (pe_ix (ixL (K := K) rfl) (pv 3) (pe_ix (ixT (K := K) rfl) (pv 4) pe_int (fun _ _ => rfl)) (fun _ _ => rfl)) (pa_cons (pe_tup (pa_cons (pe_ix (ixT (K := K) rfl) (pv 4) pe_int (fun _ _ => rfl)) (pa_cons (pe_ix (ixT (K := K) rfl) (pv 4) pe_int (fun _ _ => rfl)) pa_nil))) pa_nil)))
       (pss_one (ps_expr (pe_bm PySem.F.plainAttrs_list PySem.F.slot_list_append PySem.F.type_list_append mt_append (pe_ix (ixL (K := K) rfl) (pv 3) (pe_ix (ixT (K := K) rfl) (pv 4) pe_int (fun _ _ => rfl)) (fun _ _ => rfl)) (pa_cons (pe_tup (pa_cons (pe_ix (ixT (K := K) rfl) (pv 4) pe_int (fun _ _ => rfl)) (pa_cons (pe_ix (ixT (K := K) rfl) (pv 4) pe_int (fun _ _ => rfl)) pa_nil))) pa_nil)))))
       pss_nil)))
       (pss_one (ps_ret (pv 3))))), ?_⟩
    obtain ⟨xs, hxs, rx⟩ := hL.inv
    obtain ⟨us, hus, ru⟩ := hU.inv
    have eu := RpL.bools ru
    subst eu
    have lx := RpL.len _ _ rx
    rw [List.length_map] at lx
    have lr := R.few
    have m8 := R.m8
    refine ⟨_, rfl, m, rfl, by omega, by omega, fun fo n_fo => ?_⟩
    refine lc_it walk_range (fun j H' => ∃ ls : List Addr, Same H H' ∧ ls.length = j ∧ H' fo = some (.lst (ls.map V.ref)) ∧ ls.Nodup ∧ ∀ p ∈ ls, H' p = some (.lst []) ∧ H p = none ∧ p ≠ fo) ⟨[], (L2.Same.refl _).new n_fo, rfl, upd_same, List.nodup_nil, fun p hp => by cases hp⟩ (fun _ _ _ _ => trivial) ?_ ?_
    · rintro j x H1 H1' hj ⟨ls, s1, l1, g1, nd1, al1⟩ ⟨rfl, rfl⟩
      refine ⟨rfl, tYes_t (iteT ?_)⟩
      refine ⟨Nat.zero_le _, fun p n_p => ?_⟩
      obtain ⟨H2, e_H2, s2, g2⟩ := new_any n_p
      rw [← e_H2]
      clear e_H2
      have hj : j < m := by simpa using hj
      have npf : p ≠ fo := by walk_at "neq"
      refine ⟨_, s2 _ _ g1, Nat.lt_of_le_of_lt (by rw [List.length_map]; show ls.length ≤ 8; omega) (by decide), ls ++ [p], (s1.trans s2).wrn n_fo, by rw [List.length_append, l1]; rfl, by rw [upd_same, List.map_append]; rfl, ?_, ?_⟩
      · refine List.nodup_append.mpr ⟨nd1, List.nodup_cons.mpr ⟨List.not_mem_nil, List.nodup_nil⟩, fun a ha b hb e => ?_⟩
        rw [List.mem_singleton.mp hb] at e
        exact ne_of_none (al1 a ha).1 n_p e
      · intro q hq
        rcases List.mem_append.mp hq with hq | hq
        · obtain ⟨a1, a2, a3⟩ := al1 q hq
          exact ⟨(upd_ne a3).trans (s2 _ _ a1), a2, a3⟩
        · rw [List.mem_singleton.mp hq]
          exact ⟨(upd_ne npf).trans g2, n_same s1 n_p, npf⟩
    · rintro H1 ⟨ls, s1, l1, g1, nd1, al1⟩
      have l1 : ls.length = m := by simpa using l1
      have al : ∀ p ∈ ls, H p = none ∧ p ≠ fo := fun p hp => (al1 p hp).2
      refine ⟨_, rfl, _, rfl, la, ua, xs, _, rfl, .inr ⟨SqT.sm hxs s1, SqT.sm hus s1, ?_⟩⟩
      have lxu : xs.length = (bs.map V.bl).length := by rw [List.length_map, lx, lb]
      refine RZ.for_zipT lxu (fun i σ H' => ∃ v4 v5 : Option V, σ = [some (.int m), some (.ref la), some (.ref ua), some (.ref fo), v4, v5, none] ∧ Same H H' ∧ NearAt K H' fo ls (nearOf ((rs.zip bs).take i))) ⟨_, _, rfl, s1, ⟨g1, nd1, fun h p e => ⟨[], (al1 p (List.mem_of_getElem? e)).1, RpL.nil⟩⟩⟩ (fun i σ H' ⟨_, _, _, s, _⟩ => ⟨SqT.sm hxs s, SqT.sm hus s⟩) ?_ ?_
      · rintro i x y T σ H2 hx hy ⟨v4, v5, rfl, s2, N2⟩ n_T
        have hi : i < rs.length := by
          have := (List.getElem?_eq_some_iff.mp hx).1
          omega
        have hib : i < bs.length := by omega
        obtain ⟨v, ev, rv⟩ := RpL.get _ _ rx i (rdD rs[i]) (by rw [List.getElem?_map, List.getElem?_eq_getElem hi]; rfl)
        have ex : v = x := Option.some.inj (ev.symm.trans hx)
        subst ex
        have ey : y = .bl bs[i] := by
          rw [List.getElem?_map, List.getElem?_eq_getElem hib] at hy
          exact (Option.some.inj hy).symm
        subst ey
        have et : (rs.zip bs).take (i + 1) = (rs.zip bs).take i ++ [(rs[i], bs[i])] := by
          have hz : i < (rs.zip bs).length := by rw [List.length_zip]; omega
          rw [List.take_succ_eq_append_getElem hz, List.getElem_zip]
        have okr := R.ok _ (List.getElem_mem hi)
        rw [et]
        generalize bs[i] = b
        generalize rs[i] = r at rv okr
        obtain ⟨G1, eG1, sG, gT⟩ := new_any (o := .tup [v, .bl b]) n_T
        rw [← eG1]
        clear eG1
        obtain ⟨t, rfl, ht⟩ := Rp.rd (Rp.tk' rv (TK.of (s2.trans sG)))
        have NG := N2.same sG
        have s0G := s2.trans sG
        refine ⟨T, _, rfl, SqT.of gT, rfl, _, _, rfl, _, _, rfl, rfl, ?_⟩
        refine ⟨_, rfl, _, rfl, iteB (fun c => ?_) (fun c => ?_)⟩
        · subst c
          unfold RdOk at okr
          have ha : r.a < ls.length := by omega
          have hb : r.b < ls.length := by omega
          have ea : ls[r.a]? = some ls[r.a] := List.getElem?_eq_getElem ha
          have eb : ls[r.b]? = some ls[r.b] := List.getElem?_eq_getElem hb
          have nab : ls[r.b] ≠ ls[r.a] := fun z => by
            have := (List.getElem_inj NG.nd).mp z
            omega
          obtain ⟨nA, fA⟩ := al _ (List.getElem_mem ha)
          obtain ⟨nB, fB⟩ := al _ (List.getElem_mem hb)
          generalize ls[r.a] = pa at ea nab nA fA
          generalize ls[r.b] = pb at eb nab nB fB
          have lnear : ∀ h, (nearOf ((rs.zip bs).take i) h).length ≤ 28 := fun h => by
            unfold nearOf
            rw [List.length_flatMap]
            have h1 : ∀ l : List (Rd × Bool), ((l.map fun p => (near1 h p).length).sum) ≤ 2 * l.length := fun l => by
              induction l with
              | nil => exact Nat.zero_le _
              | cons p l ih =>
                rw [List.map_cons, List.sum_cons, List.length_cons]
                have : (near1 h p).length ≤ 2 := by
                  unfold near1
                  split
                  · rw [List.length_append]
                    split <;> split <;> simp
                  · exact Nat.zero_le _
                omega
            have h2 := h1 ((rs.zip bs).take i)
            rw [List.length_take, List.length_zip] at h2
            omega
          obtain ⟨za, hza, rza⟩ := NG.at' _ _ ea
          have lza := RpL.len _ _ rza
          rw [List.length_map] at lza
          have la28 := lnear r.a
          have refa : atI (ls.map V.ref) (r.a : Int) = some (.ref pa) := atI_nat (by rw [List.getElem?_map, ea]; rfl)
          have refb : atI (ls.map V.ref) (r.b : Int) = some (.ref pb) := atI_nat (by rw [List.getElem?_map, eb]; rfl)
          refine ⟨_, rfl, _, rfl, t, _, _, _, rfl, rfl, ht, rfl, fo, _, _, _, rfl, rfl, SqL.of NG.l, refa, .inl ⟨rfl, _, SqL.of hza⟩, _, rfl, t, _, _, _, rfl, rfl, ht, rfl, _, rfl, t, _, _, _, rfl, rfl, ht, rfl, (by show 2 ≤ sizeLine; decide), fun p1 n_p1 => ?_⟩
          obtain ⟨w1, w2, w3, w4⟩ := NG.push (q := (r.b, r.delay)) ea fA hza rza n_p1
          refine ⟨pa, za, _, rfl, rfl, w1, Nat.lt_of_le_of_lt (show za.length ≤ 1000 by omega) (by decide), ?_⟩
          have s3 : Same H (upd (upd G1 p1 (.tup [.int (r.b : Int), .int (r.delay : Int)])) pa (.lst (za ++ [.ref p1]))) := fun c o e => w3 c o (nin1 (ne_of_none e nA)) (s0G _ _ e)
          generalize upd (upd G1 p1 (.tup [.int (r.b : Int), .int (r.delay : Int)])) pa (.lst (za ++ [.ref p1])) = G2 at w2 w3 w4 s3
          have ht2 := SqT.tk ht w4
          obtain ⟨zb, hzb, rzb⟩ := w2.at' _ _ eb
          have nba : ¬ r.b = r.a := by omega
          have rzb : RpL K G2 ((nearOf ((rs.zip bs).take i) r.b).map ndD) zb := by
            simp only [if_neg nba] at rzb
            exact rzb
          have lzb := RpL.len _ _ rzb
          rw [List.length_map] at lzb
          have lb28 := lnear r.b
          refine ⟨_, rfl, _, rfl, t, _, _, _, rfl, rfl, ht2, rfl, fo, _, _, _, rfl, rfl, SqL.of w2.l, refb, .inl ⟨rfl, _, SqL.of hzb⟩, _, rfl, t, _, _, _, rfl, rfl, ht2, rfl, _, rfl, t, _, _, _, rfl, rfl, ht2, rfl, (by show 2 ≤ sizeLine; decide), fun p2 n_p2 => ?_⟩
          obtain ⟨u1, u2, u3, u4⟩ := w2.push (q := (r.a, r.delay)) eb fB hzb (by simp only [if_neg nba]; exact rzb) n_p2
          refine ⟨pb, zb, _, rfl, rfl, u1, Nat.lt_of_le_of_lt (show zb.length ≤ 1000 by omega) (by decide), ?_⟩
          refine ⟨_, _, rfl, fun c o e => u3 c o (nin1 (ne_of_none e nB)) (s3 _ _ e), ?_⟩
          have e0 : (fun x => if x = r.b then (if r.b = r.a then nearOf ((rs.zip bs).take i) r.a ++ [(r.b, r.delay)] else nearOf ((rs.zip bs).take i) r.b) ++ [(r.a, r.delay)] else (if x = r.a then nearOf ((rs.zip bs).take i) r.a ++ [(r.b, r.delay)] else nearOf ((rs.zip bs).take i) x)) = nearOf ((rs.zip bs).take i ++ [(r, true)]) := by
            funext x
            rw [near_snoc]
            unfold near1
            by_cases c1 : x = r.b
            · subst c1
              simp only [if_true, if_neg nba, if_neg (show ¬ r.a = r.b by omega), List.nil_append]
            · by_cases c2 : x = r.a
              · subst c2
                simp only [if_neg c1, if_true, if_neg nba, List.append_nil]
              · simp only [if_neg c1, if_neg c2, if_true, if_neg (show ¬ r.a = x by omega), if_neg (show ¬ r.b = x by omega), List.append_nil]
          rw [← e0]
          exact u2
        · subst c
          refine ⟨_, _, rfl, s0G, ?_⟩
          have e0 : (fun h => nearOf ((rs.zip bs).take i ++ [(r, false)]) h) = nearOf ((rs.zip bs).take i) := by
            funext h
            rw [near_snoc]
            show nearOf ((rs.zip bs).take i) h ++ [] = _
            rw [List.append_nil]
          rw [show nearOf ((rs.zip bs).take i ++ [(r, false)]) = nearOf ((rs.zip bs).take i) from e0]
          exact NG
      · rintro σ H2 ⟨v4, v5, rfl, s2, N2⟩
        refine ⟨_, rfl, k H2 fo ls s2 l1 ?_⟩
        have : (rs.zip bs).take xs.length = rs.zip bs := List.take_of_length_le (by rw [List.length_zip]; omega)
        rw [this] at N2
        exact N2
theorem near_len (rs : List (Rd × Bool)) (h : Nat) : (nearOf rs h).length ≤ 2 * rs.length := by
  unfold nearOf
  rw [List.length_flatMap]
  induction rs with
  | nil => exact Nat.zero_le _
  | cons p l ih =>
    rw [List.map_cons, List.sum_cons, List.length_cons]
    have : (near1 h p).length ≤ 2 := by
      unfold near1
      split
      · rw [List.length_append]
        split <;> split <;> simp
      · exact Nat.zero_le _
    omega
theorem min_eq {l : List Nat} {m : Int} (h1 : m ∈ (l.map fun (n : Nat) => (n : Int)) ++ [24]) (h2 : ∀ y, y ∈ (l.map fun (n : Nat) => (n : Int)) ++ [24] → m ≤ y) : m = (minL l : Nat) := by
  have a : m ≤ (minL l : Nat) := by
    rcases minL_mem l with e | e
    · rw [e]
      exact h2 24 (List.mem_append_right _ (List.mem_singleton.mpr rfl))
    · exact h2 _ (List.mem_append_left _ (List.mem_map.mpr ⟨_, e, rfl⟩))
  have b : ((minL l : Nat) : Int) ≤ m := by
    rcases List.mem_append.mp h1 with h | h
    · obtain ⟨n, hn, rfl⟩ := List.mem_map.mp h
      have := minL_le hn
      omega
    · rw [List.mem_singleton.mp h]
      have := minL_le24 l
      omega
  omega
theorem Rp.nd {H : Hp} {q : Nat × Nat} {v : V} (h : Rp K H (ndD q) v) : ∃ t, v = .ref t ∧ SqT K H t [.int q.1, .int q.2] := by
  unfold ndD Rp at h
  obtain ⟨t, ys, rfl, ht, ry⟩ := h
  unfold RpL at ry
  obtain ⟨v0, r0, rfl, h0, ry⟩ := ry
  unfold RpL at ry
  obtain ⟨v1, r1, rfl, h1, ry⟩ := ry
  unfold RpL at ry
  subst ry
  rw [Rp.int_eq h0, Rp.int_eq h1] at ht
  exact ⟨t, rfl, ht⟩
theorem Rp.ints {H : Hp} {ns : List Int} {v : V} (h : Rp K H (.tuple (ns.map PyData.int)) v) : ∃ t, v = .ref t ∧ SqT K H t (ns.map V.int) := by
  unfold Rp at h
  obtain ⟨t, ys, rfl, ht, ry⟩ := h
  rw [RpL.ints ry] at ht
  exact ⟨t, rfl, ht⟩
theorem rowD_ints (X : Mx) (m h : Nat) : rowD X m h = .tuple (((List.range m).map fun o => ((X h o : Nat) : Int)).map PyData.int) := by
  unfold rowD
  rw [List.map_map]
  rfl
/-- a row of the grid -/
theorem grid_row {H : Hp} {ga : Addr} {X : Mx} {m : Nat} (h : TupAt K H ga (gridD X m)) : ∃ xs, SqT K H ga xs ∧ xs.length = m ∧ ∀ i, i < m → ∃ t, xs[i]? = some (.ref t) ∧ SqT K H t (((List.range m).map fun o => ((X i o : Nat) : Int)).map V.int) := by
  obtain ⟨xs, hx, rx⟩ := h.inv
  have lx := RpL.len _ _ rx
  unfold gridD at lx rx
  rw [List.length_map, List.length_range] at lx
  refine ⟨xs, hx, lx, fun i hi => ?_⟩
  obtain ⟨v, ev, rv⟩ := RpL.get _ _ rx i (rowD X m i) (by rw [List.getElem?_map, List.getElem?_range hi]; rfl)
  rw [rowD_ints] at rv
  obtain ⟨t, rfl, ht⟩ := Rp.ints rv
  exact ⟨t, ev, ht⟩
theorem row_at {m o : Nat} {f : Nat → Nat} (ho : o < m) : atI (((List.range m).map fun o => ((f o : Nat) : Int)).map V.int) (o : Int) = some (.int (f o : Nat)) :=
  atI_nat (by rw [List.getElem?_map, List.getElem?_map, List.getElem?_range ho]; rfl)
theorem scTRow : FnScope ["near", "fars", "house", "found", "other", "ways", "there", "delay"] ["near", "fars", "house"] (defScope sTRow) := ⟨rfl, rfl, rfl, by decide +kernel, rfl, by decide +kernel, by decide +kernel⟩
theorem ok_trow {f : Addr} {fd : FuncData} (F : Fun K "turned_row" "turned_row" sTRow f fd) (B : FB mg) (hFAR : ∃ t, mg "FAR" = some (.int 24 t)) : FnOk P w K mg base CX0 1 f fd ["near", "fars", "house"] (spTRow K) := by
  obtain ⟨tF, mFAR⟩ := hFAR
  refine F.ok scTRow (fun vs H Q E h => ?_) (fun cdv A outer s H vs Q E hr h => ?_)
  · obtain ⟨m, h, rs, X, na, ga, ls, rfl, _⟩ := h
    rfl
  · obtain ⟨m, h, rs, X, na, ga, ls, rfl, N, lls, m8, lrs, RI, hh, hG, k⟩ := h
    refine ⟨_, (pss_cons (ps_set (i := 3) scTRow.nd rfl (Or.inl rfl) (pe_lst pa_nil))
       (pss_cons (ps_for PassesOwn.never rfl (pi_range1 rfl B.range (pa_cons (pe_callB (lenK (K := K) rfl) (by rfl) B.len PySem.boot_len (pa_cons (pv 1) pa_nil)) pa_nil)) (pg_name (i := 4) scTRow.nd rfl (Or.inr rfl))
       (pss_cons (ps_setLc (i := 5) (own := [("there", 6), ("delay", 7)]) (g := (gTup K 2 (gCons (gName 6) (gCons (gName 7) gNil)))) (tt := tYes) rfl scTRow.nd rfl rfl (sw_true rfl rfl rfl (by decide +kernel)) (pi_list (pe_ix (ixL (K := K) rfl) (pv 0) (pv 2) (fun _ _ => rfl))) (blkOk_by (N := ["near", "fars", "house", "found", "other", "ways", "there", "delay"]) (sc := defScope sTRow) (by decide +kernel))
       (fun _ _ _ _ _ => (pg_tup rfl (pgs_cons (pg_name (i := 6) scTRow.nd rfl (Or.inl rfl)) (pgs_cons (pg_name (i := 7) scTRow.nd rfl (Or.inl rfl)) pgs_nil)))) (fun _ _ _ _ _ => pts_nil) (fun _ _ _ _ _ => (pe_op op_add (pv 7) (pe_ix (ixT (K := K) rfl) (pe_ix (ixT (K := K) rfl) (pv 1) (pv 6) (fun _ _ => rfl)) (pv 4) (fun _ _ => rfl)))))
       (pss_one (ps_expr (pe_bm PySem.F.plainAttrs_list PySem.F.slot_list_append PySem.F.type_list_append mt_append (pv 3) (pa_cons (pe_ifExp (pt_cmpR op_eq (pv 4) (pv 2) (nomark _)) pe_int (pe_callB (crMinK (K := K) rfl rfl) (by rfl) B.min (by decide +kernel) (pa_cons (pe_op op_cat (pv 5) (pe_lst (pa_cons (pe_glob (v := .int 24) (by rfl) mFAR ⟨_, rfl⟩) pa_nil))) pa_nil))) pa_nil))))))
       (pss_one (ps_ret (pe_callTy (tupOfK (K := K) rfl) (by rfl) B.tuple PyProof.Rows.boot_tuple (pa_cons (pv 3) pa_nil)))))), ?_⟩
    obtain ⟨xs, hxs, lxs, rows⟩ := grid_row hG
    refine ⟨Nat.zero_le _, fun fo n_fo => ?_⟩
    obtain ⟨H1, e_H1, s1, g1⟩ := new_any n_fo
    rw [← e_H1]
    clear e_H1
    refine ⟨_, rfl, _, xs.length, rfl, .inr ⟨_, SqT.sm hxs s1, rfl⟩, xs.length, rfl, by omega, by omega, ?_⟩
    refine for_range (lo := 0) (fun i σ H' => ∃ v4 v5 : Option V, σ = [some (.ref na), some (.ref ga), some (.int h), some (.ref fo), v4, v5, none, none] ∧ Same H H' ∧ H' fo = some (.lst (((List.range i).map fun o => ((turn rs X h o : Nat) : Int)).map V.int))) ⟨_, _, rfl, s1, g1⟩ ?_ ?_
    · rintro o σ H2 ho ⟨v4, v5, rfl, s2, g2⟩
      have ho : o < m := by omega
      rw [show (0 : Int) + (o : Int) = (o : Int) by omega]
      have eh : ls[h]? = some ls[h] := List.getElem?_eq_getElem (by omega)
      obtain ⟨zs, hz, rz⟩ := (N.same s2).at' _ _ eh
      generalize ls[h] = ph at eh hz
      have refh : atI (ls.map V.ref) (h : Int) = some (.ref ph) := atI_nat (by rw [List.getElem?_map, eh]; rfl)
      have lz := RpL.len _ _ rz
      rw [List.length_map] at lz
      refine ⟨_, rfl, _, rfl, na, _, _, _, rfl, rfl, SqL.of (N.same s2).l, refh, ph, rfl, ⟨_, SqL.of hz⟩, fun D nD => ?_⟩
      refine comp_it (K := K) (enc := ndD) (L := nearOf rs h) (is := [6, 7]) (walk_list (K := K) (a := ph)) (fun H' s' => SqL.of (s' _ _ hz)) (fun _ => true) (fun p => .int ((p.2 + X p.1 o : Nat) : Int)) rz nD ?_ ?_ ?_
      · have := near_len rs h
        omega
      · intro j b x H' Q' N' hb rx s' hQ _
        obtain ⟨t, rfl, ht⟩ := Rp.nd rx
        have bi := near_in RI (List.mem_of_getElem? hb)
        refine ⟨t, _, rfl, ht, rfl, _, _, rfl, _, _, rfl, rfl, ?_⟩
        refine ⟨rfl, tYes_t (iteT ?_)⟩
        have s02 := s2.trans s'
        obtain ⟨u, eu, hu⟩ := rows b.1 bi.1
        refine ⟨_, rfl, _, rfl, _, rfl, ga, _, _, _, rfl, rfl, SqT.sm hxs s02, atI_nat eu, _, rfl, u, _, _, _, rfl, rfl, SqT.sm hu s02, row_at ho, _, _, rfl, rfl, ?_⟩
        refine hQ rfl H' _ (L2.Same.refl _) ?_
        rw [show ((b.2 + X b.1 o : Nat) : Int) = (b.2 : Int) + (X b.1 o : Int) by omega]
        exact Rp.int
      intro H3 ys s3 hD ry
      rw [filter_yes] at ry
      have ey : ys = (((nearOf rs h).map fun p => p.2 + X p.1 o).map fun (n : Nat) => (n : Int)).map V.int := by
        refine RpL.ints (K := K) (H := H3) ?_
        rw [List.map_map, List.map_map]
        exact ry
      subst ey
      have g3 := s3 _ _ g2
      have lw : ((List.range o).map fun o => ((turn rs X h o : Nat) : Int)).length = o := by rw [List.length_map, List.length_range]
      have nf : ∀ (c : Int), c = ((turn rs X h o : Nat) : Int) → ∀ H4, Same H3 H4 → ∃ l xs y, V.ref fo = .ref l ∧ [V.int c] = [y] ∧ H4 l = some (.lst xs) ∧ xs.length < sizeLine ∧ ∃ v4 v5 : Option V, [some (V.ref na), some (.ref ga), some (.int (h : Int)), some (.ref fo), some (.int (o : Int)), some (.ref D), none, none] = [some (.ref na), some (.ref ga), some (.int h), some (.ref fo), v4, v5, none, none] ∧ Same H (upd H4 l (.lst (xs ++ [y]))) ∧ upd H4 l (.lst (xs ++ [y])) fo = some (.lst (((List.range (o + 1)).map fun o => ((turn rs X h o : Nat) : Int)).map V.int)) := fun c hc H4 s4 => by
        refine ⟨fo, _, _, rfl, rfl, s4 _ _ g3, Nat.lt_of_le_of_lt (by rw [List.length_map, lw]; show o ≤ 8; omega) (by decide), _, _, rfl, ((s2.trans s3).trans s4).wrn n_fo, ?_⟩
        rw [upd_same, List.range_succ, List.map_append, List.map_append, hc]
        rfl
      refine ⟨_, rfl, .inl ⟨rfl, _, SqL.of g3⟩, _, rfl, _, rfl, rfl, _, rfl, iteI (fun c => ?_) (fun c => ?_)⟩
      · refine nf 0 ?_ H3 (L2.Same.refl _)
        unfold turn
        rw [if_pos (by omega)]
        rfl
      · refine ⟨_, rfl, (by show 1 ≤ sizeLine; decide), fun l1 n_l1 => ?_⟩
        obtain ⟨H4, e_H4, s4, g4⟩ := new_any n_l1
        rw [← e_H4]
        clear e_H4
        refine ⟨D, l1, _, _, rfl, rfl, s4 _ _ hD, g4, ?_, fun l2 n_l2 => ?_⟩
        · have := near_len rs h
          rw [List.length_map, List.length_map, List.length_map]
          exact Nat.le_trans (show _ ≤ 1000 by show (nearOf rs h).length + 1 ≤ 1000; omega) (by decide)
        rw [show ((((nearOf rs h).map fun (p : Nat × Nat) => p.2 + X p.1 o).map fun (n : Nat) => (n : Int)).map V.int) ++ [V.int 24] = ((((nearOf rs h).map fun (p : Nat × Nat) => p.2 + X p.1 o).map fun (n : Nat) => (n : Int)) ++ [24]).map V.int by rw [List.map_append]; rfl]
        obtain ⟨H5, e_H5, s5, g5⟩ := new_any n_l2
        rw [← e_H5]
        clear e_H5
        refine ⟨l2, _, rfl, SqL.of g5, by rw [List.length_append]; show 0 < _ + 1; omega, fun mn h1 h2 => ?_⟩
        refine nf mn ?_ H5 (s4.trans s5)
        rw [min_eq h1 h2]
        unfold turn
        rw [if_neg (by omega)]
    · rintro σ H2 ⟨v4, v5, rfl, s2, g2⟩
      rw [show ((xs.length : Int)).toNat = m by omega] at g2
      refine ⟨_, rfl, fo, _, rfl, .inl ⟨SqL.of g2, fun t n_t => ?_⟩⟩
      obtain ⟨H3, e3, s3, h3⟩ := new_any (o := .tup (((List.range m).map fun o => ((turn rs X h o : Nat) : Int)).map V.int)) n_t
      rw [← e3]
      refine k H3 t (s2.trans s3) ?_
      rw [rowD_ints]
      exact Rp.tup h3 (rpl_intsR _)
end
end Wn

namespace Wn
open PySem L2
/-! ### == of data without truths is sameness -/
mutual
def nob : PyData → Bool
  | .none | .int _ | .str _ => true
  | .bool _ | .dict _ => false
  | .list xs | .tuple xs => nobs xs
def nobs : List PyData → Bool
  | [] => true
  | x :: xs => nob x && nobs xs
end
mutual
theorem eqv_nob : ∀ (d e : PyData), nob d = true → nob e = true → (PyData.eqv d e = true ↔ d = e)
  | .none, .none, _, _ => ⟨fun _ => rfl, fun _ => rfl⟩
  | .int i, .int j, _, _ => by
    show (i == j) = true ↔ _
    rw [beq_iff_eq, PyData.int.injEq]
  | .str i, .str j, _, _ => by
    show (i == j) = true ↔ _
    rw [beq_iff_eq, PyData.str.injEq]
  | .list xs, .list ys, h1, h2 => by
    show PyData.eqvAll xs ys = true ↔ _
    rw [eqv_nobs xs ys h1 h2, PyData.list.injEq]
  | .tuple xs, .tuple ys, h1, h2 => by
    show PyData.eqvAll xs ys = true ↔ _
    rw [eqv_nobs xs ys h1 h2, PyData.tuple.injEq]
  | .bool _, _, h, _ => by cases h
  | .dict _, _, h, _ => by cases h
  | .none, .bool _, _, h | .int _, .bool _, _, h | .str _, .bool _, _, h | .list _, .bool _, _, h | .tuple _, .bool _, _, h => by cases h
  | .none, .dict _, _, h | .int _, .dict _, _, h | .str _, .dict _, _, h | .list _, .dict _, _, h | .tuple _, .dict _, _, h => by cases h
  | .none, .int _, _, _ | .none, .str _, _, _ | .none, .list _, _, _ | .none, .tuple _, _, _ => ⟨(fun h => by cases h), (fun h => by cases h)⟩
  | .int _, .none, _, _ | .int _, .str _, _, _ | .int _, .list _, _, _ | .int _, .tuple _, _, _ => ⟨(fun h => by cases h), (fun h => by cases h)⟩
  | .str _, .none, _, _ | .str _, .int _, _, _ | .str _, .list _, _, _ | .str _, .tuple _, _, _ => ⟨(fun h => by cases h), (fun h => by cases h)⟩
  | .list _, .none, _, _ | .list _, .int _, _, _ | .list _, .str _, _, _ | .list _, .tuple _, _, _ => ⟨(fun h => by cases h), (fun h => by cases h)⟩
  | .tuple _, .none, _, _ | .tuple _, .int _, _, _ | .tuple _, .str _, _, _ | .tuple _, .list _, _, _ => ⟨(fun h => by cases h), (fun h => by cases h)⟩
theorem eqv_nobs : ∀ (ds es : List PyData), nobs ds = true → nobs es = true → (PyData.eqvAll ds es = true ↔ ds = es)
  | [], [], _, _ => ⟨fun _ => rfl, fun _ => rfl⟩
  | d :: ds, e :: es, h1, h2 => by
    unfold nobs at h1 h2
    rw [Bool.and_eq_true] at h1 h2
    show (PyData.eqv d e && PyData.eqvAll ds es) = true ↔ _
    rw [Bool.and_eq_true, eqv_nob d e h1.1 h2.1, eqv_nobs ds es h1.2 h2.2, List.cons.injEq]
  | [], _ :: _, _, _ => ⟨(fun h => by cases h), (fun h => by cases h)⟩
  | _ :: _, [], _, _ => ⟨(fun h => by cases h), (fun h => by cases h)⟩
end
theorem nobs_of : ∀ {ds : List PyData}, (∀ d ∈ ds, nob d = true) → nobs ds = true
  | [], _ => rfl
  | d :: ds, h => by
    show (nob d && nobs ds) = true
    rw [h d List.mem_cons_self, nobs_of fun x hx => h x (List.mem_cons_of_mem _ hx)]
    rfl
theorem nobs_map {α : Type} {f : α → PyData} {l : List α} (h : ∀ x, nob (f x) = true) : nobs (l.map f) = true := nobs_of fun d hd => by
  obtain ⟨x, _, rfl⟩ := List.mem_map.mp hd
  exact h x
theorem lay_of : ∀ {ds : List PyData}, (∀ d ∈ ds, d.canLay0 = true) → PyData.canLayAll0 ds = true
  | [], _ => rfl
  | d :: ds, h => by
    show (PyData.canLay0 d && PyData.canLayAll0 ds) = true
    rw [h d List.mem_cons_self, lay_of fun x hx => h x (List.mem_cons_of_mem _ hx)]
    rfl
theorem dep_of {B : Nat} : ∀ {ds : List PyData}, (∀ d ∈ ds, d.depth ≤ B) → PyData.depthAll ds ≤ B
  | [], _ => Nat.zero_le _
  | d :: ds, h => by
    have h1 := h d List.mem_cons_self
    have h2 := dep_of fun x hx => h x (List.mem_cons_of_mem _ hx)
    unfold PyData.depthAll
    omega
/-- shaped, by parts: layable, not deeper than n -/
def Shp (n : Nat) (d : PyData) : Prop := d.canLay0 = true ∧ d.depth ≤ n
theorem Shp.ok {n : Nat} {d : PyData} (h : Shp n d) (hn : n ≤ 64) : SeqAt.shaped d = true := by
  unfold SeqAt.shaped
  rw [h.1, decide_eq_true (Nat.le_trans h.2 hn)]
  rfl
theorem Shp.int {n : Nat} {i : Int} : Shp n (.int i) := ⟨rfl, Nat.zero_le _⟩
theorem Shp.bool {n : Nat} {b : Bool} : Shp n (.bool b) := ⟨rfl, Nat.zero_le _⟩
theorem Shp.none {n : Nat} : Shp n .none := ⟨rfl, Nat.zero_le _⟩
theorem Shp.tup {n : Nat} {ds : List PyData} (h : ∀ d ∈ ds, Shp n d) : Shp (n + 1) (.tuple ds) := ⟨lay_of fun d hd => (h d hd).1, Nat.succ_le_succ (dep_of fun d hd => (h d hd).2)⟩
theorem Shp.lst {n : Nat} {ds : List PyData} (h : ∀ d ∈ ds, Shp n d) : Shp (n + 1) (.list ds) := ⟨lay_of fun d hd => (h d hd).1, Nat.succ_le_succ (dep_of fun d hd => (h d hd).2)⟩
theorem Shp.map {n : Nat} {α : Type} {f : α → PyData} {l : List α} (h : ∀ x, Shp n (f x)) : ∀ d ∈ l.map f, Shp n d := fun d hd => by
  obtain ⟨x, _, rfl⟩ := List.mem_map.mp hd
  exact h x
end Wn

set_option maxHeartbeats 800000
namespace Wn
open PySem L2
set_option pp.maxSteps 700
set_option pp.deepTerms false
local macro_rules | `(tactic| walk_at "h") => `(tactic| first | with_reducible assumption | (with_reducible exact upd_same) | (with_reducible apply g_upd; (walk_at "neq"); (walk_at "h")) | (with_reducible apply g_same; (with_reducible assumption); (walk_at "h")) | (with_reducible apply g_kp; (with_reducible assumption); (walk_at "nin"); (walk_at "h")) | (with_reducible apply g_tk; (with_reducible assumption); (walk_at "h")))
local macro_rules | `(tactic| walk_at "neq") => `(tactic| first | with_reducible assumption | (with_reducible apply Ne.symm; with_reducible assumption) | (with_reducible apply ne_upd; (with_reducible assumption)) | (with_reducible apply Ne.symm; with_reducible apply ne_upd; with_reducible assumption) | (with_reducible apply ne_fr; (with_reducible assumption); (walk_at "h")) | (with_reducible apply ne_fr'; (with_reducible assumption); (walk_at "h")) | (with_reducible apply ne_kd; (walk_at "h"); (walk_at "h"); (with_unfolding_all (intro z; cases z))))
local macro_rules | `(tactic| walk_at "nin") => `(tactic| first | (with_reducible exact nin0) | with_reducible assumption | (with_reducible apply ninc; (walk_at "neq"); (walk_at "nin")))
local macro_rules | `(tactic| walk_at "none") => `(tactic| first | with_reducible assumption | (with_reducible apply n_upd; (with_reducible assumption)) | (with_reducible apply n_same; (with_reducible assumption); (walk_at "none")) | (with_reducible apply n_kp; (with_reducible assumption); (walk_at "nin"); (walk_at "none")))
local macro_rules | `(tactic| walk_at "mem") => `(tactic| first | (with_reducible exact List.mem_cons_self) | (with_reducible apply List.mem_cons_of_mem; (walk_at "mem")))
local macro_rules | `(tactic| walk_at "am") => `(tactic| first | (with_reducible exact am0) | (with_reducible apply am1; (first | (apply Or.inl; walk_at "mem") | (apply Or.inr; walk_at "none")); (walk_at "am")))
local macro_rules | `(tactic| walk_at "tk") => `(tactic| first | (with_reducible exact TK.refl _) | with_reducible assumption | (with_reducible apply t_tk; (with_reducible assumption); (walk_at "tk")) | (with_reducible apply t_same; (with_reducible assumption); (walk_at "tk")) | (with_reducible apply t_new; (with_reducible assumption); (walk_at "tk")) | (with_reducible apply t_wr; (walk_at "h"); (with_unfolding_all rfl); (walk_at "tk")))
local macro_rules | `(tactic| walk_at "same") => `(tactic| first | (with_reducible exact L2.Same.refl _) | with_reducible assumption | (with_reducible apply s_same; (with_reducible assumption); (walk_at "same")) | (with_reducible apply s_new; (with_reducible assumption); (walk_at "same")) | (with_reducible apply s_wrn; (walk_at "none"); (walk_at "same")))
local macro_rules | `(tactic| walk_at "kp") => `(tactic| first | (with_reducible exact Kp.refl _ _) | with_reducible assumption | (with_reducible apply k_same; (with_reducible assumption); (walk_at "kp")) | (with_reducible apply k_kp; (with_reducible assumption); (walk_at "kp")) | (with_reducible apply k_kpm; (with_reducible assumption); (walk_at "am"); (walk_at "kp")) | (with_reducible apply k_new; (with_reducible assumption); (walk_at "kp")) | (with_reducible apply k_wr; (walk_at "mem"); (walk_at "kp")) | (with_reducible apply k_wrn; (walk_at "none"); (walk_at "kp")))
local macro_rules | `(tactic| walk_at "rp") => `(tactic| first | with_reducible assumption | (with_reducible exact Rp.int) | (with_reducible exact Rp.str) | (with_reducible exact Rp.none) | (with_reducible exact Rp.bool) | (with_reducible apply Rp.tk'; (with_reducible assumption); (walk_at "tk")) | (with_reducible apply Rp.tup; (walk_at "h"); (walk_at "rpl")))
local macro_rules | `(tactic| walk_at "rpl") => `(tactic| first | with_reducible assumption | (with_reducible exact RpL.nil) | (with_reducible apply RpL.tk'; (with_reducible assumption); (walk_at "tk")) | (with_reducible apply RpL.cons; (walk_at "rp"); (walk_at "rpl")))
local macro_rules | `(tactic| walk_at "g") => `(tactic| repeat (first | refine ⟨_, rfl, ?_⟩ | refine ⟨_, _, rfl, rfl, ?_⟩ | refine ⟨rfl, _, rfl, ?_⟩ | refine ⟨_, _, rfl, rfl, (by first | decide | omega), ?_⟩))
abbrev sFarPaper : Stmt := top 58
abbrev sFarsInit : Stmt := (inClass (top 59) 0)
abbrev sFarsFar : Stmt := (inClass (top 59) 2)
abbrev sFarsNext : Stmt := (inClass (top 59) 3)
abbrev sFarsTurn : Stmt := (inClass (top 59) 4)
abbrev sFarsRows : Stmt := (inClass (top 59) 5)

theorem grid_nob (X : Mx) (m : Nat) : nob (.tuple (gridD X m)) = true := nobs_map fun h => nobs_map fun o => rfl
theorem grid_shp (X : Mx) (m : Nat) : SeqAt.shaped (.tuple (gridD X m)) = true := Shp.ok (Shp.tup (n := 1) (Shp.map fun h => Shp.tup (n := 0) (Shp.map fun o => Shp.int))) (by decide)
theorem grid_eq {X Y : Mx} {m : Nat} : gridD X m = gridD Y m ↔ MEq m X Y := by
  constructor
  · intro h a ha o ho
    have h1 : (gridD X m)[a]? = (gridD Y m)[a]? := by rw [h]
    unfold gridD at h1
    rw [List.getElem?_map, List.getElem?_map, List.getElem?_range ha] at h1
    have h2 : rowD X m a = rowD Y m a := Option.some.inj h1
    unfold rowD at h2
    rw [PyData.tuple.injEq] at h2
    have h3 : ((List.range m).map fun o => PyData.int (X a o))[o]? = ((List.range m).map fun o => PyData.int (Y a o))[o]? := by rw [h2]
    rw [List.getElem?_map, List.getElem?_map, List.getElem?_range ho] at h3
    have h4 := Option.some.inj h3
    rw [PyData.int.injEq] at h4
    omega
  · intro h
    unfold gridD
    refine List.map_congr_left fun a ha => ?_
    unfold rowD
    rw [PyData.tuple.injEq]
    refine List.map_congr_left fun o ho => ?_
    rw [h a (List.mem_range.mp ha) o (List.mem_range.mp ho)]
theorem grid_eqv {X Y : Mx} {m : Nat} : PyData.eqv (.tuple (gridD X m)) (.tuple (gridD Y m)) = true ↔ MEq m X Y := by
  rw [eqv_nob _ _ (grid_nob X m) (grid_nob Y m), PyData.tuple.injEq, grid_eq]
section
variable {P : Program} {w : World} {K : PySem.W.Frag} {mg : Str → Option Value} {base : Heap}
theorem scTAll : FnScope ["near", "fars", "house"] ["near", "fars"] (defScope sTAll) := ⟨rfl, rfl, rfl, by decide +kernel, rfl, by decide +kernel, by decide +kernel⟩
theorem ok_tall {f : Addr} {fd : FuncData} (F : Fun K "turned_all" "turned_all" sTAll f fd) (B : FB mg) (cT : Cd P w K mg base 1 "turned_row" ["near", "fars", "house"] (spTRow K)) : FnOk P w K mg base CX0 2 f fd ["near", "fars"] (spTAll K) := by
  obtain ⟨fT, fdT, GT, mT, kT, bT⟩ := cT
  refine F.ok scTAll (fun vs H Q E h => ?_) (fun cdv A outer s H vs Q E hr h => ?_)
  · obtain ⟨m, rs, X, na, ga, ls, rfl, _⟩ := h
    rfl
  · obtain ⟨m, rs, X, na, ga, ls, rfl, N, lls, m8, lrs, RI, hG, k⟩ := h
    have hr1 : Room 1 _ := hr
    refine ⟨_, (pss_one (ps_ret (pe_callTy (tupOfK (K := K) rfl) (by rfl) B.tuple PyProof.Rows.boot_tuple (pa_cons (pe_lc (own := [("house", 2)]) (g := (gName 2)) (tt := tYes) rfl scTAll.nd (pi_range1 rfl B.range (pa_cons (pe_callB (lenK (K := K) rfl) (by rfl) B.len PySem.boot_len (pa_cons (pv 1) pa_nil)) pa_nil)) (blkOk_by (N := ["near", "fars", "house"]) (sc := defScope sTAll) (by decide +kernel))
       (fun _ _ _ _ _ => (pg_name (i := 2) scTAll.nd rfl (Or.inl rfl))) (fun _ _ _ _ _ => pts_nil) (fun _ _ _ _ _ => (pe_call GT hr1 rfl mT kT bT .nil pass0 (pa_cons (pv 0) (pa_cons (pv 1) (pa_cons (pv 2) pa_nil)))))) pa_nil)))), ?_⟩
    obtain ⟨xs, hxs, lxs, rows⟩ := grid_row hG
    refine ⟨_, rfl, _, xs.length, rfl, .inr ⟨_, hxs, rfl⟩, xs.length, rfl, by omega, by omega, fun D nD => ?_⟩
    have en : ((xs.length : Int)).toNat = m := by omega
    rw [en]
    refine comp_rg (K := K) (is := [2]) walk_range (fun _ => true) (rowD (turn rs X) m) nD (by omega) ?_ ?_
    · intro j H' Q' N' hj s' hQ _
      refine ⟨rfl, tYes_t (iteT ?_)⟩
      refine ⟨_, rfl, _, rfl, _, rfl, m, j, rs, X, na, ga, ls, ?_, N.same s', lls, m8, lrs, RI, hj, hG.sm s', fun H2 a s2 ra => hQ rfl H2 _ s2 ra⟩
      rw [show (0 : Int) + (j : Int) = (j : Int) by omega]
      rfl
    · intro H1 ys s1 hD ry
      rw [filter_yes] at ry
      refine ⟨D, ys, rfl, .inl ⟨SqL.of hD, fun t n_t => ?_⟩⟩
      generalize e_H2 : upd _ t _ = H2
      obtain ⟨s2, r2⟩ := new_tup (K := K) n_t e_H2 (by walk_at "rpl")
      clear e_H2
      exact k H2 t (s1.trans s2) r2
/-- the settled ones -/
def spFarPaper (K : PySem.W.Frag) : Sp := fun vs H Q _ => ∃ (m : Nat) (rs : List Rd) (bs : List Bool) (la ua : Addr), vs = [.int m, .ref la, .ref ua] ∧ TupAt K H la (rs.map rdD) ∧ TupAt K H ua (bs.map PyData.bool) ∧ bs.length = rs.length ∧ RdsOk m rs ∧
  ∀ (H' : Hp) (a : Addr) (X : Mx), Same H H' → TupAt K H' a (gridD X m) → Fixed m (rs.zip bs) X → Q (.ref a) H'
theorem scFarPaper : FnScope ["houses", "roads", "up", "near", "fars", "behind", "one", "other"] ["houses", "roads", "up"] (defScope sFarPaper) := ⟨rfl, rfl, rfl, by decide +kernel, rfl, by decide +kernel, by decide +kernel⟩
theorem ok_farpaper {f : Addr} {fd : FuncData} (F : Fun K "far_paper" "far_paper" sFarPaper f fd) (B : FB mg) (hFAR : ∃ t, mg "FAR" = some (.int 24 t)) (cN : Cd P w K mg base 1 "near_rows" ["houses", "roads", "up"] (spNear K)) (cA : Cd P w K mg base 2 "turned_all" ["near", "fars"] (spTAll K)) :
    FnOk P w K mg base CX0 3 f fd ["houses", "roads", "up"] (spFarPaper K) := by
  obtain ⟨tF, mFAR⟩ := hFAR
  obtain ⟨fN, fdN, GN, mN, kN, bN⟩ := cN
  obtain ⟨fA, fdA, GA, mA, kA, bA⟩ := cA
  refine F.ok scFarPaper (fun vs H Q E h => ?_) (fun cdv A outer s H vs Q E hr h => ?_)
  · obtain ⟨m, rs, bs, la, ua, rfl, _⟩ := h
    rfl
  · obtain ⟨m, rs, bs, la, ua, rfl, hL, hU, lb, R, k⟩ := h
    have hr2 : Room 2 _ := hr
    have hr1 : Room 1 _ := hr.mono (by decide)
    refine ⟨_, (pss_cons (ps_set (i := 3) scFarPaper.nd rfl (Or.inl rfl) (pe_call GN hr1 rfl mN kN bN .nil pass0 (pa_cons (pv 0) (pa_cons (pv 1) (pa_cons (pv 2) pa_nil)))))
       (pss_cons (ps_set (i := 4) scFarPaper.nd rfl (Or.inl rfl) (pe_callTy (tupOfK (K := K) rfl) (by rfl) B.tuple PyProof.Rows.boot_tuple (pa_cons (pe_lc (own := [("one", 6)]) (g := (gName 6)) (tt := tYes) rfl scFarPaper.nd (pi_range1 rfl B.range (pa_cons (pv 0) pa_nil)) (blkOk_by (N := ["houses", "roads", "up", "near", "fars", "behind", "one", "other"]) (sc := defScope sFarPaper) (by decide +kernel))
       (fun _ _ _ _ _ => (pg_name (i := 6) scFarPaper.nd rfl (Or.inr rfl))) (fun _ _ _ _ _ => pts_nil) (fun _ _ _ _ _ => (pe_callTy (tupOfK (K := K) rfl) (by rfl) B.tuple PyProof.Rows.boot_tuple (pa_cons (pe_lc (own := [("other", 7)]) (g := (gName 7)) (tt := tYes) rfl scFarPaper.nd (pi_range1 rfl B.range (pa_cons (pv 0) pa_nil)) (blkOk_by (by kernel_rfl))
       (fun _ _ _ _ _ => (pg_name (i := 7) scFarPaper.nd rfl (Or.inl rfl))) (fun _ _ _ _ _ => pts_nil) (fun _ _ _ _ _ => (pe_ifExp (pt_cmpR op_eq (pv 6) (pv 7) (nomark _)) pe_int (pe_glob (v := .int 24) (by rfl) mFAR ⟨_, rfl⟩)))) pa_nil)))) pa_nil)))
       (pss_cons (ps_set (i := 5) scFarPaper.nd rfl (Or.inl rfl) (pe_call GA hr2 rfl mA kA bA .nil pass0 (pa_cons (pv 3) (pa_cons (pv 4) pa_nil))))
       (pss_cons (ps_while PassesOwn.never (pt_cmpR (neDK (K := K) rfl hr.units) (pv 5) (pv 4) (nomark _))
       (pss_cons (ps_set (i := 4) scFarPaper.nd rfl (Or.inl rfl) (pv 5))
       (pss_one (ps_set (i := 5) scFarPaper.nd rfl (Or.inl rfl) (pe_call GA hr2 rfl mA kA bA .nil pass0 (pa_cons (pv 3) (pa_cons (pv 4) pa_nil)))))))
       (pss_one (ps_ret (pv 4))))))), ?_⟩
    have m8 := R.m8
    have lr := R.few
    have RI := rdsIn (bs := bs) R
    have lzip : (rs.zip bs).length ≤ 14 := by rw [List.length_zip]; omega
    refine ⟨_, rfl, _, rfl, _, rfl, m, rs, bs, la, ua, rfl, hL, hU, lb, R, fun H1 na ls s1 lls N1 => ?_⟩
    generalize rs.zip bs = zr at N1 k RI lzip
    refine ⟨_, rfl, m, rfl, by omega, by omega, fun D nD => ?_⟩
    refine comp_rg (K := K) (is := [6]) walk_range (fun _ => true) (rowD topM m) nD (by omega) ?_ ?_
    · intro j H' Q' N' hj s' hQ _
      have hj : j < m := by omega
      refine ⟨rfl, tYes_t (iteT ?_)⟩
      refine ⟨_, rfl, m, rfl, by omega, by omega, fun D2 nD2 => ?_⟩
      refine comp_rg (K := K) (is := [7]) walk_range (fun _ => true) (fun o => .int (topM j o : Nat)) nD2 (by omega) ?_ ?_
      · intro o H'' Q'' N'' ho s'' hQ2 _
        refine ⟨rfl, tYes_t (iteT ?_)⟩
        refine ⟨_, rfl, _, rfl, rfl, _, rfl, iteI (fun c => ?_) (fun c => ?_)⟩
        · have e : topM j o = 0 := if_pos (by omega)
          refine hQ2 rfl H'' _ (L2.Same.refl _) ?_
          rw [e]
          exact Rp.int
        · have e : topM j o = 24 := if_neg (by omega)
          refine hQ2 rfl H'' _ (L2.Same.refl _) ?_
          rw [e]
          exact Rp.int
      · intro H2 ys s2 hD2 ry
        rw [filter_yes, show ((m : Int)).toNat = m by omega] at ry
        refine ⟨D2, ys, rfl, .inl ⟨SqL.of hD2, fun t n_t => ?_⟩⟩
        generalize e_H3 : upd _ t _ = H3
        obtain ⟨s3, r3⟩ := new_tup (K := K) n_t e_H3 (by walk_at "rpl")
        clear e_H3
        exact hQ rfl H3 _ (s2.trans s3) r3
    · intro H2 ys s2 hD ry
      rw [filter_yes, show ((m : Int)).toNat = m by omega] at ry
      refine ⟨D, ys, rfl, .inl ⟨SqL.of hD, fun ga n_ga => ?_⟩⟩
      generalize e_H3 : upd _ ga _ = H3
      obtain ⟨s3, r3⟩ := new_tup (K := K) n_ga e_H3 (by walk_at "rpl")
      clear e_H3
      have s03 : Same H1 H3 := s2.trans s3
      refine ⟨_, rfl, _, rfl, m, zr, topM, na, ga, ls, rfl, N1.same s03, lls, m8, lzip, RI, r3, fun H4 b s4 r4 => ?_⟩
      refine while_w (fun n σ H' => ∃ (X : Mx) (g b : Addr), σ = [some (.int m), some (.ref la), some (.ref ua), some (.ref na), some (.ref g), some (.ref b), none, none] ∧ Same H1 H' ∧ TupAt K H' g (gridD X m) ∧ TupAt K H' b (gridD (turn zr X) m) ∧ MLe m (turn zr X) X ∧ n = sumM m X)
        ⟨_, topM, ga, b, rfl, s03.trans s4, TupAt.sm r3 s4, r4, turn_top, rfl⟩ ?_
      rintro n σ H5 ⟨X, g, b, rfl, s5, hg, hb, le, rfl⟩
      refine ⟨_, rfl, _, rfl, .tuple (gridD (turn zr X) m), .tuple (gridD X m), Rp.dp _ _ hb, Rp.dp _ _ hg, grid_shp _ _, grid_shp _ _, _, rfl, ?_⟩
      cases ee : PyData.eqv (.tuple (gridD (turn zr X) m)) (.tuple (gridD X m)) with
      | true =>
        have me := grid_eqv.mp ee
        exact iteF ⟨_, rfl, k H5 g X (s1.trans s5) hg fun h hh o ho => (me h hh o ho).symm⟩
      | false =>
        have ne : ¬ MEq m (turn zr X) X := fun z => by
          rw [grid_eqv.mpr z] at ee
          cases ee
        refine iteT ⟨_, fun σ' H' h => h, ?_⟩
        refine ⟨_, rfl, ?_⟩
        refine ⟨_, rfl, _, rfl, m, zr, turn zr X, na, b, ls, rfl, N1.same s5, lls, m8, lzip, RI, hb, fun H6 b2 s6 r6 => ?_⟩
        exact ⟨_, sumM_lt le ne, turn zr X, b, b2, rfl, s5.trans s6, hb.sm s6, r6, turn_mono RI le, rfl⟩
/-- the class Fars -/
structure TFars (K : PySem.W.Frag) (C : Addr) : Prop where
  cl : Cls K C
  lanes : NoAttr K C "lanes"
  grid : NoAttr K C "grid"
/-- an object of Fars at p over roads at l: m houses, the fars X -/
def FarsAt (K : PySem.W.Frag) (C : Addr) (H : Hp) (p l : Addr) (m : Nat) (X : Mx) : Prop :=
  ∃ dx g, H p = some (.ins C dx [("lanes", .ref l), ("grid", .ref g)]) ∧ TupAt K H g (gridD X m)
theorem FarsAt.kp {H H' : Hp} {C p l : Addr} {m : Nat} {X : Mx} {M : List Addr} (h : FarsAt K C H p l m X) (k : Kp M H H') (t : TK H H') (n : p ∉ M) : FarsAt K C H' p l m X := by
  obtain ⟨dx, g, h1, h2⟩ := h
  exact ⟨dx, g, k _ _ n h1, h2.tk t⟩
theorem FarsAt.same {H H' : Hp} {C p l : Addr} {m : Nat} {X : Mx} (h : FarsAt K C H p l m X) (s : Same H H') : FarsAt K C H' p l m X := h.kp (M := []) (Kp.of s) (TK.of s) nin0
variable {C CR : Addr}
def spFarsInit (K : PySem.W.Frag) (C CR : Addr) : Sp := fun vs H Q _ => ∃ (x dx l fa : Addr) (L : Lan), vs = [.ref x, .ref l] ∧ H x = some (.ins C dx []) ∧ x ≠ l ∧ RoadsAt K CR H l fa L ∧
  ∀ (H' : Hp) (X : Mx), Kp [x] H H' → FarsAt K C H' x l L.m X → Fixed L.m (L.rs.zip (upOf L)) X → Q .non H'
def spFar (K : PySem.W.Frag) (C : Addr) : Sp := fun vs H Q _ => ∃ (p l : Addr) (m h o : Nat) (X : Mx), vs = [.ref p, .int h, .int o] ∧ FarsAt K C H p l m X ∧ h < m ∧ o < m ∧ Q (.int (X h o : Nat)) H
def spRowsF (K : PySem.W.Frag) (C : Addr) : Sp := fun vs H Q _ => ∃ (p l : Addr) (m : Nat) (X : Mx), vs = [.ref p] ∧ FarsAt K C H p l m X ∧ ∀ g, TupAt K H g (gridD X m) → Q (.ref g) H
def spTurn (K : PySem.W.Frag) (C CR : Addr) : Sp := fun vs H Q _ => ∃ (p l fa : Addr) (L : Lan) (X : Mx), vs = [.ref p] ∧ FarsAt K C H p l L.m X ∧ RoadsAt K CR H l fa L ∧
  ∀ (H' : Hp), Kp [p] H H' → FarsAt K C H' p l L.m (turn (L.rs.zip (upOf L)) X) → Q .non H'
theorem scFarsInit : FnScope ["self", "roads"] ["self", "roads"] (defScope sFarsInit) := ⟨rfl, rfl, rfl, by decide +kernel, rfl, by decide +kernel, by decide +kernel⟩
theorem ok_farsinit {f : Addr} {fd : FuncData} (F : Fun K "__init__" "Fars.__init__" sFarsInit f fd) (T : TFars K C) (TR : TRoads K CR) (cU : Md P w K mg base 1 CR "up" ["self"] (spUp K CR)) (cP : Cd P w K mg base 3 "far_paper" ["houses", "roads", "up"] (spFarPaper K)) :
    FnOk P w K mg base CX0 4 f fd ["self", "roads"] (spFarsInit K C CR) := by
  obtain ⟨fU, fdU, GU, MU, bU⟩ := cU
  obtain ⟨fP, fdP, GP, mP, kP, bP⟩ := cP
  refine F.ok scFarsInit (fun vs H Q E h => ?_) (fun cdv A outer s H vs Q E hr h => ?_)
  · obtain ⟨x, dx, l, fa, L, rfl, _⟩ := h
    rfl
  · obtain ⟨x, dx, l, fa, L, rfl, hx, nxl, RA, k⟩ := h
    have hr3 : Room 3 _ := hr
    have hr1 : Room 1 _ := hr.mono (by decide)
    refine ⟨_, (pss_cons (ps_fld (pv 0) (pv 1) rfl)
       (pss_one (ps_fld (pv 0) (pe_call GP hr3 rfl mP kP bP .nil pass0 (pa_cons (fldK (K := K) rfl (pv 1) rfl) (pa_cons (fldK (K := K) rfl (pv 1) rfl) (pa_cons (pe_meth0 (pv 1) TR.cl MU GU hr1 bU .nil pass0) pa_nil)))) rfl))), ?_⟩
    refine ⟨_, rfl, _, rfl, x, C, dx, _, rfl, hx, T.cl, T.lanes, by decide, ?_⟩
    obtain ⟨H1, e_H1, k1, t1, h1⟩ := wr_any hx rfl
    rw [← e_H1]
    clear e_H1
    obtain ⟨⟨dr, la, g1, g2⟩, g3, R, FO⟩ := id RA
    have nfx : fa ≠ x := by walk_at "neq"
    have RA1 := RA.kp k1 t1 (nin1 nxl.symm) (nin1 nfx)
    have g11 : H1 l = some (.ins CR dr [("many", .int (L.m : Int)), ("lines", .ref la), ("fallen", .ref fa)]) := k1 _ _ (nin1 nxl.symm) g1
    refine ⟨_, rfl, l, CR, dr, _, _, rfl, g11, TR.cl, TR.many, rfl, _, rfl, l, CR, dr, _, _, rfl, g11, TR.cl, TR.lines, rfl, _, rfl, l, dr, _, rfl, g11, rfl, l, fa, L, rfl, RA1, fun H2 ua s2 hu => ?_⟩
    have lup : (upOf L).length = L.rs.length := by unfold upOf; rw [List.length_map]
    refine ⟨L.m, L.rs, upOf L, la, ua, rfl, (g2.tk t1).sm s2, hu, lup, R, fun H3 g X s3 hg fx => ?_⟩
    have h3 := s3 _ _ (s2 _ _ h1)
    refine ⟨_, rfl, x, C, dx, _, rfl, h3, T.cl, T.grid, (by show 1 < 1000; decide), ?_⟩
    obtain ⟨H4, e_H4, k4, t4, h4⟩ := wr_any h3 rfl
    rw [← e_H4]
    clear e_H4
    exact k H4 X (by walk_at "kp") ⟨dx, g, h4, hg.tk t4⟩ fx
theorem scFarsFar : FnScope ["self", "house", "other"] ["self", "house", "other"] (defScope sFarsFar) := ⟨rfl, rfl, rfl, by decide +kernel, rfl, by decide +kernel, by decide +kernel⟩
theorem ok_farsfar {f : Addr} {fd : FuncData} (F : Fun K "far" "Fars.far" sFarsFar f fd) (T : TFars K C) : FnOk P w K mg base CX0 1 f fd ["self", "house", "other"] (spFar K C) := by
  refine F.ok scFarsFar (fun vs H Q E h => ?_) (fun cdv A outer s H vs Q E hr h => ?_)
  · obtain ⟨p, l, m, h, o, X, rfl, _⟩ := h
    rfl
  · obtain ⟨p, l, m, h, o, X, rfl, ⟨dx, g, h1, hg⟩, hh, ho, k⟩ := h
    refine ⟨_, (pss_one (ps_ret (pe_ix (ixT (K := K) rfl) (pe_ix (ixT (K := K) rfl) (fldK (K := K) rfl (pv 0) rfl) (pv 1) (fun _ _ => rfl)) (pv 2) (fun _ _ => rfl)))), ?_⟩
    obtain ⟨xs, hxs, lxs, rows⟩ := grid_row hg
    obtain ⟨u, eu, hu⟩ := rows h hh
    exact ⟨_, rfl, p, C, dx, _, _, rfl, h1, T.cl, T.grid, rfl, _, rfl, g, _, _, _, rfl, rfl, hxs, atI_nat eu, _, rfl, u, _, _, _, rfl, rfl, hu, row_at ho, k⟩
theorem scFarsRows : FnScope ["self"] ["self"] (defScope sFarsRows) := ⟨rfl, rfl, rfl, by decide +kernel, rfl, by decide +kernel, by decide +kernel⟩
theorem ok_farsrows {f : Addr} {fd : FuncData} (F : Fun K "rows" "Fars.rows" sFarsRows f fd) (T : TFars K C) : FnOk P w K mg base CX0 1 f fd ["self"] (spRowsF K C) := by
  refine F.ok scFarsRows (fun vs H Q E h => ?_) (fun cdv A outer s H vs Q E hr h => ?_)
  · obtain ⟨p, l, m, X, rfl, _⟩ := h
    rfl
  · obtain ⟨p, l, m, X, rfl, ⟨dx, g, h1, hg⟩, k⟩ := h
    refine ⟨_, (pss_one (ps_ret (fldK (K := K) rfl (pv 0) rfl))), ?_⟩
    exact ⟨_, rfl, p, C, dx, _, _, rfl, h1, T.cl, T.grid, rfl, k g hg⟩
theorem scFarsTurn : FnScope ["self"] ["self"] (defScope sFarsTurn) := ⟨rfl, rfl, rfl, by decide +kernel, rfl, by decide +kernel, by decide +kernel⟩
theorem ok_farsturn {f : Addr} {fd : FuncData} (F : Fun K "turn" "Fars.turn" sFarsTurn f fd) (T : TFars K C) (TR : TRoads K CR) (cU : Md P w K mg base 1 CR "up" ["self"] (spUp K CR)) (cN : Cd P w K mg base 1 "near_rows" ["houses", "roads", "up"] (spNear K)) (cA : Cd P w K mg base 2 "turned_all" ["near", "fars"] (spTAll K)) :
    FnOk P w K mg base CX0 3 f fd ["self"] (spTurn K C CR) := by
  obtain ⟨fU, fdU, GU, MU, bU⟩ := cU
  obtain ⟨fN, fdN, GN, mN, kN, bN⟩ := cN
  obtain ⟨fA, fdA, GA, mA, kA, bA⟩ := cA
  refine F.ok scFarsTurn (fun vs H Q E h => ?_) (fun cdv A outer s H vs Q E hr h => ?_)
  · obtain ⟨p, l, fa, L, X, rfl, _⟩ := h
    rfl
  · obtain ⟨p, l, fa, L, X, rfl, ⟨dx, g, h1, hg⟩, RA, k⟩ := h
    have hr2 : Room 2 _ := hr
    have hr1 : Room 1 _ := hr.mono (by decide)
    refine ⟨_, (pss_one (ps_fld (pv 0) (pe_call GA hr2 rfl mA kA bA .nil pass0 (pa_cons (pe_call GN hr1 rfl mN kN bN .nil pass0 (pa_cons (fldK (K := K) rfl (fldK (K := K) rfl (pv 0) rfl) rfl) (pa_cons (fldK (K := K) rfl (fldK (K := K) rfl (pv 0) rfl) rfl) (pa_cons (pe_meth0 (fldK (K := K) rfl (pv 0) rfl) TR.cl MU GU hr1 bU .nil pass0) pa_nil)))) (pa_cons (fldK (K := K) rfl (pv 0) rfl) pa_nil))) rfl)), ?_⟩
    obtain ⟨⟨dr, la, g1, g2⟩, g3, R, FO⟩ := id RA
    have lup : (upOf L).length = L.rs.length := by unfold upOf; rw [List.length_map]
    have lr := R.few
    refine ⟨_, rfl, p, C, dx, _, _, rfl, h1, T.cl, T.lanes, rfl, l, CR, dr, _, _, rfl, g1, TR.cl, TR.many, rfl, _, rfl, p, C, dx, _, _, rfl, h1, T.cl, T.lanes, rfl, l, CR, dr, _, _, rfl, g1, TR.cl, TR.lines, rfl, _, rfl, p, C, dx, _, _, rfl, h1, T.cl, T.lanes, rfl, l, dr, _, rfl, g1, rfl, l, fa, L, rfl, RA, fun H2 ua s2 hu => ?_⟩
    refine ⟨L.m, L.rs, upOf L, la, ua, rfl, g2.sm s2, hu, lup, R, fun H3 na ls s3 lls N3 => ?_⟩
    have s03 := s2.trans s3
    refine ⟨_, rfl, p, C, dx, _, _, rfl, s03 _ _ h1, T.cl, T.grid, rfl, L.m, L.rs.zip (upOf L), X, na, g, ls, rfl, N3, lls, R.m8, by rw [List.length_zip]; omega, rdsIn R, hg.sm s03, fun H4 g' s4 hg' => ?_⟩
    have h4 := s4 _ _ (s03 _ _ h1)
    refine ⟨_, rfl, p, C, dx, _, rfl, h4, T.cl, T.grid, (by show 2 < 1000; decide), ?_⟩
    obtain ⟨H5, e_H5, k5, t5, h5⟩ := wr_any h4 rfl
    rw [← e_H5]
    clear e_H5
    exact k H5 (by walk_at "kp") ⟨dx, g', h5, hg'.tk t5⟩
end
end Wn

set_option maxHeartbeats 800000
namespace Wn
open PySem L2
set_option pp.maxSteps 700
set_option pp.deepTerms false
local macro_rules | `(tactic| walk_at "h") => `(tactic| first | with_reducible assumption | (with_reducible exact upd_same) | (with_reducible apply g_upd; (walk_at "neq"); (walk_at "h")) | (with_reducible apply g_same; (with_reducible assumption); (walk_at "h")) | (with_reducible apply g_kp; (with_reducible assumption); (walk_at "nin"); (walk_at "h")) | (with_reducible apply g_tk; (with_reducible assumption); (walk_at "h")))
local macro_rules | `(tactic| walk_at "neq") => `(tactic| first | with_reducible assumption | (with_reducible apply Ne.symm; with_reducible assumption) | (with_reducible apply ne_upd; (with_reducible assumption)) | (with_reducible apply Ne.symm; with_reducible apply ne_upd; with_reducible assumption) | (with_reducible apply ne_fr; (with_reducible assumption); (walk_at "h")) | (with_reducible apply ne_fr'; (with_reducible assumption); (walk_at "h")) | (with_reducible apply ne_kd; (walk_at "h"); (walk_at "h"); (with_unfolding_all (intro z; cases z))))
local macro_rules | `(tactic| walk_at "nin") => `(tactic| first | (with_reducible exact nin0) | with_reducible assumption | (with_reducible apply ninc; (walk_at "neq"); (walk_at "nin")))
local macro_rules | `(tactic| walk_at "none") => `(tactic| first | with_reducible assumption | (with_reducible apply n_upd; (with_reducible assumption)) | (with_reducible apply n_same; (with_reducible assumption); (walk_at "none")) | (with_reducible apply n_kp; (with_reducible assumption); (walk_at "nin"); (walk_at "none")))
local macro_rules | `(tactic| walk_at "mem") => `(tactic| first | (with_reducible exact List.mem_cons_self) | (with_reducible apply List.mem_cons_of_mem; (walk_at "mem")))
local macro_rules | `(tactic| walk_at "am") => `(tactic| first | (with_reducible exact am0) | (with_reducible apply am1; (first | (apply Or.inl; walk_at "mem") | (apply Or.inr; walk_at "none")); (walk_at "am")))
local macro_rules | `(tactic| walk_at "tk") => `(tactic| first | (with_reducible exact TK.refl _) | with_reducible assumption | (with_reducible apply t_tk; (with_reducible assumption); (walk_at "tk")) | (with_reducible apply t_same; (with_reducible assumption); (walk_at "tk")) | (with_reducible apply t_new; (with_reducible assumption); (walk_at "tk")) | (with_reducible apply t_wr; (walk_at "h"); (with_unfolding_all rfl); (walk_at "tk")))
local macro_rules | `(tactic| walk_at "same") => `(tactic| first | (with_reducible exact L2.Same.refl _) | with_reducible assumption | (with_reducible apply s_same; (with_reducible assumption); (walk_at "same")) | (with_reducible apply s_new; (with_reducible assumption); (walk_at "same")) | (with_reducible apply s_wrn; (walk_at "none"); (walk_at "same")))
local macro_rules | `(tactic| walk_at "kp") => `(tactic| first | (with_reducible exact Kp.refl _ _) | with_reducible assumption | (with_reducible apply k_same; (with_reducible assumption); (walk_at "kp")) | (with_reducible apply k_kp; (with_reducible assumption); (walk_at "kp")) | (with_reducible apply k_kpm; (with_reducible assumption); (walk_at "am"); (walk_at "kp")) | (with_reducible apply k_new; (with_reducible assumption); (walk_at "kp")) | (with_reducible apply k_wr; (walk_at "mem"); (walk_at "kp")) | (with_reducible apply k_wrn; (walk_at "none"); (walk_at "kp")))
local macro_rules | `(tactic| walk_at "rp") => `(tactic| first | with_reducible assumption | (with_reducible exact Rp.int) | (with_reducible exact Rp.str) | (with_reducible exact Rp.none) | (with_reducible exact Rp.bool) | (with_reducible apply Rp.tk'; (with_reducible assumption); (walk_at "tk")) | (with_reducible apply Rp.tup; (walk_at "h"); (walk_at "rpl")))
local macro_rules | `(tactic| walk_at "rpl") => `(tactic| first | with_reducible assumption | (with_reducible exact RpL.nil) | (with_reducible apply RpL.tk'; (with_reducible assumption); (walk_at "tk")) | (with_reducible apply RpL.cons; (walk_at "rp"); (walk_at "rpl")))
local macro_rules | `(tactic| walk_at "g") => `(tactic| repeat (first | refine ⟨_, rfl, ?_⟩ | refine ⟨_, _, rfl, rfl, ?_⟩ | refine ⟨rfl, _, rfl, ?_⟩ | refine ⟨_, _, rfl, rfl, (by first | decide | omega), ?_⟩))

def spNextF (K : PySem.W.Frag) (C CR : Addr) : Sp := fun vs H Q _ => ∃ (p l fa : Addr) (L : Lan) (X : Mx) (h o : Nat), vs = [.ref p, .int h, .int o] ∧ FarsAt K C H p l L.m X ∧ RoadsAt K CR H l fa L ∧ h < L.m ∧ o < L.m ∧
  ∀ H', Same H H' → Q (optV (nextOf L X h o)) H'
theorem Rp.nb {K : PySem.W.Frag} {H : Hp} {q : Nat × Nat × Nat} {v : V} (h : Rp K H (nbD q) v) : ∃ t, v = .ref t ∧ SqT K H t [.int q.1, .int q.2.1, .int q.2.2] := by
  unfold nbD Rp at h
  obtain ⟨t, ys, rfl, ht, ry⟩ := h
  unfold RpL at ry
  obtain ⟨v0, r0, rfl, h0, ry⟩ := ry
  unfold RpL at ry
  obtain ⟨v1, r1, rfl, h1, ry⟩ := ry
  unfold RpL at ry
  obtain ⟨v2, r2, rfl, h2, ry⟩ := ry
  unfold RpL at ry
  subst ry
  rw [Rp.int_eq h0, Rp.int_eq h1, Rp.int_eq h2] at ht
  exact ⟨t, rfl, ht⟩
/-- a list of pairs: its places -/
theorem nds_refs {K : PySem.W.Frag} {H : Hp} : ∀ {ws : List (Nat × Nat)} {ys : List V}, RpL K H (ws.map ndD) ys → ∃ ts : List Addr, ys = ts.map V.ref ∧ ts.length = ws.length ∧ ∀ (i : Nat) (t : Addr) (p : Nat × Nat), ts[i]? = some t → ws[i]? = some p → SqT K H t ((prI p).map V.int)
  | [], ys, h => by
    unfold List.map RpL at h
    subst h
    exact ⟨[], rfl, rfl, fun i t p e => by cases e⟩
  | w :: ws, ys, h => by
    rw [List.map_cons] at h
    unfold RpL at h
    obtain ⟨v, r, rfl, h1, h2⟩ := h
    obtain ⟨ts, rfl, lt, ht⟩ := nds_refs h2
    obtain ⟨t, rfl, g⟩ := Rp.nd h1
    refine ⟨t :: ts, rfl, by rw [List.length_cons, List.length_cons, lt], fun i u p e1 e2 => ?_⟩
    cases i with
    | zero =>
      cases e1
      cases e2
      exact g
    | succ i => exact ht i u p (by simpa using e1) (by simpa using e2)
theorem nds_shp (ws : List (Nat × Nat)) : SeqAt.shaped (.list (ws.map ndD)) = true := Shp.ok (Shp.lst (n := 1) (Shp.map fun p => Shp.tup (n := 0) fun d hd => by
  simp only [List.mem_cons, List.not_mem_nil, or_false] at hd
  rcases hd with rfl | rfl <;> exact Shp.int)) (by decide)
theorem nds_nil {ws : List (Nat × Nat)} : PyData.eqv (.list (ws.map ndD)) (.list []) = decide (ws = []) := by
  cases ws <;> rfl
section
variable {P : Program} {w : World} {K : PySem.W.Frag} {mg : Str → Option Value} {base : Heap} {C CR : Addr}
theorem scFarsNext : FnScope ["self", "house", "other", "ways", "there", "delay", "size"] ["self", "house", "other"] (defScope sFarsNext) := ⟨rfl, rfl, rfl, by decide +kernel, rfl, by decide +kernel, by decide +kernel⟩
theorem ok_farsnext {f : Addr} {fd : FuncData} (F : Fun K "next" "Fars.next" sFarsNext f fd) (B : FB mg) (hFAR : ∃ t, mg "FAR" = some (.int 24 t)) (T : TFars K C) (TR : TRoads K CR) (cNb : Md P w K mg base 1 CR "neighbours" ["self", "house"] (spNbr K CR)) (cF : Md P w K mg base 1 C "far" ["self", "house", "other"] (spFar K C)) :
    FnOk P w K mg base CX0 2 f fd ["self", "house", "other"] (spNextF K C CR) := by
  obtain ⟨tF, mFAR⟩ := hFAR
  obtain ⟨fNb, fdNb, GNb, MNb, bNb⟩ := cNb
  obtain ⟨fF, fdF, GF, MF, bF⟩ := cF
  refine F.ok scFarsNext (fun vs H Q E h => ?_) (fun cdv A outer s H vs Q E hr h => ?_)
  · obtain ⟨p, l, fa, L, X, h, o, rfl, _⟩ := h
    rfl
  · obtain ⟨p, l, fa, L, X, h, o, rfl, FA, RA, hh, ho, k⟩ := h
    have hr1 : Room 1 _ := hr
    have hu := hu_of hr
    refine ⟨_, (pss_cons (ps_setLc (i := 3) (own := [("there", 4), ("delay", 5), ("size", 6)]) (g := (gTup K 3 (gCons (gName 4) (gCons (gName 5) (gCons (gName 6) gNil))))) (tt := tYes) rfl scFarsNext.nd rfl rfl (sw_true rfl rfl rfl (by decide +kernel)) (pi_tup (pe_meth (fldK (K := K) rfl (pv 0) rfl) TR.cl MNb GNb hr1 bNb .nil pass0 (pa_cons (pv 1) pa_nil))) (blkOk_by (N := ["self", "house", "other", "ways", "there", "delay", "size"]) (sc := defScope sFarsNext) (by decide +kernel))
       (fun _ _ _ _ _ => (pg_tup rfl (pgs_cons (pg_name (i := 4) scFarsNext.nd rfl (Or.inl rfl)) (pgs_cons (pg_name (i := 5) scFarsNext.nd rfl (Or.inl rfl)) (pgs_cons (pg_name (i := 6) scFarsNext.nd rfl (Or.inl rfl)) pgs_nil))))) (fun _ _ _ _ _ => pts_nil) (fun _ _ _ _ _ => (pe_tup (pa_cons (pe_op op_add (pv 5) (pe_meth (pv 0) T.cl MF GF hr1 bF .nil pass0 (pa_cons (pv 4) (pa_cons (pv 2) pa_nil)))) (pa_cons (pv 4) pa_nil)))))
       (pss_cons (ps_if (PW.pt (pw_or (pt_cmpR (eqDK (K := K) rfl hr.units) (pv 3) (pe_lst pa_nil) (nomark _)) (pw_or1 (pt_cmpR op_ge (pe_ix (ixT (K := K) rfl) (pe_callB (minTK (K := K) rfl rfl hu) (by rfl) B.min (by decide +kernel) (pa_cons (pv 3) pa_nil)) pe_int (fun _ _ => rfl)) (pe_glob (v := .int 24) (by rfl) mFAR ⟨_, rfl⟩) (nomark _)))))
       (pss_one (ps_ret pe_non))
       pss_nil)
       (pss_one (ps_ret (pe_ix (ixT (K := K) rfl) (pe_callB (minTK (K := K) rfl rfl hu) (by rfl) B.min (by decide +kernel) (pa_cons (pv 3) pa_nil)) pe_int (fun _ _ => rfl)))))), ?_⟩
    obtain ⟨dx, g, h1, hg⟩ := id FA
    obtain ⟨⟨dr, la, g1, g2⟩, g3, R, FO⟩ := id RA
    refine ⟨_, rfl, p, C, dx, _, _, rfl, h1, T.cl, T.lanes, rfl, l, dr, _, rfl, g1, rfl, _, rfl, l, fa, L, h, rfl, RA, fun H1 na s1 hN => ?_⟩
    obtain ⟨xs, hxs, rx⟩ := hN.inv
    have lr := R.few
    have ln : (nbrs L h).length ≤ 14 := by
      have h1 := List.length_filterMap_le (nbr1 L h) L.rs
      unfold nbrs
      omega
    refine ⟨na, rfl, ⟨_, hxs⟩, fun D nD => ?_⟩
    refine comp_it (K := K) (enc := nbD) (L := nbrs L h) (is := [4, 5, 6]) (walk_tup (K := K) (a := na)) (fun H' s' => SqT.sm hxs s') (fun _ => true) (fun q => ndD (wy X o q)) rx nD (by omega) ?_ ?_
    · intro j q x H' Q' N hq rr s' hQ _
      obtain ⟨t, rfl, ht⟩ := Rp.nb rr
      have bd := nbr_bd R (List.mem_of_getElem? hq)
      refine ⟨t, _, rfl, ht, rfl, _, _, rfl, _, _, rfl, _, _, rfl, rfl, ?_⟩
      refine ⟨rfl, tYes_t (iteT ?_)⟩
      have s0' := s1.trans s'
      refine ⟨_, rfl, _, rfl, p, dx, _, rfl, s0' _ _ h1, rfl, _, rfl, _, rfl, p, l, L.m, q.1, o, X, rfl, FA.same s0', bd.2.2.2.2.2.1, ho, _, _, rfl, rfl, _, rfl, (by show 2 ≤ sizeLine; decide), fun tp n_tp => ?_⟩
      dsimp only
      rw [show (q.2.1 : Int) + (X q.1 o : Nat) = ((q.2.1 + X q.1 o : Nat) : Int) by omega]
      generalize e_H2 : upd _ tp _ = H2
      obtain ⟨s2, r2⟩ := new_tup (K := K) n_tp e_H2 (by walk_at "rpl")
      clear e_H2
      exact hQ rfl H2 _ s2 r2
    · intro H2 ys s2 hD ry
      rw [filter_yes] at ry
      have ry : RpL K H2 (((nbrs L h).map (wy X o)).map ndD) ys := by
        rw [List.map_map]
        exact ry
      have lw : ((nbrs L h).map (wy X o)).length ≤ 14 := by rw [List.length_map]; exact ln
      have k : ∀ H', Same H H' → Q (optV (nextW ((nbrs L h).map (wy X o)))) H' := k
      generalize (nbrs L h).map (wy X o) = ws at ry lw k
      refine ⟨_, rfl, Nat.zero_le _, fun e n_e => ?_⟩
      obtain ⟨H3, e_H3, s3, g3'⟩ := new_any n_e
      rw [← e_H3]
      clear e_H3
      have ry3 := RpL.tk' ry (TK.of s3)
      have hD3 := s3 _ _ hD
      have s03 := (s1.trans s2).trans s3
      refine ⟨.list (ws.map ndD), .list [], .lst (SqL.of hD3) (RpL.dp _ _ ry3), .lst (SqL.of g3') .nil, nds_shp ws, rfl, _, rfl, ?_⟩
      rw [nds_nil]
      refine iteP (fun c => ?_) (fun c => ?_)
      · subst c
        exact iteT (k H3 s03)
      have hpos : 0 < ws.length := List.length_pos_iff.mpr c
      obtain ⟨ts, rfl, lts, hts⟩ := nds_refs ry3
      obtain ⟨mn, e1, e2⟩ := least_min hpos
      have hat : ∀ (i : Nat) (t : Addr) (ns : List Int), ts[i]? = some t → (ws.map prI)[i]? = some ns → SqT K H3 t (ns.map V.int) := fun i t ns et en => by
        rw [List.getElem?_map] at en
        cases ew : ws[i]? with
        | none => rw [ew] at en; cases en
        | some p =>
          rw [ew] at en
          cases en
          exact hts i t p et ew
      have hl : leastT (ws.map prI) ((ws.map prI).length - 1) < ts.length := by
        have := (List.getElem?_eq_some_iff.mp e1).1
        omega
      refine ⟨_, rfl, D, ts, ws.map prI, rfl, SqL.of hD3, by rw [List.length_map]; exact lts, by omega, hat, fun t et => ?_⟩
      have ht := hts _ t mn et e1
      refine ⟨t, _, _, _, rfl, rfl, ht, rfl, _, _, rfl, rfl, _, rfl, iteP (fun c2 => ?_) (fun c2 => ?_)⟩
      · have k1 := k H3 s03
        unfold nextW at k1
        rw [e2] at k1
        simp only [if_pos (show 24 ≤ mn.1 by omega)] at k1
        exact k1
      · refine ⟨_, rfl, D, ts, ws.map prI, rfl, SqL.of hD3, by rw [List.length_map]; exact lts, by omega, hat, fun t et => ?_⟩
        have ht := hts _ t mn et e1
        refine ⟨t, _, _, _, rfl, rfl, ht, rfl, ?_⟩
        have k1 := k H3 s03
        unfold nextW at k1
        rw [e2] at k1
        simp only [if_neg (show ¬ 24 ≤ mn.1 by omega)] at k1
        exact k1
end
end Wn

set_option maxHeartbeats 800000
namespace Wn
open PySem L2
open SX (S S_len S_cat S_beq_eq join_S)
set_option pp.maxSteps 700
set_option pp.deepTerms false
local macro_rules | `(tactic| walk_at "h") => `(tactic| first | with_reducible assumption | (with_reducible exact upd_same) | (with_reducible apply g_upd; (walk_at "neq"); (walk_at "h")) | (with_reducible apply g_same; (with_reducible assumption); (walk_at "h")) | (with_reducible apply g_kp; (with_reducible assumption); (walk_at "nin"); (walk_at "h")) | (with_reducible apply g_tk; (with_reducible assumption); (walk_at "h")))
local macro_rules | `(tactic| walk_at "neq") => `(tactic| first | with_reducible assumption | (with_reducible apply Ne.symm; with_reducible assumption) | (with_reducible apply ne_upd; (with_reducible assumption)) | (with_reducible apply Ne.symm; with_reducible apply ne_upd; with_reducible assumption) | (with_reducible apply ne_fr; (with_reducible assumption); (walk_at "h")) | (with_reducible apply ne_fr'; (with_reducible assumption); (walk_at "h")) | (with_reducible apply ne_kd; (walk_at "h"); (walk_at "h"); (with_unfolding_all (intro z; cases z))))
local macro_rules | `(tactic| walk_at "nin") => `(tactic| first | (with_reducible exact nin0) | with_reducible assumption | (with_reducible apply ninc; (walk_at "neq"); (walk_at "nin")))
local macro_rules | `(tactic| walk_at "none") => `(tactic| first | with_reducible assumption | (with_reducible apply n_upd; (with_reducible assumption)) | (with_reducible apply n_same; (with_reducible assumption); (walk_at "none")) | (with_reducible apply n_kp; (with_reducible assumption); (walk_at "nin"); (walk_at "none")))
local macro_rules | `(tactic| walk_at "mem") => `(tactic| first | (with_reducible exact List.mem_cons_self) | (with_reducible apply List.mem_cons_of_mem; (walk_at "mem")))
local macro_rules | `(tactic| walk_at "am") => `(tactic| first | (with_reducible exact am0) | (with_reducible apply am1; (first | (apply Or.inl; walk_at "mem") | (apply Or.inr; walk_at "none")); (walk_at "am")))
local macro_rules | `(tactic| walk_at "tk") => `(tactic| first | (with_reducible exact TK.refl _) | with_reducible assumption | (with_reducible apply t_tk; (with_reducible assumption); (walk_at "tk")) | (with_reducible apply t_same; (with_reducible assumption); (walk_at "tk")) | (with_reducible apply t_new; (with_reducible assumption); (walk_at "tk")) | (with_reducible apply t_wr; (walk_at "h"); (with_unfolding_all rfl); (walk_at "tk")))
local macro_rules | `(tactic| walk_at "same") => `(tactic| first | (with_reducible exact L2.Same.refl _) | with_reducible assumption | (with_reducible apply s_same; (with_reducible assumption); (walk_at "same")) | (with_reducible apply s_new; (with_reducible assumption); (walk_at "same")) | (with_reducible apply s_wrn; (walk_at "none"); (walk_at "same")))
local macro_rules | `(tactic| walk_at "kp") => `(tactic| first | (with_reducible exact Kp.refl _ _) | with_reducible assumption | (with_reducible apply k_same; (with_reducible assumption); (walk_at "kp")) | (with_reducible apply k_kp; (with_reducible assumption); (walk_at "kp")) | (with_reducible apply k_kpm; (with_reducible assumption); (walk_at "am"); (walk_at "kp")) | (with_reducible apply k_new; (with_reducible assumption); (walk_at "kp")) | (with_reducible apply k_wr; (walk_at "mem"); (walk_at "kp")) | (with_reducible apply k_wrn; (walk_at "none"); (walk_at "kp")))
local macro_rules | `(tactic| walk_at "rp") => `(tactic| first | with_reducible assumption | (with_reducible exact Rp.int) | (with_reducible exact Rp.str) | (with_reducible exact Rp.none) | (with_reducible exact Rp.bool) | (with_reducible apply Rp.tk'; (with_reducible assumption); (walk_at "tk")) | (with_reducible apply Rp.tup; (walk_at "h"); (walk_at "rpl")))
local macro_rules | `(tactic| walk_at "rpl") => `(tactic| first | with_reducible assumption | (with_reducible exact RpL.nil) | (with_reducible apply RpL.tk'; (with_reducible assumption); (walk_at "tk")) | (with_reducible apply RpL.cons; (walk_at "rp"); (walk_at "rpl")))
local macro_rules | `(tactic| walk_at "g") => `(tactic| repeat (first | refine ⟨_, rfl, ?_⟩ | refine ⟨_, _, rfl, rfl, ?_⟩ | refine ⟨rfl, _, rfl, ?_⟩ | refine ⟨_, _, rfl, rfl, (by first | decide | omega), ?_⟩))
abbrev sGInit : Stmt := (inClass (top 65) 0)
abbrev sGCopy : Stmt := (inClass (top 65) 1)
abbrev sGHouses : Stmt := (inClass (top 65) 2)
abbrev sGBeat : Stmt := (inClass (top 65) 3)
abbrev sGTold : Stmt := (inClass (top 65) 4)
abbrev sGMade : Stmt := (inClass (top 65) 5)
abbrev sGDrops : Stmt := (inClass (top 65) 6)
abbrev sGFrames : Stmt := (inClass (top 65) 7)
abbrev sGLetters : Stmt := (inClass (top 65) 8)
abbrev sGHeaps : Stmt := (inClass (top 65) 9)
abbrev sGNew : Stmt := (inClass (top 65) 10)
abbrev sGDrop : Stmt := (inClass (top 65) 11)
abbrev sGForget : Stmt := (inClass (top 65) 12)
abbrev sGSend : Stmt := (inClass (top 65) 13)
abbrev sGSet : Stmt := (inClass (top 65) 14)
abbrev sGPut : Stmt := (inClass (top 65) 15)
abbrev sGLook : Stmt := (inClass (top 65) 16)
abbrev sGStep : Stmt := (inClass (top 65) 17)
abbrev sGGo : Stmt := (inClass (top 65) 18)
abbrev sGArr : Stmt := (inClass (top 65) 19)
abbrev sGJoin : Stmt := (inClass (top 65) 20)
abbrev sGFall : Stmt := (inClass (top 65) 21)
abbrev sGRise : Stmt := (inClass (top 65) 22)
/-- the classes -/
structure Gc where
  G : Addr
  R : Addr
  F : Addr
  Fr : Addr
  H : Addr
/-- where all of a ground lies -/
structure Ga where
  g : Addr
  dx : Addr
  l : Addr
  fa : Addr
  p : Addr
  ra : Addr
  ma : Addr
  pa : Addr
  lo : Addr
  af : Int → Addr
  tp : Int → Addr
  ho : Int → Addr
  hd : Int → Addr
def gF (A : Ga) (G : Gd) : List (Str × V) := [("lanes", .ref A.l), ("known", .ref A.p), ("clock", .int G.clock), ("running", .ref A.ra), ("moving", .ref A.ma), ("piles", .ref A.pa), ("made_letters", .int G.ml), ("made_frames", .int G.mf), ("lost", .ref A.lo)]
def ltD (t : LT) : PyData := .tuple [.int t.1, .int t.2.1, .str (S t.2.2)]
def drpD (t : Drp) : PyData := .tuple [.int t.1, .str t.2.1, .int t.2.2]
def mvK (A : Ga) (mov : List (Int × Fr)) : List (Key × V) := mov.map fun kv => (Sum.inl kv.1, V.ref (A.af kv.1))
def plK (A : Ga) (pil : List (Int × Pl)) : List (Key × V) := pil.map fun kv => (Sum.inl kv.1, V.ref (A.tp kv.1))
structure MovAt (c : Gc) (H : Hp) (A : Ga) (mov : List (Int × Fr)) : Prop where
  d : H A.ma = some (.dK (mvK A mov))
  fr : ∀ kv ∈ mov, FrAt c.Fr H (A.af kv.1) kv.2
  inj : ∀ k ∈ mov.map (·.1), ∀ k' ∈ mov.map (·.1), A.af k = A.af k' → k = k'
  nd : (mov.map (·.1)).Nodup
  few : mov.length ≤ 1000000
structure PilAt (K : PySem.W.Frag) (c : Gc) (H : Hp) (A : Ga) (pil : List (Int × Pl)) : Prop where
  d : H A.pa = some (.dK (plK A pil))
  tp : ∀ kv ∈ pil, SqT K H (A.tp kv.1) [.int kv.2.beat, .ref (A.ho kv.1)]
  hp : ∀ kv ∈ pil, HeapAt K c.H H (A.ho kv.1) (A.hd kv.1) kv.2.many kv.2.m
  inj : ∀ k ∈ pil.map (·.1), ∀ k' ∈ pil.map (·.1), A.ho k = A.ho k' → k = k'
  injd : ∀ k ∈ pil.map (·.1), ∀ k' ∈ pil.map (·.1), A.hd k = A.hd k' → k = k'
  ra : ∀ k ∈ pil.map (·.1), A.hd k ≠ A.ra ∧ A.hd k ≠ A.ma ∧ A.hd k ≠ A.pa
  nd : (pil.map (·.1)).Nodup
  few : pil.length ≤ 1000000
  sm : ∀ kv ∈ pil, kv.2.m.length ≤ 100000
structure GroundAt (K : PySem.W.Frag) (c : Gc) (H : Hp) (A : Ga) (G : Gd) : Prop where
  o : H A.g = some (.ins c.G A.dx (gF A G))
  R : RoadsAt K c.R H A.l A.fa G.L
  F : FarsAt K c.F H A.p A.l G.L.m G.X
  run : DictAt ltD K H A.ra G.run
  mov : MovAt c H A G.mov
  pil : PilAt K c H A G.pil
  lost : LstAt K H A.lo (G.lost.map drpD)
  rm : A.ra ≠ A.ma
  rp : A.ra ≠ A.pa
  mp : A.ma ≠ A.pa
  lf : G.lost.length ≤ 1000000
  rf : G.run.length ≤ 1000000
/-- all that a ground may change -/
def Ga.foot (A : Ga) (G : Gd) : List Addr := [A.g, A.l, A.fa, A.p, A.ra, A.ma, A.pa, A.lo] ++ G.mov.map (fun kv => A.af kv.1) ++ G.pil.map (fun kv => A.ho kv.1) ++ G.pil.map (fun kv => A.hd kv.1)
section
variable {K : PySem.W.Frag} {c : Gc} {H H' : Hp} {A : Ga} {G : Gd}
theorem GroundAt.kp {M : List Addr} (h : GroundAt K c H A G) (k : Kp M H H') (t : TK H H') (n : ∀ a ∈ A.foot G, a ∉ M) : GroundAt K c H' A G := by
  have n8 : ∀ a ∈ [A.g, A.l, A.fa, A.p, A.ra, A.ma, A.pa, A.lo], a ∉ M := fun a ha => n a (List.mem_append_left _ (List.mem_append_left _ (List.mem_append_left _ ha)))
  have nf : ∀ kv ∈ G.mov, A.af kv.1 ∉ M := fun kv hk => n _ (List.mem_append_left _ (List.mem_append_left _ (List.mem_append_right _ (List.mem_map.mpr ⟨kv, hk, rfl⟩))))
  have nh : ∀ kv ∈ G.pil, A.ho kv.1 ∉ M := fun kv hk => n _ (List.mem_append_left _ (List.mem_append_right _ (List.mem_map.mpr ⟨kv, hk, rfl⟩)))
  have nd : ∀ kv ∈ G.pil, A.hd kv.1 ∉ M := fun kv hk => n _ (List.mem_append_right _ (List.mem_map.mpr ⟨kv, hk, rfl⟩))
  exact ⟨k _ _ (n8 _ (by simp)) h.o, h.R.kp k t (n8 _ (by simp)) (n8 _ (by simp)), h.F.kp k t (n8 _ (by simp)), h.run.kp k t (n8 _ (by simp)),
    ⟨k _ _ (n8 _ (by simp)) h.mov.d, fun kv hk => (h.mov.fr kv hk).kp k (nf kv hk), h.mov.inj, h.mov.nd, h.mov.few⟩,
    ⟨k _ _ (n8 _ (by simp)) h.pil.d, fun kv hk => SqT.tk (h.pil.tp kv hk) t, fun kv hk => (h.pil.hp kv hk).kp k t (nh kv hk) (nd kv hk), h.pil.inj, h.pil.injd, h.pil.ra, h.pil.nd, h.pil.few, h.pil.sm⟩,
    h.lost.kp k t (n8 _ (by simp)), h.rm, h.rp, h.mp, h.lf, h.rf⟩
theorem GroundAt.same (h : GroundAt K c H A G) (s : Same H H') : GroundAt K c H' A G := h.kp (M := []) (Kp.of s) (TK.of s) (fun _ _ => nin0)
/-- every place of a foot is taken -/
theorem GroundAt.taken (h : GroundAt K c H A G) : ∀ a ∈ A.foot G, ∃ o, H a = some o := by
  intro a ha
  unfold Ga.foot at ha
  rcases List.mem_append.mp ha with ha | ha
  · rcases List.mem_append.mp ha with ha | ha
    · rcases List.mem_append.mp ha with ha | ha
      · simp only [List.mem_cons, List.not_mem_nil, or_false] at ha
        rcases ha with rfl | rfl | rfl | rfl | rfl | rfl | rfl | rfl
        · exact ⟨_, h.o⟩
        · obtain ⟨dx, fs, e⟩ := h.R.at.1; exact ⟨_, e⟩
        · obtain ⟨kv, e⟩ := h.R.at.2; exact ⟨_, e⟩
        · obtain ⟨dx, g, e, _⟩ := h.F; exact ⟨_, e⟩
        · obtain ⟨kvs, e, _⟩ := h.run; exact ⟨_, e⟩
        · exact ⟨_, h.mov.d⟩
        · exact ⟨_, h.pil.d⟩
        · obtain ⟨xs, e, _⟩ := h.lost; exact ⟨_, e⟩
      · obtain ⟨kv, hk, rfl⟩ := List.mem_map.mp ha
        obtain ⟨dx, e⟩ := h.mov.fr kv hk
        exact ⟨_, e⟩
    · obtain ⟨kv, hk, rfl⟩ := List.mem_map.mp ha
      obtain ⟨⟨dx, e⟩, _⟩ := h.pil.hp kv hk
      exact ⟨_, e⟩
  · obtain ⟨kv, hk, rfl⟩ := List.mem_map.mp ha
    obtain ⟨_, kvs, e, _⟩ := h.pil.hp kv hk
    exact ⟨_, e⟩
theorem ne_ins {a b C d C' d' : Addr} {fs fs' : List (Str × V)} (h1 : H a = some (.ins C d fs)) (h2 : H b = some (.ins C' d' fs')) (h : fs.length ≠ fs'.length) : a ≠ b := fun z => by
  subst z
  rw [h1] at h2
  cases h2
  exact h rfl
theorem GroundAt.gne (h : GroundAt K c H A G) : A.g ≠ A.l ∧ A.g ≠ A.fa ∧ A.g ≠ A.p ∧ A.g ≠ A.ra ∧ A.g ≠ A.ma ∧ A.g ≠ A.pa ∧ A.g ≠ A.lo ∧ (∀ kv ∈ G.mov, A.g ≠ A.af kv.1) ∧ (∀ kv ∈ G.pil, A.g ≠ A.ho kv.1 ∧ A.g ≠ A.hd kv.1) := by
  obtain ⟨⟨dr, la, hr, _⟩, hfa, _⟩ := id h.R
  obtain ⟨df, gr, hp, _⟩ := id h.F
  obtain ⟨kr, hra, _⟩ := id h.run
  obtain ⟨xs, hlo, _⟩ := id h.lost
  refine ⟨ne_ins h.o hr (by show 9 ≠ 3; decide), ne_of h.o hfa (by intro z; cases z), ne_ins h.o hp (by show 9 ≠ 2; decide), ne_of h.o hra (by intro z; cases z), ne_of h.o h.mov.d (by intro z; cases z), ne_of h.o h.pil.d (by intro z; cases z), ne_of h.o hlo (by intro z; cases z), fun kv hk => ?_, fun kv hk => ?_⟩
  · obtain ⟨dy, e⟩ := h.mov.fr kv hk
    exact ne_ins h.o e (by show 9 ≠ 8; decide)
  · obtain ⟨⟨dy, e⟩, kq, e2, _⟩ := h.pil.hp kv hk
    exact ⟨ne_ins h.o e (by show 9 ≠ 2; decide), ne_of h.o e2 (by intro z; cases z)⟩
/-- only the ground's own fields change -/
theorem GroundAt.self {G' : Gd} (h : GroundAt K c H A G) (k : Kp [A.g] H H') (t : TK H H') (o : H' A.g = some (.ins c.G A.dx (gF A G'))) (eL : G'.L = G.L) (eX : G'.X = G.X) (er : G'.run = G.run) (em : G'.mov = G.mov) (ep : G'.pil = G.pil) (el : G'.lost = G.lost) : GroundAt K c H' A G' := by
  obtain ⟨n1, n2, n3, n4, n5, n6, n7, n8, n9⟩ := h.gne
  refine ⟨o, ?_, ?_, ?_, ?_, ?_, ?_, h.rm, h.rp, h.mp, ?_, ?_⟩
  · rw [eL]; exact h.R.kp k t (nin1 n1.symm) (nin1 n2.symm)
  · rw [eL, eX]; exact h.F.kp k t (nin1 n3.symm)
  · rw [er]; exact h.run.kp k t (nin1 n4.symm)
  · rw [em]; exact ⟨k _ _ (nin1 n5.symm) h.mov.d, fun kv hk => (h.mov.fr kv hk).kp k (nin1 (n8 kv hk).symm), h.mov.inj, h.mov.nd, h.mov.few⟩
  · rw [ep]; exact ⟨k _ _ (nin1 n6.symm) h.pil.d, fun kv hk => SqT.tk (h.pil.tp kv hk) t, fun kv hk => (h.pil.hp kv hk).kp k t (nin1 (n9 kv hk).1.symm) (nin1 (n9 kv hk).2.symm), h.pil.inj, h.pil.injd, h.pil.ra, h.pil.nd, h.pil.few, h.pil.sm⟩
  · rw [el]; exact h.lost.kp k t (nin1 n7.symm)
  · rw [el]; exact h.lf
  · rw [er]; exact h.rf
theorem GroundAt.lone (h : GroundAt K c H A G) : A.lo ≠ A.g ∧ A.lo ≠ A.l ∧ A.lo ≠ A.fa ∧ A.lo ≠ A.p ∧ A.lo ≠ A.ra ∧ A.lo ≠ A.ma ∧ A.lo ≠ A.pa ∧ (∀ kv ∈ G.mov, A.lo ≠ A.af kv.1) ∧ (∀ kv ∈ G.pil, A.lo ≠ A.ho kv.1 ∧ A.lo ≠ A.hd kv.1) := by
  obtain ⟨⟨dr, la, hr, _⟩, hfa, _⟩ := id h.R
  obtain ⟨df, gr, hp, _⟩ := id h.F
  obtain ⟨kr, hra, _⟩ := id h.run
  obtain ⟨xs, hlo, _⟩ := id h.lost
  refine ⟨ne_of hlo h.o (by intro z; cases z), ne_of hlo hr (by intro z; cases z), ne_of hlo hfa (by intro z; cases z), ne_of hlo hp (by intro z; cases z), ne_of hlo hra (by intro z; cases z), ne_of hlo h.mov.d (by intro z; cases z), ne_of hlo h.pil.d (by intro z; cases z), fun kv hk => ?_, fun kv hk => ?_⟩
  · obtain ⟨dy, e⟩ := h.mov.fr kv hk
    exact ne_of hlo e (by intro z; cases z)
  · obtain ⟨⟨dy, e⟩, kq, e2, _⟩ := h.pil.hp kv hk
    exact ⟨ne_of hlo e (by intro z; cases z), ne_of hlo e2 (by intro z; cases z)⟩
/-- only the list of drops changes -/
theorem GroundAt.setLost {ls : List Drp} (h : GroundAt K c H A G) (k : Kp [A.lo] H H') (t : TK H H') (l : LstAt K H' A.lo (ls.map drpD)) (few : ls.length ≤ 1000000) : GroundAt K c H' A { G with lost := ls } := by
  obtain ⟨n1, n2, n3, n4, n5, n6, n7, n8, n9⟩ := h.lone
  exact ⟨k _ _ (nin1 n1.symm) h.o, h.R.kp k t (nin1 n2.symm) (nin1 n3.symm), h.F.kp k t (nin1 n4.symm), h.run.kp k t (nin1 n5.symm),
    ⟨k _ _ (nin1 n6.symm) h.mov.d, fun kv hk => (h.mov.fr kv hk).kp k (nin1 (n8 kv hk).symm), h.mov.inj, h.mov.nd, h.mov.few⟩,
    ⟨k _ _ (nin1 n7.symm) h.pil.d, fun kv hk => SqT.tk (h.pil.tp kv hk) t, fun kv hk => (h.pil.hp kv hk).kp k t (nin1 (n9 kv hk).1.symm) (nin1 (n9 kv hk).2.symm), h.pil.inj, h.pil.injd, h.pil.ra, h.pil.nd, h.pil.few, h.pil.sm⟩,
    l, h.rm, h.rp, h.mp, few, h.rf⟩
/-- behind a deed of a ground: E are further things that it may change -/
structure Aft (K : PySem.W.Frag) (c : Gc) (E : List Addr) (H : Hp) (A : Ga) (G : Gd) (H' : Hp) (A' : Ga) (G' : Gd) : Prop where
  at' : GroundAt K c H' A' G'
  kp : Kp (E ++ A.foot G) H H'
  g : A'.g = A.g
  sub : ∀ a ∈ A'.foot G', a ∈ E ++ A.foot G ∨ H a = none
theorem Aft.of_same {E : List Addr} (h : GroundAt K c H A G) (s : Same H H') : Aft K c E H A G H' A G := ⟨h.same s, Kp.of s, rfl, fun a ha => .inl (List.mem_append_right _ ha)⟩
theorem Aft.trans {E E1 : List Addr} {H1 H2 : Hp} {A1 A2 : Ga} {G1 G2 : Gd} (h : Aft K c E H A G H1 A1 G1) (h' : Aft K c E1 H1 A1 G1 H2 A2 G2) (hE : ∀ a ∈ E1, a ∈ E ++ A.foot G ∨ H a = none) : Aft K c E H A G H2 A2 G2 := by
  refine ⟨h'.at', fun b o hb e => ?_, h'.g.trans h.g, fun a ha => ?_⟩
  · refine h'.kp b o (fun z => ?_) (h.kp b o hb e)
    rcases List.mem_append.mp z with z | z
    · rcases hE b z with z | z
      · exact hb z
      · rw [z] at e; cases e
    · rcases h.sub b z with z | z
      · exact hb z
      · rw [z] at e; cases e
  · rcases h'.sub a ha with z | z
    · rcases List.mem_append.mp z with z | z
      · exact hE a z
      · exact h.sub a z
    · by_cases hb : a ∈ E ++ A.foot G
      · exact .inl hb
      · cases e : H a with
        | none => exact .inr rfl
        | some o => rw [h.kp a o hb e] at z; cases z
end
structure TG (K : PySem.W.Frag) (c : Gc) : Prop where
  cl : Cls K c.G
  lanes : NoAttr K c.G "lanes"
  known : NoAttr K c.G "known"
  clock : NoAttr K c.G "clock"
  running : NoAttr K c.G "running"
  moving : NoAttr K c.G "moving"
  piles : NoAttr K c.G "piles"
  made_letters : NoAttr K c.G "made_letters"
  made_frames : NoAttr K c.G "made_frames"
  lost : NoAttr K c.G "lost"
  R : TRoads K c.R
  F : TFars K c.F
  Fr : TFr K c.Fr
structure GB (mg : Str → Option Value) : Prop where
  tuple : mg "tuple" = none
  len : mg "len" = none
  list : mg "list" = none
  dict : mg "dict" = none
  sorted : mg "sorted" = none
  set : mg "set" = none
  isinstance : mg "isinstance" = none
  str : mg "str" = none
  enumerate : mg "enumerate" = none
def spGBeat (K : PySem.W.Frag) (c : Gc) : Sp := fun vs H Q _ => ∃ (A : Ga) (G : Gd), vs = [.ref A.g] ∧ GroundAt K c H A G ∧ Q (.int G.clock) H
def spGNew (K : PySem.W.Frag) (c : Gc) : Sp := fun vs H Q _ => ∃ (A : Ga) (G : Gd), vs = [.ref A.g] ∧ GroundAt K c H A G ∧ ∀ H', Kp [A.g] H H' → GroundAt K c H' A { G with mf := G.mf + 1 } → Q (.int G.mf) H'
def spGMade (K : PySem.W.Frag) (c : Gc) : Sp := fun vs H Q _ => ∃ (A : Ga) (G : Gd), vs = [.ref A.g] ∧ GroundAt K c H A G ∧ ∀ H' v, Same H H' → Rp K H' (.tuple [.int G.ml, .int G.mf]) v → Q v H'
def spGDrops (K : PySem.W.Frag) (c : Gc) : Sp := fun vs H Q _ => ∃ (A : Ga) (G : Gd), vs = [.ref A.g] ∧ GroundAt K c H A G ∧ ∀ H' v, Same H H' → Rp K H' (.tuple (G.lost.map drpD)) v → Q v H'
def spGDrop (K : PySem.W.Frag) (c : Gc) : Sp := fun vs H Q _ => ∃ (A : Ga) (G : Gd) (why : Str) (l : Nat), vs = [.ref A.g, .str why, .int l] ∧ GroundAt K c H A G ∧ G.lost.length < 1000000 ∧ ∀ H', Kp [A.lo] H H' → GroundAt K c H' A (G.drop why l) → Q .non H'
def toldGD (G : Gd) : PyData := .tuple [.int G.L.m, .tuple (G.L.rs.map rdD), .tuple ((upOf G.L).map PyData.bool), .tuple (gridD G.X G.L.m)]
def spGTold (K : PySem.W.Frag) (c : Gc) : Sp := fun vs H Q _ => ∃ (A : Ga) (G : Gd), vs = [.ref A.g] ∧ GroundAt K c H A G ∧ ∀ H' v, Same H H' → Rp K H' (toldGD G) v → Q v H'

section
variable {P : Program} {w : World} {K : PySem.W.Frag} {mg : Str → Option Value} {base : Heap} {c : Gc}
theorem scGBeat : FnScope ["self"] ["self"] (defScope sGBeat) := ⟨rfl, rfl, rfl, by decide +kernel, rfl, by decide +kernel, by decide +kernel⟩
theorem ok_gbeat {f : Addr} {fd : FuncData} (F : Fun K "beat" "Ground.beat" sGBeat f fd) (T : TG K c) : FnOk P w K mg base CX0 1 f fd ["self"] (spGBeat K c) := by
  refine F.ok scGBeat (fun vs H Q E h => ?_) (fun cdv A outer s H vs Q E hr h => ?_)
  · obtain ⟨A, G, rfl, _⟩ := h
    rfl
  · obtain ⟨A, G, rfl, g, k⟩ := h
    refine ⟨_, (pss_one (ps_ret (fldK (K := K) rfl (pv 0) rfl))), ?_⟩
    exact ⟨_, rfl, A.g, c.G, A.dx, _, _, rfl, g.o, T.cl, T.clock, rfl, k⟩
theorem scGNew : FnScope ["self"] ["self"] (defScope sGNew) := ⟨rfl, rfl, rfl, by decide +kernel, rfl, by decide +kernel, by decide +kernel⟩
theorem ok_gnew {f : Addr} {fd : FuncData} (F : Fun K "new_number" "Ground.new_number" sGNew f fd) (T : TG K c) : FnOk P w K mg base CX0 1 f fd ["self"] (spGNew K c) := by
  refine F.ok scGNew (fun vs H Q E h => ?_) (fun cdv A outer s H vs Q E hr h => ?_)
  · obtain ⟨A, G, rfl, _⟩ := h
    rfl
  · obtain ⟨A, G, rfl, g, k⟩ := h
    refine ⟨_, (pss_cons (ps_fldaug (pv 0) pe_int in_add)
       (pss_one (ps_ret (pe_op op_sub (fldK (K := K) rfl (pv 0) rfl) pe_int)))), ?_⟩
    refine ⟨_, rfl, A.g, c.G, A.dx, _, _, rfl, g.o, T.cl, T.made_frames, rfl, _, _, rfl, rfl, _, _, g.o, (by show 9 < 1000; decide), ?_⟩
    have go := g.o
    obtain ⟨H1, e_H1, k1, t1, h1⟩ := wr_any go rfl
    rw [← e_H1]
    clear e_H1
    have e : ((G.mf : Int) + 1) = ((G.mf + 1 : Nat) : Int) := by omega
    rw [e] at h1
    have g1 : GroundAt K c H1 A { G with mf := G.mf + 1 } := g.self k1 t1 h1 rfl rfl rfl rfl rfl rfl
    refine ⟨_, rfl, A.g, c.G, A.dx, _, _, rfl, h1, T.cl, T.made_frames, rfl, _, _, rfl, rfl, ?_⟩
    have k' := k H1 k1 g1
    rw [show (G.mf : Int) = ((G.mf + 1 : Nat) : Int) - 1 by omega] at k'
    exact k'
theorem scGMade : FnScope ["self"] ["self"] (defScope sGMade) := ⟨rfl, rfl, rfl, by decide +kernel, rfl, by decide +kernel, by decide +kernel⟩
theorem ok_gmade {f : Addr} {fd : FuncData} (F : Fun K "made" "Ground.made" sGMade f fd) (T : TG K c) : FnOk P w K mg base CX0 1 f fd ["self"] (spGMade K c) := by
  refine F.ok scGMade (fun vs H Q E h => ?_) (fun cdv A outer s H vs Q E hr h => ?_)
  · obtain ⟨A, G, rfl, _⟩ := h
    rfl
  · obtain ⟨A, G, rfl, g, k⟩ := h
    refine ⟨_, (pss_one (ps_ret (pe_tup (pa_cons (fldK (K := K) rfl (pv 0) rfl) (pa_cons (fldK (K := K) rfl (pv 0) rfl) pa_nil))))), ?_⟩
    refine ⟨_, rfl, A.g, c.G, A.dx, _, _, rfl, g.o, T.cl, T.made_letters, rfl, _, rfl, A.g, c.G, A.dx, _, _, rfl, g.o, T.cl, T.made_frames, rfl, (by show 2 ≤ sizeLine; decide), fun t n_t => ?_⟩
    exact k _ _ ((L2.Same.refl _).new n_t) (Rp.tup upd_same (RpL.cons Rp.int (RpL.cons Rp.int RpL.nil)))
theorem scGDrops : FnScope ["self"] ["self"] (defScope sGDrops) := ⟨rfl, rfl, rfl, by decide +kernel, rfl, by decide +kernel, by decide +kernel⟩
theorem ok_gdrops {f : Addr} {fd : FuncData} (F : Fun K "drops" "Ground.drops" sGDrops f fd) (T : TG K c) (B : GB mg) : FnOk P w K mg base CX0 1 f fd ["self"] (spGDrops K c) := by
  refine F.ok scGDrops (fun vs H Q E h => ?_) (fun cdv A outer s H vs Q E hr h => ?_)
  · obtain ⟨A, G, rfl, _⟩ := h
    rfl
  · obtain ⟨A, G, rfl, g, k⟩ := h
    refine ⟨_, (pss_one (ps_ret (pe_callTy (tupOfK (K := K) rfl) (by rfl) B.tuple PyProof.Rows.boot_tuple (pa_cons (fldK (K := K) rfl (pv 0) rfl) pa_nil)))), ?_⟩
    obtain ⟨xs, hx, rx⟩ := g.lost
    refine ⟨_, rfl, A.g, c.G, A.dx, _, _, rfl, g.o, T.cl, T.lost, rfl, A.lo, xs, rfl, .inl ⟨SqL.of hx, fun t n_t => ?_⟩⟩
    exact k _ _ ((L2.Same.refl _).new n_t) (Rp.tup upd_same (RpL.tk (TK.of ((L2.Same.refl _).new n_t)) _ _ rx))
theorem scGDrop : FnScope ["self", "why", "letter"] ["self", "why", "letter"] (defScope sGDrop) := ⟨rfl, rfl, rfl, by decide +kernel, rfl, by decide +kernel, by decide +kernel⟩
theorem ok_gdrop {f : Addr} {fd : FuncData} (F : Fun K "drop" "Ground.drop" sGDrop f fd) (T : TG K c) : FnOk P w K mg base CX0 1 f fd ["self", "why", "letter"] (spGDrop K c) := by
  refine F.ok scGDrop (fun vs H Q E h => ?_) (fun cdv A outer s H vs Q E hr h => ?_)
  · obtain ⟨A, G, why, l, rfl, _⟩ := h
    rfl
  · obtain ⟨A, G, why, l, rfl, g, few, k⟩ := h
    refine ⟨_, (pss_one (ps_expr (pe_bm PySem.F.plainAttrs_list PySem.F.slot_list_append PySem.F.type_list_append mt_append (fldK (K := K) rfl (pv 0) rfl) (pa_cons (pe_tup (pa_cons (fldK (K := K) rfl (pv 0) rfl) (pa_cons (pv 1) (pa_cons (pv 2) pa_nil)))) pa_nil)))), ?_⟩
    obtain ⟨xs, hx, rx⟩ := g.lost
    have lx := RpL.len _ _ rx
    rw [List.length_map] at lx
    refine ⟨_, rfl, A.g, c.G, A.dx, _, _, rfl, g.o, T.cl, T.lost, rfl, .inl ⟨rfl, _, SqL.of hx⟩, ?_⟩
    refine ⟨_, rfl, A.g, c.G, A.dx, _, _, rfl, g.o, T.cl, T.clock, rfl, _, rfl, _, rfl, (by show 3 ≤ sizeLine; decide), fun tp n_tp => ?_⟩
    obtain ⟨q1, q2, q3, q4⟩ := push_tup (ds := [.int G.clock, .str why, .int l]) hx rx n_tp (RpL.cons Rp.int (RpL.cons Rp.str (RpL.cons Rp.int RpL.nil)))
    refine ⟨A.lo, _, _, rfl, rfl, q1, Nat.lt_of_le_of_lt (show xs.length ≤ 1000000 by omega) (by decide), ?_⟩
    have ed : (G.lost ++ [(G.clock, why, l)]).map drpD = G.lost.map drpD ++ [.tuple [.int G.clock, .str why, .int l]] := by rw [List.map_append]; rfl
    rw [← ed] at q2
    exact k _ q4 (g.setLost q4 q3 q2 (by rw [List.length_append, List.length_singleton]; omega))
theorem scGTold : FnScope ["self"] ["self"] (defScope sGTold) := ⟨rfl, rfl, rfl, by decide +kernel, rfl, by decide +kernel, by decide +kernel⟩
theorem ok_gtold {f : Addr} {fd : FuncData} (F : Fun K "told" "Ground.told" sGTold f fd) (T : TG K c) (cU : Md P w K mg base 1 c.R "up" ["self"] (spUp K c.R)) (cRo : Md P w K mg base 1 c.F "rows" ["self"] (spRowsF K c.F)) : FnOk P w K mg base CX0 2 f fd ["self"] (spGTold K c) := by
  obtain ⟨fU, fdU, GU, MU, bU⟩ := cU
  obtain ⟨fRo, fdRo, GRo, MRo, bRo⟩ := cRo
  refine F.ok scGTold (fun vs H Q E h => ?_) (fun cdv A outer s H vs Q E hr h => ?_)
  · obtain ⟨A, G, rfl, _⟩ := h
    rfl
  · obtain ⟨A, G, rfl, g, k⟩ := h
    have hr1 : Room 1 _ := hr
    refine ⟨_, (pss_one (ps_ret (pe_tup (pa_cons (fldK (K := K) rfl (fldK (K := K) rfl (pv 0) rfl) rfl) (pa_cons (fldK (K := K) rfl (fldK (K := K) rfl (pv 0) rfl) rfl) (pa_cons (pe_meth0 (fldK (K := K) rfl (pv 0) rfl) T.R.cl MU GU hr1 bU .nil pass0) (pa_cons (pe_meth0 (fldK (K := K) rfl (pv 0) rfl) T.F.cl MRo GRo hr1 bRo .nil pass0) pa_nil))))))), ?_⟩
    obtain ⟨⟨dr, la, hr', hla⟩, _⟩ := id g.R
    obtain ⟨df, gr, hp, hgr⟩ := id g.F
    refine ⟨_, rfl, A.g, c.G, A.dx, _, _, rfl, g.o, T.cl, T.lanes, rfl, A.l, c.R, dr, _, _, rfl, hr', T.R.cl, T.R.many, rfl, _, rfl, A.g, c.G, A.dx, _, _, rfl, g.o, T.cl, T.lanes, rfl, A.l, c.R, dr, _, _, rfl, hr', T.R.cl, T.R.lines, rfl, _, rfl, A.g, c.G, A.dx, _, _, rfl, g.o, T.cl, T.lanes, rfl, A.l, dr, _, rfl, hr', rfl, A.l, A.fa, G.L, rfl, g.R, fun H1 ua s1 hua => ?_⟩
    refine ⟨_, rfl, A.g, c.G, A.dx, _, _, rfl, s1 _ _ g.o, T.cl, T.known, rfl, A.p, df, _, rfl, s1 _ _ hp, rfl, A.p, A.l, G.L.m, G.X, rfl, g.F.same s1, fun gg hgg => ?_⟩
    refine ⟨(by show 4 ≤ sizeLine; decide), fun t n_t => ?_⟩
    refine k _ _ (s1.new n_t) (Rp.tup upd_same ?_)
    have tt := TK.of ((L2.Same.refl H1).new (o := .tup [.int G.L.m, .ref la, .ref ua, .ref gg]) n_t)
    exact RpL.cons Rp.int (RpL.cons ((hla.sm s1).tk tt) (RpL.cons (hua.tk tt) (RpL.cons (hgg.tk tt) RpL.nil)))
end
end Wn

set_option maxHeartbeats 800000
namespace Wn
open PySem L2
set_option pp.maxSteps 700
set_option pp.deepTerms false
local macro_rules | `(tactic| walk_at "h") => `(tactic| first | with_reducible assumption | (with_reducible exact upd_same) | (with_reducible apply g_upd; (walk_at "neq"); (walk_at "h")) | (with_reducible apply g_same; (with_reducible assumption); (walk_at "h")) | (with_reducible apply g_kp; (with_reducible assumption); (walk_at "nin"); (walk_at "h")) | (with_reducible apply g_tk; (with_reducible assumption); (walk_at "h")))
local macro_rules | `(tactic| walk_at "neq") => `(tactic| first | with_reducible assumption | (with_reducible apply Ne.symm; with_reducible assumption) | (with_reducible apply ne_upd; (with_reducible assumption)) | (with_reducible apply Ne.symm; with_reducible apply ne_upd; with_reducible assumption) | (with_reducible apply ne_fr; (with_reducible assumption); (walk_at "h")) | (with_reducible apply ne_fr'; (with_reducible assumption); (walk_at "h")) | (with_reducible apply ne_kd; (walk_at "h"); (walk_at "h"); (with_unfolding_all (intro z; cases z))))
local macro_rules | `(tactic| walk_at "nin") => `(tactic| first | (with_reducible exact nin0) | with_reducible assumption | (with_reducible apply ninc; (walk_at "neq"); (walk_at "nin")))
local macro_rules | `(tactic| walk_at "none") => `(tactic| first | with_reducible assumption | (with_reducible apply n_upd; (with_reducible assumption)) | (with_reducible apply n_same; (with_reducible assumption); (walk_at "none")) | (with_reducible apply n_kp; (with_reducible assumption); (walk_at "nin"); (walk_at "none")))
local macro_rules | `(tactic| walk_at "mem") => `(tactic| first | (with_reducible exact List.mem_cons_self) | (with_reducible apply List.mem_cons_of_mem; (walk_at "mem")))
local macro_rules | `(tactic| walk_at "am") => `(tactic| first | (with_reducible exact am0) | (with_reducible apply am1; (first | (apply Or.inl; walk_at "mem") | (apply Or.inr; walk_at "none")); (walk_at "am")))
local macro_rules | `(tactic| walk_at "tk") => `(tactic| first | (with_reducible exact TK.refl _) | with_reducible assumption | (with_reducible apply t_tk; (with_reducible assumption); (walk_at "tk")) | (with_reducible apply t_same; (with_reducible assumption); (walk_at "tk")) | (with_reducible apply t_new; (with_reducible assumption); (walk_at "tk")) | (with_reducible apply t_wr; (walk_at "h"); (with_unfolding_all rfl); (walk_at "tk")))
local macro_rules | `(tactic| walk_at "same") => `(tactic| first | (with_reducible exact L2.Same.refl _) | with_reducible assumption | (with_reducible apply s_same; (with_reducible assumption); (walk_at "same")) | (with_reducible apply s_new; (with_reducible assumption); (walk_at "same")) | (with_reducible apply s_wrn; (walk_at "none"); (walk_at "same")))
local macro_rules | `(tactic| walk_at "kp") => `(tactic| first | (with_reducible exact Kp.refl _ _) | with_reducible assumption | (with_reducible apply k_same; (with_reducible assumption); (walk_at "kp")) | (with_reducible apply k_kp; (with_reducible assumption); (walk_at "kp")) | (with_reducible apply k_kpm; (with_reducible assumption); (walk_at "am"); (walk_at "kp")) | (with_reducible apply k_new; (with_reducible assumption); (walk_at "kp")) | (with_reducible apply k_wr; (walk_at "mem"); (walk_at "kp")) | (with_reducible apply k_wrn; (walk_at "none"); (walk_at "kp")))
local macro_rules | `(tactic| walk_at "rp") => `(tactic| first | with_reducible assumption | (with_reducible exact Rp.int) | (with_reducible exact Rp.str) | (with_reducible exact Rp.none) | (with_reducible exact Rp.bool) | (with_reducible apply Rp.tk'; (with_reducible assumption); (walk_at "tk")) | (with_reducible apply Rp.tup; (walk_at "h"); (walk_at "rpl")))
local macro_rules | `(tactic| walk_at "rpl") => `(tactic| first | with_reducible assumption | (with_reducible exact RpL.nil) | (with_reducible apply RpL.tk'; (with_reducible assumption); (walk_at "tk")) | (with_reducible apply RpL.cons; (walk_at "rp"); (walk_at "rpl")))
local macro_rules | `(tactic| walk_at "g") => `(tactic| repeat (first | refine ⟨_, rfl, ?_⟩ | refine ⟨_, _, rfl, rfl, ?_⟩ | refine ⟨rfl, _, rfl, ?_⟩ | refine ⟨_, _, rfl, rfl, (by first | decide | omega), ?_⟩))
/-! ### falls and rises of roads that are there: nothing is raised -/
def spPair0 (K : PySem.W.Frag) (C : Addr) : Sp := fun vs H Q _ => ∃ (l fa : Addr) (L : Lan) (x y : Int) (p : Nat × Nat), vs = [.ref l, .int x, .int y] ∧ RoadsAt K C H l fa L ∧ pairOf L.rs x y = some p ∧ ∀ (H' : Hp) (t : Addr), Same H H' → H' t = some (.tup [.int p.1, .int p.2]) → Q (.ref t) H'
def spFall0 (K : PySem.W.Frag) (C : Addr) : Sp := fun vs H Q _ => ∃ (l fa : Addr) (L : Lan) (x y : Int) (p : Nat × Nat), vs = [.ref l, .int x, .int y] ∧ RoadsAt K C H l fa L ∧ pairOf L.rs x y = some p ∧ p ∉ L.fallen ∧ ∀ (H' : Hp), Kp [fa] H H' → RoadsAt K C H' l fa { L with fallen := L.fallen ++ [p] } → Q .non H'
def spRise0 (K : PySem.W.Frag) (C : Addr) : Sp := fun vs H Q _ => ∃ (l fa : Addr) (L : Lan) (x y : Int) (p : Nat × Nat), vs = [.ref l, .int x, .int y] ∧ RoadsAt K C H l fa L ∧ pairOf L.rs x y = some p ∧ p ∈ L.fallen ∧ ∀ (H' : Hp), Kp [fa] H H' → RoadsAt K C H' l fa { L with fallen := L.fallen.filter fun q => decide (q ≠ p) } → Q .non H'

section
variable {P : Program} {w : World} {K : PySem.W.Frag} {mg : Str → Option Value} {base : Heap} {C : Addr}
theorem scRoadsPair0 : FnScope ["self", "a", "b", "row"] ["self", "a", "b"] (defScope sRoadsPair) := ⟨rfl, rfl, rfl, by decide +kernel, rfl, by decide +kernel, by decide +kernel⟩
theorem ok_roadspair0 {f : Addr} {fd : FuncData} (F : Fun K "pair_of" "Roads.pair_of" sRoadsPair f fd) (T : TRoads K C) (cW : Cd P w K mg base 1 "is_whole" ["thing"] (spWholeT K)) :
    FnOk P w K mg base CX0 3 f fd ["self", "a", "b"] (spPair0 K C) := by
  obtain ⟨fW, fdW, GW, mW, kW, bW⟩ := cW
  refine F.ok scRoadsPair0 (fun vs H Q E h => ?_) (fun cdv A outer s H vs Q E hr h => ?_)
  · obtain ⟨l, fa, L, x, y, p, rfl, _⟩ := h
    rfl
  · obtain ⟨l, fa, L, xi, yj, p, rfl, ⟨⟨dx, la, h1, hT⟩, h3, R, FO⟩, hp, k1⟩ := h
    have hr2 : Room 2 _ := hr
    have hr1 : Room 1 _ := hr.mono (by decide)
    refine ⟨_, (pss_cons (ps_for PassesOwn.never rfl (pi_tup (fldK (K := K) rfl (pv 0) rfl)) (pg_name (i := 3) scRoadsPair0.nd rfl (Or.inl rfl))
       (pss_one (ps_if (PW.pt (pw_and (pt_val (pe_call GW hr1 rfl mW kW bW .nil pass0 (pa_cons (pv 1) pa_nil))) (pw_and (pt_val (pe_call GW hr1 rfl mW kW bW .nil pass0 (pa_cons (pv 2) pa_nil))) (pw_and1 (pt_cmpR (inDTK (K := K) rfl (room65 hr)) (pe_slice (slA (K := K) rfl) (pv 3) po_none (po_some pe_int)) (pe_tup (pa_cons (pe_tup (pa_cons (pv 1) (pa_cons (pv 2) pa_nil))) (pa_cons (pe_tup (pa_cons (pv 2) (pa_cons (pv 1) pa_nil))) pa_nil))) (by rfl))))))
       (pss_one (ps_ret (pe_slice (slA (K := K) rfl) (pv 3) po_none (po_some pe_int))))
       pss_nil)))
       (pss_one ps_never)), ?_⟩
    obtain ⟨xs, hxs, rx⟩ := hT.inv
    have lx := RpL.len _ _ rx
    rw [List.length_map] at lx
    have lr := R.few
    refine ⟨_, rfl, l, C, dx, _, _, rfl, h1, T.cl, T.lines, rfl, la, rfl, ⟨_, hxs⟩, ?_⟩
    refine for_tup (K := K) (a := la) (xs := xs) (fun i σ H' => ∃ v3 : Option V, σ = [some (.ref l), some (.int xi), some (.int yj), v3] ∧ Same H H' ∧ pairOf (L.rs.drop i) xi yj = some p) ⟨_, rfl, L2.Same.refl _, hp⟩ (fun i σ H' _ ⟨_, _, s, _⟩ => SqT.sm hxs s) ?_ ?_
    · rintro i z σ H2 hz ⟨v3, rfl, s2, ep⟩
      have hi : i < L.rs.length := by
        have q := (List.getElem?_eq_some_iff.mp hz).1
        omega
      obtain ⟨v, ev, rv⟩ := RpL.get _ _ rx i (rdD L.rs[i]) (by rw [List.getElem?_map, List.getElem?_eq_getElem hi]; rfl)
      have ez : v = z := Option.some.inj (ev.symm.trans hz)
      subst ez
      have edr : L.rs.drop i = L.rs[i] :: L.rs.drop (i + 1) := List.drop_eq_getElem_cons hi
      rw [edr] at ep
      obtain ⟨t, rfl, ht⟩ := Rp.rd (Rp.tk' rv (TK.of s2))
      generalize L.rs[i] = r at ht ep
      refine ⟨_, rfl, _, rfl, Th.int, _, rfl, iteB (fun c => ?_) (fun c => by cases c)⟩
      refine ⟨_, rfl, _, rfl, Th.int, _, rfl, iteB (fun c2 => ?_) (fun c2 => by cases c2)⟩
      refine ⟨_, rfl, _, rfl, slA_2of4 ht fun H3 y1 s3 n3 g3 => ?_⟩
      refine ⟨_, rfl, _, rfl, (by show 2 ≤ sizeLine; decide), fun p1 n_p1 => ?_⟩
      generalize e_H4 : upd _ p1 _ = H4
      obtain ⟨s4, r4⟩ := new_tup (K := K) n_p1 e_H4 (by walk_at "rpl")
      clear e_H4
      refine ⟨_, rfl, _, rfl, (by show 2 ≤ sizeLine; decide), fun p2 n_p2 => ?_⟩
      generalize e_H5 : upd _ p2 _ = H5
      obtain ⟨s5, r5⟩ := new_tup (K := K) n_p2 e_H5 (by walk_at "rpl")
      clear e_H5
      refine ⟨(by show 2 ≤ sizeLine; decide), fun p3 n_p3 => ?_⟩
      generalize e_H6 : upd _ p3 _ = H6
      obtain ⟨s6, r6⟩ := new_tup (K := K) n_p3 e_H6 (by walk_at "rpl")
      clear e_H6
      have ry1 : Rp K H6 (.tuple [.int r.a, .int r.b]) (.ref y1) := Rp.tup (by walk_at "h") (by walk_at "rpl")
      have s26 : Same H2 H6 := by walk_at "same"
      refine ⟨.tuple [.int r.a, .int r.b], [.tuple [.int xi, .int yj], .tuple [.int yj, .int xi]], Rp.dp _ _ ry1, Rp.dp _ _ r6, rfl, rfl, _, rfl, ?_⟩
      have e : (List.any [PyData.tuple [.int xi, .int yj], .tuple [.int yj, .int xi]] fun z => PyData.eqv z (.tuple [.int r.a, .int r.b])) = decide ((((r.a : Int) = xi ∧ (r.b : Int) = yj) ∨ ((r.a : Int) = yj ∧ (r.b : Int) = xi))) := by
        rw [Bool.eq_iff_iff]
        simp [PyData.eqv, PyData.eqvAll]
        omega
      rw [e]
      unfold pairOf at ep
      rw [List.find?_cons] at ep
      refine iteP (fun c3 => ?_) (fun c3 => ?_)
      · rw [decide_eq_true c3] at ep
        have ep : (r.a, r.b) = p := Option.some.inj ep
        refine ⟨_, rfl, _, rfl, slA_2of4 (SqT.sm ht s26) fun H7 y2 s7 n7 g7 => ?_⟩
        refine k1 H7 y2 (s2.trans (s26.trans s7)) ?_
        rw [← ep]
        exact g7
      · rw [decide_eq_false c3] at ep
        exact ⟨_, rfl, s2.trans s26, ep⟩
    · rintro σ H2 ⟨v3, rfl, s2, ep⟩
      rw [lx, List.drop_length] at ep
      cases ep
theorem scRoadsFall0 : FnScope ["self", "a", "b", "pair"] ["self", "a", "b"] (defScope sRoadsFall) := ⟨rfl, rfl, rfl, by decide +kernel, rfl, by decide +kernel, by decide +kernel⟩
theorem ok_roadsfall0 {f : Addr} {fd : FuncData} (F : Fun K "fall" "Roads.fall" sRoadsFall f fd) (T : TRoads K C) (cP : Md P w K mg base 3 C "pair_of" ["self", "a", "b"] (spPair0 K C)) :
    FnOk P w K mg base CX0 4 f fd ["self", "a", "b"] (spFall0 K C) := by
  obtain ⟨fP, fdP, GP, MP, bP⟩ := cP.tk
  refine F.ok scRoadsFall0 (fun vs H Q E h => ?_) (fun cdv A outer s H vs Q E hr h => ?_)
  · obtain ⟨l, fa, L, x, y, p, rfl, _⟩ := h
    rfl
  · obtain ⟨l, fa, L, x, y, p, rfl, RA, ep, c, k1⟩ := h
    have hr3 : Room 3 _ := hr
    have hr2 : Room 2 _ := hr.mono (by decide)
    have hu := hu_of hr
    refine ⟨_, (pss_cons (ps_set (i := 3) scRoadsFall0.nd rfl (Or.inl rfl) (pe_meth (pv 0) T.cl MP GP hr3 bP .nil pass0 (pa_cons (pv 1) (pa_cons (pv 2) pa_nil))))
       (pss_cons (ps_if (pt_cmp (pc_din hu (pv 3) (fldK (K := K) rfl (pv 0) rfl)))
       (pss_one ps_never)
       pss_nil)
       (pss_one (ps_dput hu (fldK (K := K) rfl (pv 0) rfl) (pv 3) pe_bl rfl)))), ?_⟩
    obtain ⟨⟨dx, la, h1, hT⟩, h3, R, FO⟩ := id RA
    refine ⟨_, rfl, l, dx, _, rfl, h1, rfl, _, rfl, _, rfl, l, fa, L, x, y, p, rfl, RA, ep, fun H1 t s1 ht t1 => ?_⟩
    refine ⟨_, rfl, _, rfl, l, C, dx, _, _, rfl, s1 _ _ h1, T.cl, T.fallen, rfl, fa, _, rfl, DGet.t (k := pk p) (s1 _ _ h3) ht, _, rfl, ?_⟩
    rw [fkv_some]
    refine iteP (fun c' => absurd c' c) (fun _ => ?_)
    have lf := FO.le R
    refine ⟨_, rfl, l, C, dx, _, _, rfl, s1 _ _ h1, T.cl, T.fallen, rfl, _, rfl, fa, _, rfl, DPut.t (k := pk p) (s1 _ _ h3) ht (Nat.lt_of_le_of_lt (by unfold fkv; rw [List.length_map]; exact lf) (by decide)), ?_⟩
    rw [fkv_put c]
    have h31 := s1 _ _ h3
    obtain ⟨H2, e_H2, k2', t2, h2⟩ := wr_any h31 rfl
    rw [← e_H2]
    clear e_H2
    have nlf : l ≠ fa := by walk_at "neq"
    refine k1 H2 (by walk_at "kp") ⟨⟨dx, la, by walk_at "h", hT.tk (by walk_at "tk")⟩, h2, R, ?_⟩
    refine ⟨List.nodup_append.mpr ⟨FO.nd, List.nodup_cons.mpr ⟨List.not_mem_nil, List.nodup_nil⟩, fun a ha b hb e => ?_⟩, fun q hq => ?_⟩
    · rw [List.mem_singleton.mp hb] at e
      exact c (e ▸ ha)
    · rcases List.mem_append.mp hq with hq | hq
      · exact FO.of q hq
      · rw [List.mem_singleton.mp hq]
        exact pairOf_mem ep
theorem scRoadsRise0 : FnScope ["self", "a", "b", "pair"] ["self", "a", "b"] (defScope sRoadsRise) := ⟨rfl, rfl, rfl, by decide +kernel, rfl, by decide +kernel, by decide +kernel⟩
theorem ok_roadsrise0 {f : Addr} {fd : FuncData} (F : Fun K "rise" "Roads.rise" sRoadsRise f fd) (T : TRoads K C) (cP : Md P w K mg base 3 C "pair_of" ["self", "a", "b"] (spPair0 K C)) :
    FnOk P w K mg base CX0 4 f fd ["self", "a", "b"] (spRise0 K C) := by
  obtain ⟨fP, fdP, GP, MP, bP⟩ := cP.tk
  refine F.ok scRoadsRise0 (fun vs H Q E h => ?_) (fun cdv A outer s H vs Q E hr h => ?_)
  · obtain ⟨l, fa, L, x, y, p, rfl, _⟩ := h
    rfl
  · obtain ⟨l, fa, L, x, y, p, rfl, RA, ep, c, k1⟩ := h
    have hr3 : Room 3 _ := hr
    have hr2 : Room 2 _ := hr.mono (by decide)
    have hu := hu_of hr
    refine ⟨_, (pss_cons (ps_set (i := 3) scRoadsRise0.nd rfl (Or.inl rfl) (pe_meth (pv 0) T.cl MP GP hr3 bP .nil pass0 (pa_cons (pv 1) (pa_cons (pv 2) pa_nil))))
       (pss_cons (ps_if (pt_cmp (pc_dnotin hu (pv 3) (fldK (K := K) rfl (pv 0) rfl)))
       (pss_one ps_never)
       pss_nil)
       (pss_one (ps_expr (pe_bm PySem.F.plainAttrs_dict PySem.F.slot_dict_pop PySem.F.type_dict_pop (L2.DX.mt_popT1 hu) (fldK (K := K) rfl (pv 0) rfl) (pa_cons (pv 3) pa_nil)))))), ?_⟩
    obtain ⟨⟨dx, la, h1, hT⟩, h3, R, FO⟩ := id RA
    refine ⟨_, rfl, l, dx, _, rfl, h1, rfl, _, rfl, _, rfl, l, fa, L, x, y, p, rfl, RA, ep, fun H1 t s1 ht t1 => ?_⟩
    refine ⟨_, rfl, _, rfl, l, C, dx, _, _, rfl, s1 _ _ h1, T.cl, T.fallen, rfl, fa, _, rfl, DGet.t (k := pk p) (s1 _ _ h3) ht, _, rfl, ?_⟩
    rw [fkv_some]
    refine iteNP (fun c' => absurd c c') (fun _ => ?_)
    have h31 := s1 _ _ h3
    have ev : valV (fkv L.fallen) (pk p) = some (.bl true) := by rw [fkv_val, if_pos c]
    refine ⟨_, rfl, l, C, dx, _, _, rfl, s1 _ _ h1, T.cl, T.fallen, rfl, .inr (.inr (.inl ⟨rfl, .inr ⟨_, h31⟩⟩)), _, rfl, fa, _, pk p, t, _, rfl, rfl, h31, ht, ev, ?_⟩
    rw [fkv_drop]
    obtain ⟨H2, e_H2, k2', t2, h2⟩ := wr_any h31 rfl
    rw [← e_H2]
    clear e_H2
    have nlf : l ≠ fa := by walk_at "neq"
    refine k1 H2 (by walk_at "kp") ⟨⟨dx, la, by walk_at "h", hT.tk (by walk_at "tk")⟩, h2, R, ?_⟩
    exact ⟨FO.nd.sublist List.filter_sublist, fun q hq => FO.of q (List.mem_filter.mp hq).1⟩
end
end Wn

set_option maxHeartbeats 800000
namespace Wn
open PySem L2
set_option pp.maxSteps 700
set_option pp.deepTerms false
local macro_rules | `(tactic| walk_at "h") => `(tactic| first | with_reducible assumption | (with_reducible exact upd_same) | (with_reducible apply g_upd; (walk_at "neq"); (walk_at "h")) | (with_reducible apply g_same; (with_reducible assumption); (walk_at "h")) | (with_reducible apply g_kp; (with_reducible assumption); (walk_at "nin"); (walk_at "h")) | (with_reducible apply g_tk; (with_reducible assumption); (walk_at "h")))
local macro_rules | `(tactic| walk_at "neq") => `(tactic| first | with_reducible assumption | (with_reducible apply Ne.symm; with_reducible assumption) | (with_reducible apply ne_upd; (with_reducible assumption)) | (with_reducible apply Ne.symm; with_reducible apply ne_upd; with_reducible assumption) | (with_reducible apply ne_fr; (with_reducible assumption); (walk_at "h")) | (with_reducible apply ne_fr'; (with_reducible assumption); (walk_at "h")) | (with_reducible apply ne_kd; (walk_at "h"); (walk_at "h"); (with_unfolding_all (intro z; cases z))))
local macro_rules | `(tactic| walk_at "nin") => `(tactic| first | (with_reducible exact nin0) | with_reducible assumption | (with_reducible apply ninc; (walk_at "neq"); (walk_at "nin")))
local macro_rules | `(tactic| walk_at "none") => `(tactic| first | with_reducible assumption | (with_reducible apply n_upd; (with_reducible assumption)) | (with_reducible apply n_same; (with_reducible assumption); (walk_at "none")) | (with_reducible apply n_kp; (with_reducible assumption); (walk_at "nin"); (walk_at "none")))
local macro_rules | `(tactic| walk_at "mem") => `(tactic| first | (with_reducible exact List.mem_cons_self) | (with_reducible apply List.mem_cons_of_mem; (walk_at "mem")))
local macro_rules | `(tactic| walk_at "am") => `(tactic| first | (with_reducible exact am0) | (with_reducible apply am1; (first | (apply Or.inl; walk_at "mem") | (apply Or.inr; walk_at "none")); (walk_at "am")))
local macro_rules | `(tactic| walk_at "tk") => `(tactic| first | (with_reducible exact TK.refl _) | with_reducible assumption | (with_reducible apply t_tk; (with_reducible assumption); (walk_at "tk")) | (with_reducible apply t_same; (with_reducible assumption); (walk_at "tk")) | (with_reducible apply t_new; (with_reducible assumption); (walk_at "tk")) | (with_reducible apply t_wr; (walk_at "h"); (with_unfolding_all rfl); (walk_at "tk")))
local macro_rules | `(tactic| walk_at "same") => `(tactic| first | (with_reducible exact L2.Same.refl _) | with_reducible assumption | (with_reducible apply s_same; (with_reducible assumption); (walk_at "same")) | (with_reducible apply s_new; (with_reducible assumption); (walk_at "same")) | (with_reducible apply s_wrn; (walk_at "none"); (walk_at "same")))
local macro_rules | `(tactic| walk_at "kp") => `(tactic| first | (with_reducible exact Kp.refl _ _) | with_reducible assumption | (with_reducible apply k_same; (with_reducible assumption); (walk_at "kp")) | (with_reducible apply k_kp; (with_reducible assumption); (walk_at "kp")) | (with_reducible apply k_kpm; (with_reducible assumption); (walk_at "am"); (walk_at "kp")) | (with_reducible apply k_new; (with_reducible assumption); (walk_at "kp")) | (with_reducible apply k_wr; (walk_at "mem"); (walk_at "kp")) | (with_reducible apply k_wrn; (walk_at "none"); (walk_at "kp")))
local macro_rules | `(tactic| walk_at "rp") => `(tactic| first | with_reducible assumption | (with_reducible exact Rp.int) | (with_reducible exact Rp.str) | (with_reducible exact Rp.none) | (with_reducible exact Rp.bool) | (with_reducible apply Rp.tk'; (with_reducible assumption); (walk_at "tk")) | (with_reducible apply Rp.tup; (walk_at "h"); (walk_at "rpl")))
local macro_rules | `(tactic| walk_at "rpl") => `(tactic| first | with_reducible assumption | (with_reducible exact RpL.nil) | (with_reducible apply RpL.tk'; (with_reducible assumption); (walk_at "tk")) | (with_reducible apply RpL.cons; (walk_at "rp"); (walk_at "rpl")))
local macro_rules | `(tactic| walk_at "g") => `(tactic| repeat (first | refine ⟨_, rfl, ?_⟩ | refine ⟨_, _, rfl, rfl, ?_⟩ | refine ⟨rfl, _, rfl, ?_⟩ | refine ⟨_, _, rfl, rfl, (by first | decide | omega), ?_⟩))
def newG (m : Nat) (rs : List Rd) (X : Mx) : Gd := ⟨⟨m, rs, []⟩, X, 0, [], [], [], 0, 0, []⟩
def spGInit (K : PySem.W.Frag) (c : Gc) : Sp := fun vs H Q _ => ∃ (x dx : Addr) (m : Nat) (rs : List Rd) (la : Addr), vs = [.ref x, .int m, .ref la] ∧ H x = some (.ins c.G dx []) ∧ TupAt K H la (rs.map rdD) ∧ RdsOk m rs ∧
  ∀ (H' : Hp) (A : Ga) (X : Mx), A.g = x → Kp [x] H H' → Fixed m (rs.zip (upOf ⟨m, rs, []⟩)) X → GroundAt K c H' A (newG m rs X) → (∀ a ∈ A.foot (newG m rs X), a = x ∨ H a = none) → Q .non H'

section
variable {P : Program} {w : World} {K : PySem.W.Frag} {mg : Str → Option Value} {base : Heap} {c : Gc}
theorem scGInit : FnScope ["self", "houses", "roads"] ["self", "houses", "roads"] (defScope sGInit) := ⟨rfl, rfl, rfl, by decide +kernel, rfl, by decide +kernel, by decide +kernel⟩
theorem ok_ginit {f : Addr} {fd : FuncData} (F : Fun K "__init__" "Ground.__init__" sGInit f fd) (T : TG K c) (cI : Nw P w K mg base 5 c.R "Roads" ["self", "houses", "roads"] (spRoadsInit K c.R)) (cJ : Nw P w K mg base 4 c.F "Fars" ["self", "roads"] (spFarsInit K c.F c.R)) : FnOk P w K mg base CX0 7 f fd ["self", "houses", "roads"] (spGInit K c) := by
  obtain ⟨fI, fdI, GIn, MI, mgI, bI⟩ := cI
  obtain ⟨fJ, fdJ, GJ, MJ, mgJ, bJ⟩ := cJ
  refine F.ok scGInit (fun vs H Q E h => ?_) (fun cdv A outer s H vs Q E hr h => ?_)
  · obtain ⟨x, dx, m, rs, la, rfl, _⟩ := h
    rfl
  · obtain ⟨x, dx, m, rs, la, rfl, hx, hT, R, k⟩ := h
    have hr6 : Room 6 _ := hr
    have hr5 : Room 5 _ := hr.mono (by decide)
    have hu := hu_of hr
    refine ⟨_, (pss_cons (ps_fld (pv 0) (pe_make MI GIn hr6 rfl mgI bI .nil pass0 (pa_cons (pv 1) (pa_cons (pv 2) pa_nil))) rfl)
       (pss_cons (ps_fld (pv 0) (pe_make MJ GJ hr5 rfl mgJ bJ .nil pass0 (pa_cons (fldK (K := K) rfl (pv 0) rfl) pa_nil)) rfl)
       (pss_cons (ps_fld (pv 0) pe_int rfl)
       (pss_cons (ps_fld (pv 0) pe_dnewK rfl)
       (pss_cons (ps_fld (pv 0) pe_dnewK rfl)
       (pss_cons (ps_fld (pv 0) pe_dnewK rfl)
       (pss_cons (ps_fld (pv 0) pe_int rfl)
       (pss_cons (ps_fld (pv 0) pe_int rfl)
       (pss_one (ps_fld (pv 0) (pe_lst pa_nil) rfl)))))))))), ?_⟩
    refine ⟨_, rfl, _, rfl, fun l dl n_l n_dl ne_l => ?_⟩
    obtain ⟨H1, e1, s1, h1⟩ := make_any (C := c.R) n_l n_dl ne_l
    rw [e1]
    clear e1
    refine ⟨l, dl, m, rs, la, rfl, h1, hT.tk (TK.of s1), R, fun H2 fa k2 n_fa R2 => ⟨rfl, ?_⟩⟩
    have s02 : Same H H2 := make_same n_l s1 k2
    have n_fa0 : H fa = none := make_none s1 n_fa
    have hx2 := s02 _ _ hx
    refine ⟨_, rfl, x, c.G, dx, _, rfl, hx2, T.cl, T.lanes, (by show 0 < 1000; decide), ?_⟩
    obtain ⟨H3, e_H3, k3, t3, h3⟩ := wr_any hx2 rfl
    rw [← e_H3]
    clear e_H3
    obtain ⟨⟨dr, la', hr', _⟩, hfa, _⟩ := id R2
    have nlx : l ≠ x := (ne_of_none hx n_l).symm
    have nfx : fa ≠ x := (ne_of_none hx n_fa0).symm
    have R3 := R2.kp k3 t3 (nin1 nlx) (nin1 nfx)
    refine ⟨_, rfl, x, c.G, dx, _, _, rfl, h3, T.cl, T.lanes, rfl, fun p dp n_p n_dp ne_p => ?_⟩
    obtain ⟨H4, e4, s4, h4⟩ := make_any (C := c.F) n_p n_dp ne_p
    rw [e4]
    clear e4
    have npl : p ≠ l := (ne_of_none (k3 _ _ (nin1 nlx) hr') n_p).symm
    refine ⟨p, dp, l, fa, ⟨m, rs, []⟩, rfl, h4, npl, R3.same s4, fun H5 X k5 F5 fx => ⟨rfl, ?_⟩⟩
    have s35 : Same H3 H5 := make_same n_p s4 k5
    have R5 := R3.same s35
    have h5 := s35 _ _ h3
    refine ⟨_, rfl, x, c.G, dx, _, rfl, h5, T.cl, T.known, (by show 1 < 1000; decide), ?_⟩
    have npx : p ≠ x := (ne_of_none h3 n_p).symm
    obtain ⟨H6, e_H6, k6, t6, h6⟩ := wr_any h5 rfl
    rw [← e_H6]
    clear e_H6
    have R6 := R5.kp k6 t6 (nin1 nlx) (nin1 nfx)
    have F6 := F5.kp k6 t6 (nin1 npx)
    refine ⟨_, rfl, x, c.G, dx, _, rfl, h6, T.cl, T.clock, (by show 2 < 1000; decide), ?_⟩
    obtain ⟨H7, e_H7, k7, t7, h7⟩ := wr_any h6 rfl
    rw [← e_H7]
    clear e_H7
    have R7 := R6.kp k7 t7 (nin1 nlx) (nin1 nfx)
    have F7 := F6.kp k7 t7 (nin1 npx)
    intro ra n_ra
    obtain ⟨H8, e_H8, s8, h8⟩ := new_any n_ra
    rw [← e_H8]
    clear e_H8
    have R8 := R7.same s8
    have F8 := F7.same s8
    have hx8 := s8 _ _ h7
    refine ⟨_, rfl, x, c.G, dx, _, rfl, hx8, T.cl, T.running, (by show 3 < 1000; decide), ?_⟩
    have nrx : ra ≠ x := (ne_of_none h7 n_ra).symm
    obtain ⟨H9, e_H9, k9, t9, h9⟩ := wr_any hx8 rfl
    rw [← e_H9]
    clear e_H9
    have R9 := R8.kp k9 t9 (nin1 nlx) (nin1 nfx)
    have F9 := F8.kp k9 t9 (nin1 npx)
    have ra9 := k9 _ _ (nin1 nrx) h8
    intro ma n_ma
    obtain ⟨H10, e_H10, s10, h10⟩ := new_any n_ma
    rw [← e_H10]
    clear e_H10
    have hx10 := s10 _ _ h9
    refine ⟨_, rfl, x, c.G, dx, _, rfl, hx10, T.cl, T.moving, (by show 4 < 1000; decide), ?_⟩
    have nmx : ma ≠ x := (ne_of_none h9 n_ma).symm
    obtain ⟨H11, e_H11, k11, t11, h11⟩ := wr_any hx10 rfl
    rw [← e_H11]
    clear e_H11
    have R11 := (R9.same s10).kp k11 t11 (nin1 nlx) (nin1 nfx)
    have F11 := (F9.same s10).kp k11 t11 (nin1 npx)
    have ra11 := k11 _ _ (nin1 nrx) (s10 _ _ ra9)
    have ma11 := k11 _ _ (nin1 nmx) h10
    intro pa n_pa
    obtain ⟨H12, e_H12, s12, h12⟩ := new_any n_pa
    rw [← e_H12]
    clear e_H12
    have hx12 := s12 _ _ h11
    refine ⟨_, rfl, x, c.G, dx, _, rfl, hx12, T.cl, T.piles, (by show 5 < 1000; decide), ?_⟩
    have npax : pa ≠ x := (ne_of_none h11 n_pa).symm
    obtain ⟨H13, e_H13, k13, t13, h13⟩ := wr_any hx12 rfl
    rw [← e_H13]
    clear e_H13
    have R13 := (R11.same s12).kp k13 t13 (nin1 nlx) (nin1 nfx)
    have F13 := (F11.same s12).kp k13 t13 (nin1 npx)
    have ra13 := k13 _ _ (nin1 nrx) (s12 _ _ ra11)
    have ma13 := k13 _ _ (nin1 nmx) (s12 _ _ ma11)
    have pa13 := k13 _ _ (nin1 npax) h12
    refine ⟨_, rfl, x, c.G, dx, _, rfl, h13, T.cl, T.made_letters, (by show 6 < 1000; decide), ?_⟩
    obtain ⟨H14, e_H14, k14, t14, h14⟩ := wr_any h13 rfl
    rw [← e_H14]
    clear e_H14
    refine ⟨_, rfl, x, c.G, dx, _, rfl, h14, T.cl, T.made_frames, (by show 7 < 1000; decide), ?_⟩
    obtain ⟨H15, e_H15, k15, t15, h15⟩ := wr_any h14 rfl
    rw [← e_H15]
    clear e_H15
    refine ⟨Nat.zero_le _, fun lo n_lo => ?_⟩
    obtain ⟨H16, e_H16, s16, h16⟩ := new_any n_lo
    rw [← e_H16]
    clear e_H16
    have hx16 := s16 _ _ h15
    refine ⟨_, rfl, x, c.G, dx, _, rfl, hx16, T.cl, T.lost, (by show 8 < 1000; decide), ?_⟩
    have nlox : lo ≠ x := (ne_of_none h15 n_lo).symm
    obtain ⟨H17, e_H17, k17, t17, h17⟩ := wr_any hx16 rfl
    rw [← e_H17]
    clear e_H17
    have k1317 : Kp [x] H13 H17 := k14.trans (k15.trans ((Kp.of s16).trans k17))
    have t1317 : TK H13 H17 := t14.trans (t15.trans ((TK.of s16).trans t17))
    have R17 := R13.kp k1317 t1317 (nin1 nlx) (nin1 nfx)
    have F17 := F13.kp k1317 t1317 (nin1 npx)
    have ra17 := k1317 _ _ (nin1 nrx) ra13
    have ma17 := k1317 _ _ (nin1 nmx) ma13
    have pa17 := k1317 _ _ (nin1 npax) pa13
    have lo17 := k17 _ _ (nin1 nlox) h16
    have k013 : Kp [x] H H13 := (Kp.of s02).trans (k3.trans ((Kp.of s35).trans (k6.trans (k7.trans ((Kp.of s8).trans (k9.trans ((Kp.of s10).trans (k11.trans ((Kp.of s12).trans k13)))))))))
    have k017 := k013.trans k1317
    have rm : ra ≠ ma := ne_of_none ra9 n_ma
    have rp : ra ≠ pa := ne_of_none ra11 n_pa
    have mp : ma ≠ pa := ne_of_none ma11 n_pa
    have g : GroundAt K c H17 ⟨x, dx, l, fa, p, ra, ma, pa, lo, fun _ => 0, fun _ => 0, fun _ => 0, fun _ => 0⟩ (newG m rs X) :=
      ⟨h17, R17, F17, ⟨[], ra17, rfl⟩, ⟨ma17, fun _ h => (nomatch h), fun _ h => (nomatch h), List.nodup_nil, Nat.zero_le _⟩,
        ⟨pa17, fun _ h => (nomatch h), fun _ h => (nomatch h), fun _ h => (nomatch h), fun _ h => (nomatch h), fun _ h => (nomatch h), List.nodup_nil, Nat.zero_le _, fun _ h => (nomatch h)⟩,
        ⟨[], lo17, RpL.nil⟩, rm, rp, mp, Nat.zero_le _, Nat.zero_le _⟩
    have nn : ∀ {b : Addr} {Ha : Hp}, Kp [x] H Ha → b ≠ x → Ha b = none → H b = none := fun {b Ha} kk nb z => by
      cases e : H b with
      | none => rfl
      | some o => rw [kk _ _ (nin1 nb) e] at z; cases z
    have k03 : Kp [x] H H3 := (Kp.of s02).trans k3
    have k07 : Kp [x] H H7 := k03.trans ((Kp.of s35).trans (k6.trans k7))
    have k09 : Kp [x] H H9 := k07.trans ((Kp.of s8).trans k9)
    have k011 : Kp [x] H H11 := k09.trans ((Kp.of s10).trans k11)
    have k015 : Kp [x] H H15 := k013.trans (k14.trans k15)
    refine k H17 _ X rfl k017 fx g fun a ha => ?_
    have ha : a ∈ [x, l, fa, p, ra, ma, pa, lo] := by
      unfold Ga.foot newG at ha
      simpa using ha
    simp only [List.mem_cons, List.not_mem_nil, or_false] at ha
    rcases ha with rfl | rfl | rfl | rfl | rfl | rfl | rfl | rfl
    · exact .inl rfl
    · exact .inr n_l
    · exact .inr n_fa0
    · exact .inr (nn k03 npx n_p)
    · exact .inr (nn k07 nrx n_ra)
    · exact .inr (nn k09 nmx n_ma)
    · exact .inr (nn k011 npax n_pa)
    · exact .inr (nn k015 nlox n_lo)
end
end Wn

set_option maxHeartbeats 800000
namespace Wn
open PySem L2
set_option pp.maxSteps 700
set_option pp.deepTerms false
local macro_rules | `(tactic| walk_at "h") => `(tactic| first | with_reducible assumption | (with_reducible exact upd_same) | (with_reducible apply g_upd; (walk_at "neq"); (walk_at "h")) | (with_reducible apply g_same; (with_reducible assumption); (walk_at "h")) | (with_reducible apply g_kp; (with_reducible assumption); (walk_at "nin"); (walk_at "h")) | (with_reducible apply g_tk; (with_reducible assumption); (walk_at "h")))
local macro_rules | `(tactic| walk_at "neq") => `(tactic| first | with_reducible assumption | (with_reducible apply Ne.symm; with_reducible assumption) | (with_reducible apply ne_upd; (with_reducible assumption)) | (with_reducible apply Ne.symm; with_reducible apply ne_upd; with_reducible assumption) | (with_reducible apply ne_fr; (with_reducible assumption); (walk_at "h")) | (with_reducible apply ne_fr'; (with_reducible assumption); (walk_at "h")) | (with_reducible apply ne_kd; (walk_at "h"); (walk_at "h"); (with_unfolding_all (intro z; cases z))))
local macro_rules | `(tactic| walk_at "nin") => `(tactic| first | (with_reducible exact nin0) | with_reducible assumption | (with_reducible apply ninc; (walk_at "neq"); (walk_at "nin")))
local macro_rules | `(tactic| walk_at "none") => `(tactic| first | with_reducible assumption | (with_reducible apply n_upd; (with_reducible assumption)) | (with_reducible apply n_same; (with_reducible assumption); (walk_at "none")) | (with_reducible apply n_kp; (with_reducible assumption); (walk_at "nin"); (walk_at "none")))
local macro_rules | `(tactic| walk_at "mem") => `(tactic| first | (with_reducible exact List.mem_cons_self) | (with_reducible apply List.mem_cons_of_mem; (walk_at "mem")))
local macro_rules | `(tactic| walk_at "am") => `(tactic| first | (with_reducible exact am0) | (with_reducible apply am1; (first | (apply Or.inl; walk_at "mem") | (apply Or.inr; walk_at "none")); (walk_at "am")))
local macro_rules | `(tactic| walk_at "tk") => `(tactic| first | (with_reducible exact TK.refl _) | with_reducible assumption | (with_reducible apply t_tk; (with_reducible assumption); (walk_at "tk")) | (with_reducible apply t_same; (with_reducible assumption); (walk_at "tk")) | (with_reducible apply t_new; (with_reducible assumption); (walk_at "tk")) | (with_reducible apply t_wr; (walk_at "h"); (with_unfolding_all rfl); (walk_at "tk")))
local macro_rules | `(tactic| walk_at "same") => `(tactic| first | (with_reducible exact L2.Same.refl _) | with_reducible assumption | (with_reducible apply s_same; (with_reducible assumption); (walk_at "same")) | (with_reducible apply s_new; (with_reducible assumption); (walk_at "same")) | (with_reducible apply s_wrn; (walk_at "none"); (walk_at "same")))
local macro_rules | `(tactic| walk_at "kp") => `(tactic| first | (with_reducible exact Kp.refl _ _) | with_reducible assumption | (with_reducible apply k_same; (with_reducible assumption); (walk_at "kp")) | (with_reducible apply k_kp; (with_reducible assumption); (walk_at "kp")) | (with_reducible apply k_kpm; (with_reducible assumption); (walk_at "am"); (walk_at "kp")) | (with_reducible apply k_new; (with_reducible assumption); (walk_at "kp")) | (with_reducible apply k_wr; (walk_at "mem"); (walk_at "kp")) | (with_reducible apply k_wrn; (walk_at "none"); (walk_at "kp")))
local macro_rules | `(tactic| walk_at "rp") => `(tactic| first | with_reducible assumption | (with_reducible exact Rp.int) | (with_reducible exact Rp.str) | (with_reducible exact Rp.none) | (with_reducible exact Rp.bool) | (with_reducible apply Rp.tk'; (with_reducible assumption); (walk_at "tk")) | (with_reducible apply Rp.tup; (walk_at "h"); (walk_at "rpl")))
local macro_rules | `(tactic| walk_at "rpl") => `(tactic| first | with_reducible assumption | (with_reducible exact RpL.nil) | (with_reducible apply RpL.tk'; (with_reducible assumption); (walk_at "tk")) | (with_reducible apply RpL.cons; (walk_at "rp"); (walk_at "rpl")))
local macro_rules | `(tactic| walk_at "g") => `(tactic| repeat (first | refine ⟨_, rfl, ?_⟩ | refine ⟨_, _, rfl, rfl, ?_⟩ | refine ⟨rfl, _, rfl, ?_⟩ | refine ⟨_, _, rfl, rfl, (by first | decide | omega), ?_⟩))
abbrev sWInit : Stmt := (inClass (top 137) 0)
abbrev sNInit : Stmt := (inClass (top 135) 0)
abbrev sWGround : Stmt := (inClass (top 137) 26)
/-- where a world lies -/
structure Wa where
  w : Addr
  wd : Addr
  n : Addr
  nd : Addr
  kr : Addr
  kg : Addr
  lr : Addr
  bo : Addr
  br : Addr
structure Wc where
  W : Addr
  N : Addr
def wF (a : Wa) (stood : Nat) : List (Str × V) := [("net", .ref a.n), ("stood", .int stood), ("telling", .bl false), ("batch_rows", .ref a.br)]
def nF (a : Wa) (A : Ga) (told : Nat) : List (Str × V) := [("below", .ref A.g), ("kept_rooms", .ref a.kr), ("kept_gates", .ref a.kg), ("made_rooms", .int 0), ("made_gates", .int 0), ("log_rows", .ref a.lr), ("borne", .ref a.bo), ("told_drops", .int told)]
/-- a world without rooms -/
structure W0At (K : PySem.W.Frag) (c : Gc) (u : Wc) (H : Hp) (a : Wa) (A : Ga) (G : Gd) (stood told : Nat) : Prop where
  w : H a.w = some (.ins u.W a.wd (wF a stood))
  n : H a.n = some (.ins u.N a.nd (nF a A told))
  kr : H a.kr = some (.dK [])
  kg : H a.kg = some (.dK [])
  lr : H a.lr = some (.lst [])
  bo : H a.bo = some (.dK [])
  br : H a.br = some (.lst [])
  g : GroundAt K c H A G
  d : ∀ x ∈ [a.w, a.n, a.kr, a.kg, a.lr, a.bo, a.br], x ∉ A.foot G
structure TWd (K : PySem.W.Frag) (c : Gc) (u : Wc) : Prop where
  cl : Cls K u.W
  net : NoAttr K u.W "net"
  stood : NoAttr K u.W "stood"
  telling : NoAttr K u.W "telling"
  batch_rows : NoAttr K u.W "batch_rows"
  cn : Cls K u.N
  below : NoAttr K u.N "below"
  kept_rooms : NoAttr K u.N "kept_rooms"
  kept_gates : NoAttr K u.N "kept_gates"
  made_rooms : NoAttr K u.N "made_rooms"
  made_gates : NoAttr K u.N "made_gates"
  log_rows : NoAttr K u.N "log_rows"
  borne : NoAttr K u.N "borne"
  told_drops : NoAttr K u.N "told_drops"
def spNInit (K : PySem.W.Frag) (c : Gc) (u : Wc) : Sp := fun vs H Q _ => ∃ (x dx : Addr) (m : Nat) (rs : List Rd) (la : Addr), vs = [.ref x, .int m, .ref la] ∧ H x = some (.ins u.N dx []) ∧ TupAt K H la (rs.map rdD) ∧ RdsOk m rs ∧
  ∀ (H' : Hp) (A : Ga) (X : Mx) (kr kg lr bo nd : Addr), Kp [x] H H' → Fixed m (rs.zip (upOf ⟨m, rs, []⟩)) X → GroundAt K c H' A (newG m rs X) → H' x = some (.ins u.N nd [("below", .ref A.g), ("kept_rooms", .ref kr), ("kept_gates", .ref kg), ("made_rooms", .int 0), ("made_gates", .int 0), ("log_rows", .ref lr), ("borne", .ref bo), ("told_drops", .int 0)]) → H' kr = some (.dK []) → H' kg = some (.dK []) → H' lr = some (.lst []) → H' bo = some (.dK []) → (∀ b ∈ [kr, kg, lr, bo], H b = none ∧ b ∉ A.foot (newG m rs X)) → (∀ b ∈ A.foot (newG m rs X), H b = none) → kr ≠ kg → kr ≠ bo → kg ≠ bo → Q .non H'
def spWInit (K : PySem.W.Frag) (c : Gc) (u : Wc) : Sp := fun vs H Q _ => ∃ (x dx : Addr) (m : Nat) (rs : List Rd) (la : Addr), vs = [.ref x, .int m, .ref la] ∧ H x = some (.ins u.W dx []) ∧ TupAt K H la (rs.map rdD) ∧ RdsOk m rs ∧
  ∀ (H' : Hp) (a : Wa) (A : Ga) (X : Mx), a.w = x → Kp [x] H H' → Fixed m (rs.zip (upOf ⟨m, rs, []⟩)) X → W0At K c u H' a A (newG m rs X) 0 0 → (∀ b ∈ [a.n, a.kr, a.kg, a.lr, a.bo, a.br], H b = none) → (∀ b ∈ A.foot (newG m rs X), H b = none) → a.kr ≠ a.kg → a.kr ≠ a.bo → a.kg ≠ a.bo → a.lr ≠ a.br → Q .non H'
def spWGround (K : PySem.W.Frag) (c : Gc) (u : Wc) : Sp := fun vs H Q _ => ∃ (a : Wa) (A : Ga) (G : Gd) (s t : Nat), vs = [.ref a.w] ∧ W0At K c u H a A G s t ∧ ∀ H' v, Same H H' → Rp K H' (toldGD G) v → Q v H'

section
variable {P : Program} {w : World} {K : PySem.W.Frag} {mg : Str → Option Value} {base : Heap} {c : Gc} {u : Wc}
theorem scNInit : FnScope ["self", "houses", "roads"] ["self", "houses", "roads"] (defScope sNInit) := ⟨rfl, rfl, rfl, by decide +kernel, rfl, by decide +kernel, by decide +kernel⟩
theorem ok_ninit {f : Addr} {fd : FuncData} (F : Fun K "__init__" "Wraps.__init__" sNInit f fd) (T : TWd K c u) (cI : Nw P w K mg base 7 c.G "Ground" ["self", "houses", "roads"] (spGInit K c)) : FnOk P w K mg base CX0 9 f fd ["self", "houses", "roads"] (spNInit K c u) := by
  obtain ⟨fI, fdI, GIn, MI, mgI, bI⟩ := cI
  refine F.ok scNInit (fun vs H Q E h => ?_) (fun cdv A outer s H vs Q E hr h => ?_)
  · obtain ⟨x, dx, m, rs, la, rfl, _⟩ := h
    rfl
  · obtain ⟨x, dx, m, rs, la, rfl, hx, hT, R, k⟩ := h
    have hr8 : Room 8 _ := hr
    have hu := hu_of hr
    refine ⟨_, (pss_cons (ps_fld (pv 0) (pe_make MI GIn hr8 rfl mgI bI .nil pass0 (pa_cons (pv 1) (pa_cons (pv 2) pa_nil))) rfl)
       (pss_cons (ps_fld (pv 0) pe_dnewK rfl)
       (pss_cons (ps_fld (pv 0) pe_dnewK rfl)
       (pss_cons (ps_fld (pv 0) pe_int rfl)
       (pss_cons (ps_fld (pv 0) pe_int rfl)
       (pss_cons (ps_fld (pv 0) (pe_lst pa_nil) rfl)
       (pss_cons (ps_fld (pv 0) pe_dnewK rfl)
       (pss_one (ps_fld (pv 0) pe_int rfl))))))))), ?_⟩
    refine ⟨_, rfl, _, rfl, fun y dy n_y n_dy ne => ?_⟩
    obtain ⟨H1, e1, s1, h1⟩ := make_any (C := c.G) n_y n_dy ne
    rw [e1]
    clear e1
    refine ⟨y, dy, m, rs, la, rfl, h1, hT.tk (TK.of s1), R, fun H2 A2 X hA2 k2 fx g2 sub2 => ⟨rfl, ?_⟩⟩
    subst hA2
    have s02 : Same H H2 := make_same n_y s1 k2
    have fr2 : ∀ b ∈ A2.foot (newG m rs X), H b = none := fun b hb => by
      rcases sub2 b hb with z | z
      · rw [z]; exact n_y
      · exact n_same s1 z
    have hx2 := s02 _ _ hx
    have nxf : x ∉ A2.foot (newG m rs X) := fun z => by rw [fr2 _ z] at hx; cases hx
    refine ⟨_, rfl, x, u.N, dx, _, rfl, hx2, T.cn, T.below, (by show 0 < 1000; decide), ?_⟩
    obtain ⟨H3, e_H3, k3, t3, h3⟩ := wr_any hx2 rfl
    rw [← e_H3]
    clear e_H3
    have g3 := g2.kp k3 t3 (fun a ha => nin1 fun e => nxf (e ▸ ha))
    intro kr n_kr
    obtain ⟨H4, e_H4, s4, h4⟩ := new_any n_kr
    rw [← e_H4]
    clear e_H4
    have h34 := s4 _ _ h3
    refine ⟨_, rfl, x, u.N, dx, _, rfl, h34, T.cn, T.kept_rooms, (by show 1 < 1000; decide), ?_⟩
    obtain ⟨H5, e_H5, k5, t5, h5⟩ := wr_any h34 rfl
    rw [← e_H5]
    clear e_H5
    have nkx : kr ≠ x := (ne_of_none h3 n_kr).symm
    have kr5 := k5 _ _ (nin1 nkx) h4
    intro kg n_kg
    obtain ⟨H6, e_H6, s6, h6⟩ := new_any n_kg
    rw [← e_H6]
    clear e_H6
    have h56 := s6 _ _ h5
    refine ⟨_, rfl, x, u.N, dx, _, rfl, h56, T.cn, T.kept_gates, (by show 2 < 1000; decide), ?_⟩
    obtain ⟨H7, e_H7, k7, t7, h7⟩ := wr_any h56 rfl
    rw [← e_H7]
    clear e_H7
    have ngx : kg ≠ x := (ne_of_none h5 n_kg).symm
    have kg7 := k7 _ _ (nin1 ngx) h6
    have kr7 := k7 _ _ (nin1 nkx) (s6 _ _ kr5)
    refine ⟨_, rfl, x, u.N, dx, _, rfl, h7, T.cn, T.made_rooms, (by show 3 < 1000; decide), ?_⟩
    obtain ⟨H8, e_H8, k8, t8, h8⟩ := wr_any h7 rfl
    rw [← e_H8]
    clear e_H8
    refine ⟨_, rfl, x, u.N, dx, _, rfl, h8, T.cn, T.made_gates, (by show 4 < 1000; decide), ?_⟩
    obtain ⟨H9, e_H9, k9, t9, h9⟩ := wr_any h8 rfl
    rw [← e_H9]
    clear e_H9
    refine ⟨Nat.zero_le _, fun lr n_lr => ?_⟩
    obtain ⟨H10, e_H10, s10, h10⟩ := new_any n_lr
    rw [← e_H10]
    clear e_H10
    have h910 := s10 _ _ h9
    refine ⟨_, rfl, x, u.N, dx, _, rfl, h910, T.cn, T.log_rows, (by show 5 < 1000; decide), ?_⟩
    obtain ⟨H11, e_H11, k11, t11, h11⟩ := wr_any h910 rfl
    rw [← e_H11]
    clear e_H11
    have nlx : lr ≠ x := (ne_of_none h9 n_lr).symm
    intro bo n_bo
    obtain ⟨H12, e_H12, s12, h12⟩ := new_any n_bo
    rw [← e_H12]
    clear e_H12
    have h1112 := s12 _ _ h11
    refine ⟨_, rfl, x, u.N, dx, _, rfl, h1112, T.cn, T.borne, (by show 6 < 1000; decide), ?_⟩
    obtain ⟨H13, e_H13, k13, t13, h13⟩ := wr_any h1112 rfl
    rw [← e_H13]
    clear e_H13
    have nbx : bo ≠ x := (ne_of_none h11 n_bo).symm
    refine ⟨_, rfl, x, u.N, dx, _, rfl, h13, T.cn, T.told_drops, (by show 7 < 1000; decide), ?_⟩
    obtain ⟨H14, e_H14, k14, t14, h14⟩ := wr_any h13 rfl
    rw [← e_H14]
    clear e_H14
    have k79 : Kp [x] H7 H9 := k8.trans k9
    have k714 : Kp [x] H7 H14 := k79.trans ((Kp.of s10).trans (k11.trans ((Kp.of s12).trans (k13.trans k14))))
    have t714 : TK H7 H14 := t8.trans (t9.trans ((TK.of s10).trans (t11.trans ((TK.of s12).trans (t13.trans t14)))))
    have k37 : Kp [x] H3 H7 := (Kp.of s4).trans (k5.trans ((Kp.of s6).trans k7))
    have t37 : TK H3 H7 := (TK.of s4).trans (t5.trans ((TK.of s6).trans t7))
    have k03 : Kp [x] H H3 := (Kp.of s02).trans k3
    have k314 := k37.trans k714
    have g14 := g3.kp k314 (t37.trans t714) (fun a ha => nin1 fun e => nxf (e ▸ ha))
    have nn : ∀ {b : Addr} {Ha : Hp}, Kp [x] H Ha → b ≠ x → Ha b = none → H b = none := fun {b Ha} kk nb z => by
      cases e : H b with
      | none => rfl
      | some o => rw [kk _ _ (nin1 nb) e] at z; cases z
    have gin : ∀ {b : Addr} {Ha : Hp}, Kp [x] H3 Ha → Ha b = none → b ∉ A2.foot (newG m rs X) := fun {b Ha} kk z hb => by
      obtain ⟨o, e⟩ := g3.taken b hb
      rw [kk b o (nin1 fun q => nxf (q ▸ hb)) e] at z; cases z
    have k35 : Kp [x] H3 H5 := (Kp.of s4).trans k5
    have k39 := k37.trans k79
    have k311 := k39.trans ((Kp.of s10).trans k11)
    have lr11 := k11 _ _ (nin1 nlx) h10
    have lr14 := k14 _ _ (nin1 nlx) (k13 _ _ (nin1 nlx) (s12 _ _ lr11))
    have bo14 := k14 _ _ (nin1 nbx) (k13 _ _ (nin1 nbx) h12)
    have kr11 := (k79.trans ((Kp.of s10).trans k11)) _ _ (nin1 nkx) kr7
    have kg11 := (k79.trans ((Kp.of s10).trans k11)) _ _ (nin1 ngx) kg7
    refine k H14 A2 X kr kg lr bo dx (k03.trans k314) fx g14 h14 (k714 _ _ (nin1 nkx) kr7) (k714 _ _ (nin1 ngx) kg7) lr14 bo14 (fun b hb => ?_) fr2 (ne_of_none kr5 n_kg) (ne_of_none kr11 n_bo) (ne_of_none kg11 n_bo)
    simp only [List.mem_cons, List.not_mem_nil, or_false] at hb
    rcases hb with rfl | rfl | rfl | rfl
    · exact ⟨nn k03 nkx n_kr, gin (Kp.refl _ _) n_kr⟩
    · exact ⟨nn (k03.trans k35) ngx n_kg, gin k35 n_kg⟩
    · exact ⟨nn (k03.trans k39) nlx n_lr, gin k39 n_lr⟩
    · exact ⟨nn (k03.trans k311) nbx n_bo, gin k311 n_bo⟩
theorem scWInit : FnScope ["self", "houses", "roads"] ["self", "houses", "roads"] (defScope sWInit) := ⟨rfl, rfl, rfl, by decide +kernel, rfl, by decide +kernel, by decide +kernel⟩
theorem ok_winit {f : Addr} {fd : FuncData} (F : Fun K "__init__" "World.__init__" sWInit f fd) (T : TWd K c u) (cJ : Nw P w K mg base 9 u.N "Wraps" ["self", "houses", "roads"] (spNInit K c u)) : FnOk P w K mg base CX0 11 f fd ["self", "houses", "roads"] (spWInit K c u) := by
  obtain ⟨fJ, fdJ, GJ, MJ, mgJ, bJ⟩ := cJ
  refine F.ok scWInit (fun vs H Q E h => ?_) (fun cdv A outer s H vs Q E hr h => ?_)
  · obtain ⟨x, dx, m, rs, la, rfl, _⟩ := h
    rfl
  · obtain ⟨x, dx, m, rs, la, rfl, hx, hT, R, k⟩ := h
    have hr10 : Room 10 _ := hr
    have hu := hu_of hr
    refine ⟨_, (pss_cons (ps_fld (pv 0) (pe_make MJ GJ hr10 rfl mgJ bJ .nil pass0 (pa_cons (pv 1) (pa_cons (pv 2) pa_nil))) rfl)
       (pss_cons (ps_fld (pv 0) pe_int rfl)
       (pss_cons (ps_fld (pv 0) pe_bl rfl)
       (pss_one (ps_fld (pv 0) (pe_lst pa_nil) rfl))))), ?_⟩
    refine ⟨_, rfl, _, rfl, fun y dy n_y n_dy ne => ?_⟩
    obtain ⟨H1, e1, s1, h1⟩ := make_any (C := u.N) n_y n_dy ne
    rw [e1]
    clear e1
    refine ⟨y, dy, m, rs, la, rfl, h1, hT.tk (TK.of s1), R, fun H2 A X kr kg lr bo nd k2 fx g2 n2 kr2 kg2 lr2 bo2 fr2 fA2 e1 e2 e3 => ⟨rfl, ?_⟩⟩
    have s02 : Same H H2 := make_same n_y s1 k2
    have hx2 := s02 _ _ hx
    have fr0 : ∀ b ∈ [kr, kg, lr, bo], H b = none := fun b hb => n_same s1 (fr2 b hb).1
    have fA0 : ∀ b ∈ A.foot (newG m rs X), H b = none := fun b hb => n_same s1 (fA2 b hb)
    have nx : ∀ b, H b = none → b ≠ x := fun b hb e => by rw [e, hx] at hb; cases hb
    have nkx := nx kr (fr0 _ (by simp))
    have ngx := nx kg (fr0 _ (by simp))
    have nlx := nx lr (fr0 _ (by simp))
    have nbx := nx bo (fr0 _ (by simp))
    have nyx := nx y n_y
    have nxf : x ∉ A.foot (newG m rs X) := fun z => nx x (fA0 _ z) rfl
    refine ⟨_, rfl, x, u.W, dx, _, rfl, hx2, T.cl, T.net, (by show 0 < 1000; decide), ?_⟩
    obtain ⟨H3, e_H3, k3, t3, h3⟩ := wr_any hx2 rfl
    rw [← e_H3]
    clear e_H3
    refine ⟨_, rfl, x, u.W, dx, _, rfl, h3, T.cl, T.stood, (by show 1 < 1000; decide), ?_⟩
    obtain ⟨H4, e_H4, k4, t4, h4⟩ := wr_any h3 rfl
    rw [← e_H4]
    clear e_H4
    refine ⟨_, rfl, x, u.W, dx, _, rfl, h4, T.cl, T.telling, (by show 2 < 1000; decide), ?_⟩
    obtain ⟨H5, e_H5, k5, t5, h5⟩ := wr_any h4 rfl
    rw [← e_H5]
    clear e_H5
    refine ⟨Nat.zero_le _, fun br n_br => ?_⟩
    obtain ⟨H6, e_H6, s6, h6⟩ := new_any n_br
    rw [← e_H6]
    clear e_H6
    have h56 := s6 _ _ h5
    refine ⟨_, rfl, x, u.W, dx, _, rfl, h56, T.cl, T.batch_rows, (by show 3 < 1000; decide), ?_⟩
    obtain ⟨H7, e_H7, k7, t7, h7⟩ := wr_any h56 rfl
    rw [← e_H7]
    clear e_H7
    have k25 : Kp [x] H2 H5 := k3.trans (k4.trans k5)
    have k27 : Kp [x] H2 H7 := k25.trans ((Kp.of s6).trans k7)
    have t27 : TK H2 H7 := t3.trans (t4.trans (t5.trans ((TK.of s6).trans t7)))
    have nbr : br ≠ x := (ne_of_none h5 n_br).symm
    have n_br0 : H br = none := by
      cases e : H br with
      | none => rfl
      | some o => rw [k25 _ _ (nin1 nbr) (s02 _ _ e)] at n_br; cases n_br
    have brf : br ∉ A.foot (newG m rs X) := fun z => by
      obtain ⟨o, e⟩ := g2.taken _ z
      rw [k25 _ _ (nin1 nbr) e] at n_br; cases n_br
    have nyf : y ∉ A.foot (newG m rs X) := fun z => by
      have := fA2 _ z
      rw [h1] at this; cases this
    refine k H7 ⟨x, dx, y, nd, kr, kg, lr, bo, br⟩ A X rfl ((Kp.of s02).trans k27) fx ⟨h7, k27 _ _ (nin1 nyx) n2, k27 _ _ (nin1 nkx) kr2, k27 _ _ (nin1 ngx) kg2, k27 _ _ (nin1 nlx) lr2, k27 _ _ (nin1 nbx) bo2, k7 _ _ (nin1 nbr) h6, g2.kp k27 t27 (fun a ha => nin1 fun e => nxf (e ▸ ha)), fun b hb => ?_⟩ (fun b hb => ?_) fA0 e1 e2 e3 (ne_of_none (k25 _ _ (nin1 nlx) lr2) n_br)
    · simp only [List.mem_cons, List.not_mem_nil, or_false] at hb
      rcases hb with rfl | rfl | rfl | rfl | rfl | rfl | rfl
      · exact nxf
      · exact nyf
      · exact (fr2 _ (by simp)).2
      · exact (fr2 _ (by simp)).2
      · exact (fr2 _ (by simp)).2
      · exact (fr2 _ (by simp)).2
      · exact brf
    · simp only [List.mem_cons, List.not_mem_nil, or_false] at hb
      rcases hb with rfl | rfl | rfl | rfl | rfl | rfl
      · exact n_y
      · exact fr0 _ (by simp)
      · exact fr0 _ (by simp)
      · exact fr0 _ (by simp)
      · exact fr0 _ (by simp)
      · exact n_br0
theorem scWGround : FnScope ["self"] ["self"] (defScope sWGround) := ⟨rfl, rfl, rfl, by decide +kernel, rfl, by decide +kernel, by decide +kernel⟩
theorem ok_wground {f : Addr} {fd : FuncData} (F : Fun K "ground" "World.ground" sWGround f fd) (Tw : TWd K c u) (T : TG K c) (cTo : Md P w K mg base 2 c.G "told" ["self"] (spGTold K c)) : FnOk P w K mg base CX0 3 f fd ["self"] (spWGround K c u) := by
  obtain ⟨fTo, fdTo, GTo, MTo, bTo⟩ := cTo
  refine F.ok scWGround (fun vs H Q E h => ?_) (fun cdv A outer s H vs Q E hr h => ?_)
  · obtain ⟨a, A, G, s, t, rfl, _⟩ := h
    rfl
  · obtain ⟨a, A, G, s, t, rfl, W, k⟩ := h
    have hr2 : Room 2 _ := hr
    refine ⟨_, (pss_one (ps_ret (pe_meth0 (fldK (K := K) rfl (fldK (K := K) rfl (pv 0) rfl) rfl) T.cl MTo GTo hr2 bTo .nil pass0))), ?_⟩
    exact ⟨_, rfl, a.w, u.W, a.wd, _, _, rfl, W.w, Tw.cl, Tw.net, rfl, a.n, u.N, a.nd, _, _, rfl, W.n, Tw.cn, Tw.below, rfl, A.g, A.dx, _, rfl, W.g.o, rfl, A, G, rfl, W.g, fun H' v s' r' => k H' v s' r'⟩
end
end Wn

set_option maxHeartbeats 800000
namespace Wn
open PySem L2
open SX (S S_len S_cat S_beq_eq join_S)
set_option pp.maxSteps 700
set_option pp.deepTerms false
local macro_rules | `(tactic| walk_at "h") => `(tactic| first | with_reducible assumption | (with_reducible exact upd_same) | (with_reducible apply g_upd; (walk_at "neq"); (walk_at "h")) | (with_reducible apply g_same; (with_reducible assumption); (walk_at "h")) | (with_reducible apply g_kp; (with_reducible assumption); (walk_at "nin"); (walk_at "h")) | (with_reducible apply g_tk; (with_reducible assumption); (walk_at "h")))
local macro_rules | `(tactic| walk_at "neq") => `(tactic| first | with_reducible assumption | (with_reducible apply Ne.symm; with_reducible assumption) | (with_reducible apply ne_upd; (with_reducible assumption)) | (with_reducible apply Ne.symm; with_reducible apply ne_upd; with_reducible assumption) | (with_reducible apply ne_fr; (with_reducible assumption); (walk_at "h")) | (with_reducible apply ne_fr'; (with_reducible assumption); (walk_at "h")) | (with_reducible apply ne_kd; (walk_at "h"); (walk_at "h"); (with_unfolding_all (intro z; cases z))))
local macro_rules | `(tactic| walk_at "nin") => `(tactic| first | (with_reducible exact nin0) | with_reducible assumption | (with_reducible apply ninc; (walk_at "neq"); (walk_at "nin")))
local macro_rules | `(tactic| walk_at "none") => `(tactic| first | with_reducible assumption | (with_reducible apply n_upd; (with_reducible assumption)) | (with_reducible apply n_same; (with_reducible assumption); (walk_at "none")) | (with_reducible apply n_kp; (with_reducible assumption); (walk_at "nin"); (walk_at "none")))
local macro_rules | `(tactic| walk_at "mem") => `(tactic| first | (with_reducible exact List.mem_cons_self) | (with_reducible apply List.mem_cons_of_mem; (walk_at "mem")))
local macro_rules | `(tactic| walk_at "am") => `(tactic| first | (with_reducible exact am0) | (with_reducible apply am1; (first | (apply Or.inl; walk_at "mem") | (apply Or.inr; walk_at "none")); (walk_at "am")))
local macro_rules | `(tactic| walk_at "tk") => `(tactic| first | (with_reducible exact TK.refl _) | with_reducible assumption | (with_reducible apply t_tk; (with_reducible assumption); (walk_at "tk")) | (with_reducible apply t_same; (with_reducible assumption); (walk_at "tk")) | (with_reducible apply t_new; (with_reducible assumption); (walk_at "tk")) | (with_reducible apply t_wr; (walk_at "h"); (with_unfolding_all rfl); (walk_at "tk")))
local macro_rules | `(tactic| walk_at "same") => `(tactic| first | (with_reducible exact L2.Same.refl _) | with_reducible assumption | (with_reducible apply s_same; (with_reducible assumption); (walk_at "same")) | (with_reducible apply s_new; (with_reducible assumption); (walk_at "same")) | (with_reducible apply s_wrn; (walk_at "none"); (walk_at "same")))
local macro_rules | `(tactic| walk_at "kp") => `(tactic| first | (with_reducible exact Kp.refl _ _) | with_reducible assumption | (with_reducible apply k_same; (with_reducible assumption); (walk_at "kp")) | (with_reducible apply k_kp; (with_reducible assumption); (walk_at "kp")) | (with_reducible apply k_kpm; (with_reducible assumption); (walk_at "am"); (walk_at "kp")) | (with_reducible apply k_new; (with_reducible assumption); (walk_at "kp")) | (with_reducible apply k_wr; (walk_at "mem"); (walk_at "kp")) | (with_reducible apply k_wrn; (walk_at "none"); (walk_at "kp")))
local macro_rules | `(tactic| walk_at "rp") => `(tactic| first | with_reducible assumption | (with_reducible exact Rp.int) | (with_reducible exact Rp.str) | (with_reducible exact Rp.none) | (with_reducible exact Rp.bool) | (with_reducible apply Rp.tk'; (with_reducible assumption); (walk_at "tk")) | (with_reducible apply Rp.tup; (walk_at "h"); (walk_at "rpl")))
local macro_rules | `(tactic| walk_at "rpl") => `(tactic| first | with_reducible assumption | (with_reducible exact RpL.nil) | (with_reducible apply RpL.tk'; (with_reducible assumption); (walk_at "tk")) | (with_reducible apply RpL.cons; (walk_at "rp"); (walk_at "rpl")))
local macro_rules | `(tactic| walk_at "g") => `(tactic| repeat (first | refine ⟨_, rfl, ?_⟩ | refine ⟨_, _, rfl, rfl, ?_⟩ | refine ⟨rfl, _, rfl, ?_⟩ | refine ⟨_, _, rfl, rfl, (by first | decide | omega), ?_⟩))
def framesD (G : Gd) : List PyData := (sortI (G.mov.map (·.1))).filterMap fun k => (lookA G.mov k).map frD
def frK (G : Gd) (k : Int) : PyData := ((lookA G.mov k).map frD).getD .none
def lettersD (G : Gd) : List PyData := (sortI (G.run.map (·.1))).map fun k => ((lookA G.run k).map fun t => PyData.tuple [.int k, .int t.1, .int t.2.1, .str (S t.2.2)]).getD .none
def heapsD (G : Gd) : List PyData := (sortI (G.pil.map (·.1))).map fun k => ((lookA G.pil k).map fun p => PyData.tuple [.int k, .int p.beat, placesD p.m]).getD .none
def spGFrames (K : PySem.W.Frag) (c : Gc) : Sp := fun vs H Q _ => ∃ (A : Ga) (G : Gd), vs = [.ref A.g] ∧ GroundAt K c H A G ∧ ∀ H' v, Same H H' → Rp K H' (.tuple ((sortI (G.mov.map (·.1))).map (frK G))) v → Q v H'
def spGLetters (K : PySem.W.Frag) (c : Gc) : Sp := fun vs H Q _ => ∃ (A : Ga) (G : Gd), vs = [.ref A.g] ∧ GroundAt K c H A G ∧ ∀ H' v, Same H H' → Rp K H' (.tuple (lettersD G)) v → Q v H'
def spGHeaps (K : PySem.W.Frag) (c : Gc) : Sp := fun vs H Q _ => ∃ (A : Ga) (G : Gd), vs = [.ref A.g] ∧ GroundAt K c H A G ∧ ∀ H' v, Same H H' → Rp K H' (.tuple (heapsD G)) v → Q v H'
theorem mvK_keys (A : Ga) (mov : List (Int × Fr)) : (mvK A mov).map (fun kv => kV kv.1) = (mov.map (·.1)).map V.int := by
  unfold mvK
  rw [List.map_map, List.map_map]
  rfl
theorem plK_keys (A : Ga) (pil : List (Int × Pl)) : (plK A pil).map (fun kv => kV kv.1) = (pil.map (·.1)).map V.int := by
  unfold plK
  rw [List.map_map, List.map_map]
  rfl
theorem mvK_val (A : Ga) (k : Int) : ∀ mov : List (Int × Fr), valV (mvK A mov) (Sum.inl k) = (lookA mov k).map fun _ => V.ref (A.af k)
  | [] => rfl
  | kv :: mov => by
    have ih := mvK_val A k mov
    unfold mvK at ih ⊢
    rw [List.map_cons, lookA_cons]
    unfold valV at ih ⊢
    by_cases e : kv.1 = k
    · rw [if_pos e]
      subst e
      simp [List.find?_cons]
    · rw [if_neg e, List.find?_cons_of_neg (by simp [e])]
      exact ih
theorem plK_val (A : Ga) (k : Int) : ∀ pil : List (Int × Pl), valV (plK A pil) (Sum.inl k) = (lookA pil k).map fun _ => V.ref (A.tp k)
  | [] => rfl
  | kv :: pil => by
    have ih := plK_val A k pil
    unfold plK at ih ⊢
    rw [List.map_cons, lookA_cons]
    unfold valV at ih ⊢
    by_cases e : kv.1 = k
    · rw [if_pos e]
      subst e
      simp [List.find?_cons]
    · rw [if_neg e, List.find?_cons_of_neg (by simp [e])]
      exact ih
theorem look_mem {α : Type} {m : List (Int × α)} {k : Int} {x : α} (h : lookA m k = some x) : (k, x) ∈ m := by
  induction m with
  | nil => cases h
  | cons p m ih =>
    rw [lookA_cons] at h
    by_cases e : p.1 = k
    · rw [if_pos e] at h
      cases h
      subst e
      exact List.mem_cons_self
    · rw [if_neg e] at h
      exact List.mem_cons_of_mem _ (ih h)
section
variable {K : PySem.W.Frag} {c : Gc} {H : Hp} {A : Ga} {G : Gd}
theorem GroundAt.pileAt (g : GroundAt K c H A G) {k : Int} {p : Pl} (h : lookA G.pil k = some p) : DGet H A.pa (.int k) (some (V.ref (A.tp k))) ∧ SqT K H (A.tp k) [.int p.beat, .ref (A.ho k)] ∧ HeapAt K c.H H (A.ho k) (A.hd k) p.many p.m := by
  have d := DGet.k (k := Sum.inl k) g.pil.d
  rw [plK_val, h] at d
  exact ⟨d, g.pil.tp _ (look_mem h), g.pil.hp _ (look_mem h)⟩
theorem GroundAt.frame (g : GroundAt K c H A G) {k : Int} {f : Fr} (h : lookA G.mov k = some f) : DGet H A.ma (.int k) (some (V.ref (A.af k))) ∧ FrAt c.Fr H (A.af k) f := by
  have d := DGet.k (k := Sum.inl k) g.mov.d
  rw [mvK_val, h] at d
  exact ⟨d, g.mov.fr _ (look_mem h)⟩
end

section
variable {P : Program} {w : World} {K : PySem.W.Frag} {mg : Str → Option Value} {base : Heap} {c : Gc}
theorem scGFrames : FnScope ["self", "number"] ["self"] (defScope sGFrames) := ⟨rfl, rfl, rfl, by decide +kernel, rfl, by decide +kernel, by decide +kernel⟩
theorem ok_gframes {f : Addr} {fd : FuncData} (F : Fun K "frames" "Ground.frames" sGFrames f fd) (T : TG K c) (B : GB mg) (cS : Md P w K mg base 1 c.Fr "shown" ["self"] (spFrShown K c.Fr)) : FnOk P w K mg base CX0 2 f fd ["self"] (spGFrames K c) := by
  obtain ⟨fS, fdS, GS, MS, bS⟩ := cS
  refine F.ok scGFrames (fun vs H Q E h => ?_) (fun cdv A outer s H vs Q E hr h => ?_)
  · obtain ⟨A, G, rfl, _⟩ := h
    rfl
  · obtain ⟨A, G, rfl, g, k⟩ := h
    have hr1 : Room 1 _ := hr
    have hu := hu_of hr
    refine ⟨_, (pss_one (ps_ret (pe_callTy (tupOfK (K := K) rfl) (by rfl) B.tuple PyProof.Rows.boot_tuple (pa_cons (pe_lc (own := [("number", 1)]) (g := (gName 1)) (tt := tYes) rfl scGFrames.nd (pi_list (pe_callB (sortIK (K := K) rfl) (by rfl) B.sorted (by decide +kernel) (pa_cons (pe_callTy (call_listD rfl) (by rfl) B.list (by decide +kernel) (pa_cons (fldK (K := K) rfl (pv 0) rfl) pa_nil)) pa_nil))) (blkOk_by (N := ["self", "number"]) (sc := defScope sGFrames) (by decide +kernel))
       (fun _ _ _ _ _ => (pg_name (i := 1) scGFrames.nd rfl (Or.inl rfl))) (fun _ _ _ _ _ => pts_nil) (fun _ _ _ _ _ => (pe_meth0 (pe_dget hu (fldK (K := K) rfl (pv 0) rfl) (pv 1) (fun _ _ => rfl)) T.Fr.cl MS GS hr1 bS .nil pass0))) pa_nil)))), ?_⟩
    refine ⟨_, rfl, A.g, c.G, A.dx, _, _, rfl, g.o, T.cl, T.moving, rfl, A.ma, _, rfl, .inl g.mov.d, fun l n_l => ?_⟩
    rw [mvK_keys]
    obtain ⟨H1, e_H1, s1, h1⟩ := new_any n_l
    rw [← e_H1]
    clear e_H1
    refine ⟨l, G.mov.map (·.1), rfl, SqL.of h1, fun ns' S' perm rising n_S' => ?_⟩
    have hns : ns' = sortI (G.mov.map (·.1)) := sortI_eq perm rising
    subst hns
    obtain ⟨H2, e_H2, s2, h2⟩ := new_any n_S'
    rw [← e_H2]
    clear e_H2
    refine ⟨S', rfl, ⟨_, SqL.of h2⟩, fun D nD => ?_⟩
    have g2 := g.same (s1.trans s2)
    have lk : (sortI (G.mov.map (·.1))).length = G.mov.length := by rw [(sortI_perm _).length_eq, List.length_map]
    have fw := g.mov.few
    refine comp_it (K := K) (enc := PyData.int) (L := sortI (G.mov.map (·.1))) (is := [1]) (walk_list (K := K) (a := S') (xs := (sortI (G.mov.map (·.1))).map V.int)) (fun H' s' => SqL.of (s' _ _ h2)) (fun _ => true) (frK G) (rpl_intsR _) nD (by omega) ?_ ?_
    · intro j b x H'' Q'' N'' hj rj s'' hQ hN
      unfold Rp at rj
      subst rj
      have g3 := g2.same s''
      have hb : b ∈ G.mov.map (·.1) := (sortI_perm _).mem_iff.mp (List.mem_of_getElem? hj)
      obtain ⟨fr, hf, _⟩ := lookA_mem hb
      obtain ⟨dg, dy, hfr⟩ := g3.frame hf
      refine ⟨rfl, tYes_t (iteT ?_)⟩
      refine ⟨_, rfl, A.g, c.G, A.dx, _, _, rfl, g3.o, T.cl, T.moving, rfl, _, rfl, A.ma, _, rfl, dg, A.af b, dy, _, rfl, hfr, rfl, A.af b, fr, rfl, ⟨dy, hfr⟩, fun H4 v s4 r4 => ?_⟩
      refine hQ rfl H4 v s4 ?_
      unfold frK
      rw [hf]
      exact r4
    intro H3 ys s3 h3 r3
    rw [filter_yes] at r3
    refine ⟨D, ys, rfl, .inl ⟨SqL.of h3, fun t n_t => ?_⟩⟩
    exact k _ _ (((s1.trans s2).trans s3).new n_t) (Rp.tup upd_same (RpL.tk (TK.of ((L2.Same.refl _).new n_t)) _ _ r3))
theorem scGLetters : FnScope ["self", "letter"] ["self"] (defScope sGLetters) := ⟨rfl, rfl, rfl, by decide +kernel, rfl, by decide +kernel, by decide +kernel⟩
theorem ok_gletters {f : Addr} {fd : FuncData} (F : Fun K "letters" "Ground.letters" sGLetters f fd) (T : TG K c) (B : GB mg) : FnOk P w K mg base CX0 1 f fd ["self"] (spGLetters K c) := by
  refine F.ok scGLetters (fun vs H Q E h => ?_) (fun cdv A outer s H vs Q E hr h => ?_)
  · obtain ⟨A, G, rfl, _⟩ := h
    rfl
  · obtain ⟨A, G, rfl, g, k⟩ := h
    have hu := hu_of hr
    refine ⟨_, (pss_one (ps_ret (pe_callTy (tupOfK (K := K) rfl) (by rfl) B.tuple PyProof.Rows.boot_tuple (pa_cons (pe_lc (own := [("letter", 1)]) (g := (gName 1)) (tt := tYes) rfl scGLetters.nd (pi_list (pe_callB (sortIK (K := K) rfl) (by rfl) B.sorted (by decide +kernel) (pa_cons (pe_callTy (call_listD rfl) (by rfl) B.list (by decide +kernel) (pa_cons (fldK (K := K) rfl (pv 0) rfl) pa_nil)) pa_nil))) (blkOk_by (N := ["self", "letter"]) (sc := defScope sGLetters) (by decide +kernel))
       (fun _ _ _ _ _ => (pg_name (i := 1) scGLetters.nd rfl (Or.inl rfl))) (fun _ _ _ _ _ => pts_nil) (fun _ _ _ _ _ => (pe_op (opCatA (K := K) rfl) (pe_tup (pa_cons (pv 1) pa_nil)) (pe_dget hu (fldK (K := K) rfl (pv 0) rfl) (pv 1) (fun _ _ => rfl))))) pa_nil)))), ?_⟩
    obtain ⟨kvs, hra, rr⟩ := id g.run
    refine ⟨_, rfl, A.g, c.G, A.dx, _, _, rfl, g.o, T.cl, T.running, rfl, A.ra, _, rfl, .inl hra, fun l n_l => ?_⟩
    rw [rr.keys]
    obtain ⟨H1, e_H1, s1, h1⟩ := new_any n_l
    rw [← e_H1]
    clear e_H1
    refine ⟨l, G.run.map (·.1), rfl, SqL.of h1, fun ns' S' perm rising n_S' => ?_⟩
    have hns : ns' = sortI (G.run.map (·.1)) := sortI_eq perm rising
    subst hns
    obtain ⟨H2, e_H2, s2, h2⟩ := new_any n_S'
    rw [← e_H2]
    clear e_H2
    refine ⟨S', rfl, ⟨_, SqL.of h2⟩, fun D nD => ?_⟩
    have g2 := g.same (s1.trans s2)
    have lk : (sortI (G.run.map (·.1))).length = G.run.length := by rw [(sortI_perm _).length_eq, List.length_map]
    have fw := g.rf
    refine comp_it (K := K) (enc := PyData.int) (L := sortI (G.run.map (·.1))) (is := [1]) (walk_list (K := K) (a := S') (xs := (sortI (G.run.map (·.1))).map V.int)) (fun H' s' => SqL.of (s' _ _ h2)) (fun _ => true) (fun k => ((lookA G.run k).map fun t => PyData.tuple [.int k, .int t.1, .int t.2.1, .str (S t.2.2)]).getD .none) (rpl_intsR _) nD (by omega) ?_ ?_
    · intro j b x H'' Q'' N'' hj rj s'' hQ hN
      unfold Rp at rj
      subst rj
      have g3 := g2.same s''
      have hb : b ∈ G.run.map (·.1) := (sortI_perm _).mem_iff.mp (List.mem_of_getElem? hj)
      obtain ⟨kv3, hra3, rr3⟩ := id g3.run
      obtain ⟨lt, hl, _⟩ := lookA_mem hb
      have dg := DGet.k (k := Sum.inl b) hra3
      rcases rr3.val (k := b) with ⟨e1, e2⟩ | ⟨y, u, e1, e2, r⟩
      · rw [e1] at hl; cases hl
      rw [e2] at dg
      rw [e1] at hl
      cases hl
      refine ⟨rfl, tYes_t (iteT ?_)⟩
      refine ⟨_, rfl, (by show 1 ≤ sizeLine; decide), fun t1 n_t1 => ?_⟩
      generalize e_H4 : upd _ t1 _ = H4
      obtain ⟨s4, r4⟩ := new_tup (K := K) n_t1 e_H4 (by walk_at "rpl")
      clear e_H4
      have g4 := g3.same s4
      obtain ⟨a, ea, ha⟩ : ∃ a, u = .ref a ∧ TupAt K H'' a [.int lt.1, .int lt.2.1, .str (S lt.2.2)] := by
        unfold ltD Rp at r
        obtain ⟨a, xs, e, h1, h2⟩ := r
        exact ⟨a, e, by unfold TupAt Rp; exact ⟨a, xs, rfl, h1, h2⟩⟩
      subst ea
      obtain ⟨kv4, hra4, rr4⟩ := id g4.run
      have dg4 : DGet H4 A.ra (.int b) (some (.ref a)) := by
        have d := DGet.k (k := Sum.inl b) (s4 _ _ hra3)
        rw [e2] at d
        exact d
      refine ⟨_, rfl, A.g, c.G, A.dx, _, _, rfl, g4.o, T.cl, T.running, rfl, _, rfl, A.ra, _, rfl, dg4, catA_tup (ds := [.int b]) (es := [.int lt.1, .int lt.2.1, .str (S lt.2.2)]) r4 (ha.sm s4) (by show 1 + 3 ≤ 1000000; decide) fun H5 x5 s5 r5 => ?_⟩
      refine hQ rfl H5 _ (s4.trans s5) ?_
      rw [e1]
      exact r5
    intro H3 ys s3 h3 r3
    rw [filter_yes] at r3
    refine ⟨D, ys, rfl, .inl ⟨SqL.of h3, fun t n_t => ?_⟩⟩
    exact k _ _ (((s1.trans s2).trans s3).new n_t) (Rp.tup upd_same (RpL.tk (TK.of ((L2.Same.refl _).new n_t)) _ _ r3))
theorem scGHeaps : FnScope ["self", "found", "letter", "beat", "heap"] ["self"] (defScope sGHeaps) := ⟨rfl, rfl, rfl, by decide +kernel, rfl, by decide +kernel, by decide +kernel⟩
theorem ok_gheaps {f : Addr} {fd : FuncData} (F : Fun K "heaps" "Ground.heaps" sGHeaps f fd) (T : TG K c) (TH : TH K mg c.H) (B : GB mg) (cP : Md P w K mg base 1 c.H "places" ["self"] (spHPlaces K c.H)) : FnOk P w K mg base CX0 2 f fd ["self"] (spGHeaps K c) := by
  obtain ⟨fP, fdP, GP, MP, bP⟩ := cP
  refine F.ok scGHeaps (fun vs H Q E h => ?_) (fun cdv A outer s H vs Q E hr h => ?_)
  · obtain ⟨A, G, rfl, _⟩ := h
    rfl
  · obtain ⟨A, G, rfl, g, k⟩ := h
    have hu := hu_of hr
    have hr1 : Room 1 _ := hr
    refine ⟨_, (pss_cons (ps_set (i := 1) scGHeaps.nd rfl (Or.inl rfl) (pe_lst pa_nil))
       (pss_cons (ps_for PassesOwn.never rfl (pi_list (pe_callB (sortIK (K := K) rfl) (by rfl) B.sorted (by decide +kernel) (pa_cons (pe_callTy (call_listD rfl) (by rfl) B.list (by decide +kernel) (pa_cons (fldK (K := K) rfl (pv 0) rfl) pa_nil)) pa_nil))) (pg_name (i := 2) scGHeaps.nd rfl (Or.inl rfl))
       (pss_cons (ps_asg (pe_dget hu (fldK (K := K) rfl (pv 0) rfl) (pv 2) (fun _ _ => rfl)) (pg_tup rfl (pgs_cons (pg_name (i := 3) scGHeaps.nd rfl (Or.inl rfl)) (pgs_cons (pg_name (i := 4) scGHeaps.nd rfl (Or.inl rfl)) pgs_nil))))
       (pss_one (ps_expr (pe_bm PySem.F.plainAttrs_list PySem.F.slot_list_append PySem.F.type_list_append mt_append (pv 1) (pa_cons (pe_tup (pa_cons (pv 2) (pa_cons (pv 3) (pa_cons (pe_meth0 (pv 4) TH.cl MP GP hr1 bP .nil pass0) pa_nil)))) pa_nil))))))
       (pss_one (ps_ret (pe_callTy (tupOfK (K := K) rfl) (by rfl) B.tuple PyProof.Rows.boot_tuple (pa_cons (pv 1) pa_nil)))))), ?_⟩
    refine ⟨Nat.zero_le _, fun fo n_fo => ?_⟩
    obtain ⟨H0, e_H0, s0, h0⟩ := new_any n_fo
    rw [← e_H0]
    clear e_H0
    have g0 := g.same s0
    refine ⟨_, rfl, A.g, c.G, A.dx, _, _, rfl, g0.o, T.cl, T.piles, rfl, A.pa, _, rfl, .inl g0.pil.d, fun l n_l => ?_⟩
    rw [plK_keys]
    obtain ⟨H1, e_H1, s1, h1⟩ := new_any n_l
    rw [← e_H1]
    clear e_H1
    refine ⟨l, G.pil.map (·.1), rfl, SqL.of h1, fun ns' S' perm rising n_S' => ?_⟩
    have hns : ns' = sortI (G.pil.map (·.1)) := sortI_eq perm rising
    subst hns
    obtain ⟨H2, e_H2, s2, h2⟩ := new_any n_S'
    rw [← e_H2]
    clear e_H2
    have nsf : S' ≠ fo := (ne_of_none (s1 _ _ h0) n_S').symm
    have s02 := (s0.trans s1).trans s2
    have lk : (sortI (G.pil.map (·.1))).length = G.pil.length := by rw [(sortI_perm _).length_eq, List.length_map]
    have fw := g.pil.few
    have h0' := s2 _ _ (s1 _ _ h0)
    refine ⟨S', rfl, ⟨_, SqL.of h2⟩, ?_⟩
    generalize hks : sortI (G.pil.map (·.1)) = ks at h2 lk
    refine for_it (walk_list (K := K) (a := S') (xs := ks.map V.int)) (fun j σ H' => ∃ v2 v3 v4 : Option V, σ = [some (.ref A.g), some (.ref fo), v2, v3, v4] ∧ Same H H' ∧ H' S' = some (.lst (ks.map V.int)) ∧ LstAt K H' fo ((ks.take j).map fun k => ((lookA G.pil k).map fun p => PyData.tuple [.int k, .int p.beat, placesD p.m]).getD .none)) ⟨_, _, _, rfl, s02, h2, ⟨[], h0', RpL.nil⟩⟩ (fun j σ H' _ ⟨_, _, _, _, _, h', _⟩ => SqL.of h') ?_ ?_
    · rintro j x σ H3 H3' hj ⟨v2, v3, v4, rfl, s3, h3, zs, hz, rz⟩ ⟨rfl, ex⟩
      have hjk : j < ks.length := by rw [List.length_map] at hj; exact hj
      rw [List.getElem?_map, List.getElem?_eq_getElem hjk] at ex
      have ex : x = .int ks[j] := (Option.some.inj ex).symm
      subst ex
      have hb : ks[j] ∈ G.pil.map (·.1) := (sortI_perm _).mem_iff.mp (by rw [hks]; exact List.getElem_mem hjk)
      obtain ⟨p, hp, _⟩ := lookA_mem hb
      have et : (ks.take (j + 1)).map (fun k => ((lookA G.pil k).map fun p => PyData.tuple [.int k, .int p.beat, placesD p.m]).getD .none) = (ks.take j).map (fun k => ((lookA G.pil k).map fun p => PyData.tuple [.int k, .int p.beat, placesD p.m]).getD .none) ++ [PyData.tuple [.int ks[j], .int p.beat, placesD p.m]] := by
        rw [List.take_succ_eq_append_getElem hjk, List.map_append, List.map_singleton, hp]
        rfl
      rw [et]
      generalize ks[j] = b at *
      have g3 := g.same s3
      obtain ⟨dg, ht, hH⟩ := g3.pileAt hp
      obtain ⟨⟨dy, hho⟩, _⟩ := id hH
      have lz := RpL.len _ _ rz
      rw [List.length_map, List.length_take] at lz
      refine ⟨_, rfl, A.g, c.G, A.dx, _, _, rfl, g3.o, T.cl, T.piles, rfl, _, rfl, A.pa, _, rfl, dg, A.tp b, _, rfl, ht, rfl, _, _, rfl, _, _, rfl, rfl, ?_⟩
      refine ⟨_, rfl, .inl ⟨rfl, _, SqL.of hz⟩, _, rfl, _, rfl, _, rfl, A.ho b, dy, _, rfl, hho, rfl, A.ho b, A.hd b, _, _, rfl, hH, fun H4 v s4 r4 => ?_⟩
      refine ⟨(by show 3 ≤ sizeLine; decide), fun tp n_tp => ?_⟩
      obtain ⟨q1, q2, q3, q4⟩ := push_tup (ds := [.int b, .int p.beat, placesD p.m]) (s4 _ _ hz) (RpL.tk (TK.of s4) _ _ rz) n_tp (RpL.cons Rp.int (RpL.cons Rp.int (RpL.cons r4 RpL.nil)))
      refine ⟨fo, _, _, rfl, rfl, q1, Nat.lt_of_le_of_lt (show zs.length ≤ 1000000 by omega) (by decide), ?_⟩
      refine ⟨_, _, _, rfl, fun b o e => q4 b o (nin1 (ne_of_none e n_fo)) (s4 _ _ (s3 _ _ e)), q4 _ _ (nin1 nsf) (s4 _ _ h3), q2⟩
    rintro σ H3 ⟨v2, v3, v4, rfl, s3, h3, zs, hz, rz⟩
    rw [List.length_map, List.take_length] at rz
    refine ⟨_, rfl, fo, zs, rfl, .inl ⟨SqL.of hz, fun t n_t => ?_⟩⟩
    refine k _ _ (s3.new n_t) (Rp.tup upd_same (RpL.tk (TK.of ((L2.Same.refl _).new n_t)) _ _ ?_))
    unfold heapsD
    rw [hks]
    exact rz
end
end Wn

namespace Wn
open PySem L2 PySem.Spec PyProof.Rows
/-! ### sorted(set(xs)), xs a list of ints of which few are unlike -/
theorem SetR.few {w : World} {h : Heap} {a : Addr} {S : Int → Bool} {n : Nat} (R : SetR w h a S n) {D : List Int} (hD : ∀ k, S k = true → k ∈ D) : n ≤ D.length := by
  obtain ⟨o, es, ep, t, ho, hex, hdt, g, nd, hm2, hb, hf, hn, hr, hl2⟩ := R
  have h1 := nodup_le nd fun k hk => hD k ((hm2 k).mpr hk)
  rw [List.length_map, Array.length_toList, hn] at h1
  exact h1
section
variable {P : Program} {w : World} {A : Around} {E : Value → Shared → Prop} {s : Shared}
theorem upd_few {I : Addr} {fp wr : List Addr} {G : Array GenState → Array GenState → Prop} {n : Nat} {Pv : Nat → Value → Prop} {St : Nat → Shared → Prop} {R : Result → Shared → Prop}
    (W : WalksS P w A.in1 I fp wr G n Pv St) (S : Addr) (hSf : S ∉ fp) (ns : List Int) (hn : n = ns.length) {D : List Int} (hD : ∀ k ∈ ns, k ∈ D) (hb : D.length + 1 < scanBound) (hval : ∀ i v, Pv i v → ∃ k t, ns[i]? = some k ∧ v = .int k t) :
    ∀ (k i : Nat) (s : Shared), n - i = k → i ≤ n → St i s → (∃ c, SetR w s.heap S (fun j => decide (j ∈ ns.take i)) c) →
      (∀ s' c, Moved (S :: wr) G s s' → SetR w s'.heap S (fun j => decide (j ∈ ns)) c → R (.ok (.ret .none)) s') →
      codeAny (model P w) A (.builtin "set.update.loop" ⟨[.ref S, .ref I], []⟩) R s := by
  have hSw : S ∉ wr := fun h => hSf (W.sub _ h)
  have up : ∀ b ∈ wr, b ∈ S :: wr := fun b hb => List.mem_cons_of_mem _ hb
  intro k
  induction k with
  | zero =>
    intro i s hk' hi hst ⟨c, hS⟩ hR
    obtain rfl : i = n := by omega
    refine codeAny_builtin F.entry_set_update_loop ?_
    rw [Around.under_plainId F.plain_set_update_loop _]
    refine wpAny_bind (W.done s _ _ hst fun s' hm => ?_)
    rw [show ns.take i = ns from List.take_of_length_le (by omega)] at hS
    exact wpAny_pure (hR s' c (hm.mono up) (hS.at fun o e => hm.heap S o hSw e))
  | succ k ih =>
    intro i s hk' hi hst ⟨c, hS⟩ hR
    have hlt : i < n := by omega
    refine codeAny_builtin F.entry_set_update_loop ?_
    rw [Around.under_plainId F.plain_set_update_loop _]
    refine wpAny_bind (W.item i s _ _ hlt hst fun v s' hP hst' hm => ?_)
    obtain ⟨z, t, hz, rfl⟩ := hval i v hP
    have hS' : SetR w s'.heap S (fun j => decide (j ∈ ns.take i)) c := hS.at fun o e => hm.heap S o hSw e
    have hc : c ≤ D.length := SetR.few hS' fun k hk => hD k (List.mem_of_mem_take (of_decide_eq_true hk))
    refine wpAny_bind (wpAny_holding ?_)
    unfold setAdd
    refine wpAny_holding ?_
    refine wpAny_bind ((intKind P w).pyHash (k := z) (intKind_is _ _ _ _) ?_)
    refine setR_add_hashed (s := { s' with toks := s'.toks + 1 }) hS' (by omega) fun h' hsb hS2 => ?_
    have hS3 : SetR w h' S (fun j => decide (j ∈ ns.take (i + 1))) (if decide (z ∈ ns.take i) = true then c else c + 1) := hS2.congr fun j => by
      rw [List.take_add_one, hz]
      simp [List.mem_append]
    refine wpAny_pure ⟨plainId_quiet F.plain_set_update_loop _, ih (i + 1) _ (by omega) hlt (W.frame _ s' _ _ hst' (Nat.le_succ _) fun b hb o e => ?_) ⟨_, hS3⟩ fun s'' c2 hm'' hS'' => ?_⟩
    · rw [hsb.2 b (fun h : b = S => hSf (by rw [← h]; exact hb))]; exact e
    · refine hR s'' c2 (Moved.trans W.gtrans ((hm.mono up).then_heap (Nat.le_succ _) fun b o hb e => ?_) hm'') hS''
      rw [hsb.2 b (fun h : b = S => hb (by rw [h]; exact List.mem_cons_self))]; exact e
set_option maxHeartbeats 3200000 in
theorem set_few {l : Addr} {items : Array Value} (ns : List Int) {Q : Value → Shared → Prop} (hh : A.handled = none) (hl : s.heap.IsList l items) (hit : IntsAre items.toList ns) {D : List Int} (hD : ∀ k ∈ ns, k ∈ D) (hb : D.length + 1 < scanBound)
    (h : ∀ (h' : Heap) (tk c : Nat), SetR w h' s.heap.objs.size (fun j => decide (j ∈ ns)) c → (∀ b o, s.heap.get? b = some o → h'.get? b = some o) → Q (.ref s.heap.objs.size) { s with heap := h', toks := tk }) :
    wpAny (model P w) A (call (.type "set") [.ref l]) Q E s := by
  have hisz : items.size = ns.length := by
    have q := IntsAre.length hit
    rw [Array.length_toList] at q
    exact q
  obtain ⟨c, tl, hmro⟩ := F.called_set.mro
  have hmade := F.called_set.made
  have hsub := F.called_set.sub
  refine wpAny_call (codeAny_of_tree ?_)
  show wpAny _ _ (callAny (.type "set") _) _ _ _
  refine wpAny_pure ⟨Code.quiet_builtin _ (by decide +kernel), codeAny_builtin F.entry_type_call ?_⟩
  rw [Around.under_plain (weight_type_call_type "set" [.ref l] []) rfl]
  have h1 := F.called_set.notType
  have h2 := F.called_set.canCreate
  have hct := F.typeCall_set_1 (.ref l)
  repeat (any_goals (first | assumption | wp_step))
  refine codeAny_mono (code_set_led1 (.ref l) (E := E) (Q₁ := fun obj s₁ => obj = .ref s.heap.objs.size ∧ s₁ = { s with heap := s.heap.push { cls := .type "set", dict := none, data := .set #[] 0 (.fresh 0 0 (!w.params.followText "set-order")) } }) ⟨rfl, rfl⟩) fun r s₁ hr => ?_
  cases r with
  | error e => exact hr
  | ok fl =>
    cases fl with
    | ret obj =>
      obtain ⟨rfl, rfl⟩ := hr
      have hS : (s.heap.push { cls := .type "set", dict := none, data := .set #[] 0 (.fresh 0 0 (!w.params.followText "set-order")) }).get? s.heap.objs.size = some { cls := .type "set", dict := none, data := .set #[] 0 (.fresh 0 0 (!w.params.followText "set-order")) } := Heap.get?_push_size _ rfl
      have hT : Shared.TypeIs { s with heap := s.heap.push { cls := .type "set", dict := none, data := .set #[] 0 (.fresh 0 0 (!w.params.followText "set-order")) } } (.ref s.heap.objs.size) "set" := ⟨_, hS, rfl⟩
      have hli := F.called_set.init.lookup
      have hbi := F.called_set.init.bind (.ref s.heap.objs.size)
      repeat (any_goals (first | assumption | wp_step))
      refine codeAny_mono (codeAny_call_builtin (R := wants (fun r s₂ => r = .none ∧ ∃ h' tk c, s₂ = { s with heap := h', toks := tk } ∧ SetR w h' s.heap.objs.size (fun j => decide (j ∈ ns)) c ∧
          (∀ b o, s.heap.get? b = some o → h'.get? b = some o)) E) F.called_set.init.plain F.entry_set_init (check_set_init_1 hT ?_)) fun r₂ s₂ hr₂ => ?_
      · obtain ⟨ol, hol, hcl, nl, hdl⟩ := hl
        obtain ⟨ocls, odict, odata, oslots⟩ := ol
        simp only at hcl hdl
        subst hcl; subst hdl
        have hol' : (s.heap.push { cls := .type "set", dict := none, data := .set #[] 0 (.fresh 0 0 (!w.params.followText "set-order")) }).get? l = some { cls := .type "list", dict := odict, data := .seq items nl, slots := oslots } := Heap.get?_push_of_some _ hol
        have hsls := F.sub_list_set
        have hslf := F.sub_list_frozenset
        have hne : (Value.type "list" == Value.type "dict") = false := by decide
        have hl1 : (s.heap.push { cls := .type "set", dict := none, data := .set #[] 0 (.fresh 0 0 (!w.params.followText "set-order")) }).IsList l items := ⟨_, hol', rfl, nl, rfl⟩
        unfold Builtin.«set.__init__» noKeywords Builtin.Frozenset.updateFrom
        generalize hPI : pyIter = PI
        wp_walk
        subst hPI
        refine wpAny_pyIter_list hl1 ?_
        refine wpAny_bind (wpAny_runValue ?_)
        have hlS : l < s.heap.objs.size := Heap.lt_size hol
        have hh3 : A.in1.in1.in1.handled = none := by simp [hh]
        have hneI : l ≠ (s.heap.push { cls := .type "set", dict := none, data := .set #[] 0 (.fresh 0 0 (!w.params.followText "set-order")) }).objs.size := by
          rw [Heap.size_push]; exact Nat.ne_of_lt (Nat.lt_succ_of_lt hlS)
        have hSf : s.heap.objs.size ∉ [(s.heap.push { cls := .type "set", dict := none, data := .set #[] 0 (.fresh 0 0 (!w.params.followText "set-order")) }).objs.size, l] := by
          rw [Heap.size_push]; simp only [List.mem_cons, List.mem_singleton, List.not_mem_nil, or_false, not_or]
          exact ⟨Nat.ne_of_lt (Nat.lt_succ_self _), Nat.ne_of_gt hlS⟩
        have hval : ∀ (i : Nat) (v : Value), items[i]? = some v → ∃ k t, ns[i]? = some k ∧ v = .int k t := fun i v hv => by
          have hi : i < ns.length := by rw [← hisz]; exact (Array.getElem?_eq_some_iff.mp hv).1
          obtain ⟨t, e⟩ := IntsAre.int_at hit i v (by rw [Array.getElem?_toList]; exact hv)
          refine ⟨ns[i], t, List.getElem?_eq_getElem hi, ?_⟩
          rw [e, List.getD_eq_getElem?_getD, List.getElem?_eq_getElem hi] <;> rfl
        refine upd_few ((Walks.list hh3 _ l hneI items).toS) s.heap.objs.size hSf ns hisz hD hb hval (items.size - 0) 0 _ (by omega) (Nat.zero_le _)
          ⟨⟨_, Heap.get?_push_size _ rfl, rfl, rfl⟩, (hl1.push _)⟩ ?hS0 ?hR
        case hS0 =>
          have hget : ((s.heap.push { cls := .type "set", dict := none, data := .set #[] 0 (.fresh 0 0 (!w.params.followText "set-order")) }).push { cls := .type "list_iterator", data := .fields #[.ref l, .int 0 0] }).get? s.heap.objs.size = some { cls := .type "set", dict := none, data := .set #[] 0 (.fresh 0 0 (!w.params.followText "set-order")) } := Heap.get?_push_of_some _ hS
          exact ⟨0, setR_new_at hget⟩
        case hR =>
          intro s' c' hm hS'
          obtain ⟨h', g2, d', tk', os'⟩ := s'
          have eg : g2 = s.gens := hm.gens
          have ed : d' = s.drawn := hm.drawn
          have eo : os' = s.os := hm.os
          subst eg; subst ed; subst eo
          show wpAny _ _ _ _ _ _
          refine wpAny_pure ?_
          show wpAny _ _ (ret Value.none) _ _ _
          refine wpAny_pure ⟨rfl, h', tk', c', rfl, hS', fun b o e => ?_⟩
          have hb0 : b < s.heap.objs.size := Heap.lt_size e
          have hb1 : b ≠ s.heap.objs.size := Nat.ne_of_lt hb0
          have hb2 : b ≠ (s.heap.push { cls := .type "set", dict := none, data := .set #[] 0 (.fresh 0 0 (!w.params.followText "set-order")) }).objs.size := by
            rw [Heap.size_push]; exact Nat.ne_of_lt (Nat.lt_succ_of_lt hb0)
          exact hm.heap b o (by simp only [List.mem_cons, List.mem_singleton, List.not_mem_nil, or_false, not_or]; exact ⟨hb1, hb2⟩) (Heap.get?_push_of_some _ (Heap.get?_push_of_some _ e))
      · cases r₂ with
        | error e => exact hr₂
        | ok fl₂ =>
          cases fl₂ with
          | ret r =>
            obtain ⟨rfl, h', tk, c', rfl, hS', hk'⟩ := hr₂
            repeat (any_goals (first | assumption | wp_step))
            exact h _ _ _ hS' hk'
          | _ => exact hr₂.elim
    | _ => exact hr.elim
end
end Wn

namespace Wn
open PySem L2 PySem.Spec PyProof.Rows
section
variable {X : Cx} {K : PySem.W.Frag}
/-- sorted(set(xs)) -/
def tSortSet (K : PySem.W.Frag) (ta : TE) : TE := fun σ H Q => ta σ H fun x H1 => ∃ (l : Addr) (ns D : List Int), x = .ref l ∧ SqL K H1 l (ns.map V.int) ∧ (∀ k ∈ ns, k ∈ D) ∧ D.length < 64 ∧
  ∀ (ys : List Int) (p : Addr), ys.Pairwise (· < ·) → (∀ k, k ∈ ys ↔ k ∈ ns) → H1 p = none → Q (.ref p) (upd H1 p (.lst (ys.map V.int)))
theorem pe_sortSet {a : Expr} {ta : TE} {p p2 q pos : Pos} (hK : X.K = K) (hc : X.calm = true) (hg : Gl X "sorted") (hm : X.mg "sorted" = none) (hg2 : Gl X "set") (hm2 : X.mg "set" = none) (ha : PE X a ta)
    (na : starEach [a] X.env = (false, eval a X.env) :: starEach [] X.env := by rfl) : PE X (.Call (.Name "sorted" p) [.Call (.Name "set" p2) [a] [] q] [] pos) (tSortSet K ta) := by
  subst hK
  refine ⟨fun pins s σ H Q I h => ?_⟩
  refine Call_ (ld_blt I hg hm boot_sorted ?_)
  refine callWith_builtin1 (args_cons ?_ rfl) rfl rfl
  refine Call_ (ld_blt I hg2 hm2 boot_set ?_)
  refine callWith_type1 (args_cons (thn (ha.run pins s σ H _ I h) fun v s1 ⟨x, H1, I1, r1, q1⟩ => args_nil ?_) na) na rfl
  obtain ⟨l, ns, D, rfl, hq, hD, h64, q1⟩ := q1
  cases r1
  obtain ⟨its, r, pl, hz⟩ := I1.list hq
  refine set_few ns (I1.ok.hd hc) pl.isList (by simpa using ints_of_vals r) hD (by unfold scanBound; omega) fun h' tk c R1 k1 => ?_
  refine args_nil ?_
  have I2 : Inv X pins σ H1 { s1 with heap := h', toks := tk } := I1.kept k1
  have hcD := SetR.few R1 fun k hk => hD k (of_decide_eq_true hk)
  refine sorted_set (s := { s1 with heap := h', toks := tk }) R1 (I2.ok.hd hc) (by omega) fun s' p' out cc ys k2 g2 o2 hp ho hi hy hm hl => ?_
  have hlen : (ys.map V.int).length ≤ sizeLine := by
    rw [List.length_map, hl]
    exact Nat.le_trans (show c ≤ 64 by omega) (by decide)
  have I3 := I2.laid (t' := s'.toks) (h' := s'.heap) k2 hp (show ObjOk X.prog X.w _ _ _ (.lst (ys.map V.int)) from ⟨hlen, out.toList, cc, vals_of_ints hi, by rw [Array.toArray_toList]; exact ho⟩)
  refine ⟨.ref p', _, I3.call' (ch := []) o2 (Un.kept fun b u e => e) (I3.hok.kept fun b u e => e) (by rw [g2]; exact I3.bare) (fun _ z => nomatch z), rfl, q1 ys p' hy (fun k => ?_) (I2.hok.fresh hp)⟩
  rw [hm k, decide_eq_true_eq]
end
end Wn

set_option maxHeartbeats 800000
namespace Wn
open PySem L2
open SX (S S_len S_cat S_beq_eq join_S)
set_option pp.maxSteps 700
set_option pp.deepTerms false
local macro_rules | `(tactic| walk_at "h") => `(tactic| first | with_reducible assumption | (with_reducible exact upd_same) | (with_reducible apply g_upd; (walk_at "neq"); (walk_at "h")) | (with_reducible apply g_same; (with_reducible assumption); (walk_at "h")) | (with_reducible apply g_kp; (with_reducible assumption); (walk_at "nin"); (walk_at "h")) | (with_reducible apply g_tk; (with_reducible assumption); (walk_at "h")))
local macro_rules | `(tactic| walk_at "neq") => `(tactic| first | with_reducible assumption | (with_reducible apply Ne.symm; with_reducible assumption) | (with_reducible apply ne_upd; (with_reducible assumption)) | (with_reducible apply Ne.symm; with_reducible apply ne_upd; with_reducible assumption) | (with_reducible apply ne_fr; (with_reducible assumption); (walk_at "h")) | (with_reducible apply ne_fr'; (with_reducible assumption); (walk_at "h")) | (with_reducible apply ne_kd; (walk_at "h"); (walk_at "h"); (with_unfolding_all (intro z; cases z))))
local macro_rules | `(tactic| walk_at "nin") => `(tactic| first | (with_reducible exact nin0) | with_reducible assumption | (with_reducible apply ninc; (walk_at "neq"); (walk_at "nin")))
local macro_rules | `(tactic| walk_at "none") => `(tactic| first | with_reducible assumption | (with_reducible apply n_upd; (with_reducible assumption)) | (with_reducible apply n_same; (with_reducible assumption); (walk_at "none")) | (with_reducible apply n_kp; (with_reducible assumption); (walk_at "nin"); (walk_at "none")))
local macro_rules | `(tactic| walk_at "mem") => `(tactic| first | (with_reducible exact List.mem_cons_self) | (with_reducible apply List.mem_cons_of_mem; (walk_at "mem")))
local macro_rules | `(tactic| walk_at "am") => `(tactic| first | (with_reducible exact am0) | (with_reducible apply am1; (first | (apply Or.inl; walk_at "mem") | (apply Or.inr; walk_at "none")); (walk_at "am")))
local macro_rules | `(tactic| walk_at "tk") => `(tactic| first | (with_reducible exact TK.refl _) | with_reducible assumption | (with_reducible apply t_tk; (with_reducible assumption); (walk_at "tk")) | (with_reducible apply t_same; (with_reducible assumption); (walk_at "tk")) | (with_reducible apply t_new; (with_reducible assumption); (walk_at "tk")) | (with_reducible apply t_wr; (walk_at "h"); (with_unfolding_all rfl); (walk_at "tk")))
local macro_rules | `(tactic| walk_at "same") => `(tactic| first | (with_reducible exact L2.Same.refl _) | with_reducible assumption | (with_reducible apply s_same; (with_reducible assumption); (walk_at "same")) | (with_reducible apply s_new; (with_reducible assumption); (walk_at "same")) | (with_reducible apply s_wrn; (walk_at "none"); (walk_at "same")))
local macro_rules | `(tactic| walk_at "kp") => `(tactic| first | (with_reducible exact Kp.refl _ _) | with_reducible assumption | (with_reducible apply k_same; (with_reducible assumption); (walk_at "kp")) | (with_reducible apply k_kp; (with_reducible assumption); (walk_at "kp")) | (with_reducible apply k_kpm; (with_reducible assumption); (walk_at "am"); (walk_at "kp")) | (with_reducible apply k_new; (with_reducible assumption); (walk_at "kp")) | (with_reducible apply k_wr; (walk_at "mem"); (walk_at "kp")) | (with_reducible apply k_wrn; (walk_at "none"); (walk_at "kp")))
local macro_rules | `(tactic| walk_at "rp") => `(tactic| first | with_reducible assumption | (with_reducible exact Rp.int) | (with_reducible exact Rp.str) | (with_reducible exact Rp.none) | (with_reducible exact Rp.bool) | (with_reducible apply Rp.tk'; (with_reducible assumption); (walk_at "tk")) | (with_reducible apply Rp.tup; (walk_at "h"); (walk_at "rpl")))
local macro_rules | `(tactic| walk_at "rpl") => `(tactic| first | with_reducible assumption | (with_reducible exact RpL.nil) | (with_reducible apply RpL.tk'; (with_reducible assumption); (walk_at "tk")) | (with_reducible apply RpL.cons; (walk_at "rp"); (walk_at "rpl")))
local macro_rules | `(tactic| walk_at "g") => `(tactic| repeat (first | refine ⟨_, rfl, ?_⟩ | refine ⟨_, _, rfl, rfl, ?_⟩ | refine ⟨rfl, _, rfl, ?_⟩ | refine ⟨_, _, rfl, rfl, (by first | decide | omega), ?_⟩))
/-- what forget asks: letters rise, and whatever is there is known -/
structure RunOk (G : Gd) : Prop where
  up : (G.run.map (·.1)).Pairwise (· < ·)
  all : ∀ k ∈ G.lets, k ∈ G.run.map (·.1)
  few : G.run.length < 64
def spGForget (K : PySem.W.Frag) (c : Gc) : Sp := fun vs H Q _ => ∃ (A : Ga) (G : Gd), vs = [.ref A.g] ∧ GroundAt K c H A G ∧ RunOk G ∧ ∀ H' ra', Kp [A.g] H H' → H ra' = none → GroundAt K c H' { A with ra := ra' } G.forget → Q .non H'

theorem look_of_nodup {α : Type} {m : List (Int × α)} (nd : (m.map (·.1)).Nodup) {p : Int × α} (h : p ∈ m) : lookA m p.1 = some p.2 := by
  induction m with
  | nil => cases h
  | cons q m ih =>
    rw [List.map_cons, List.nodup_cons] at nd
    rw [lookA_cons]
    rcases List.mem_cons.mp h with e | h
    · rw [if_pos (by rw [e]), e]
    · rw [if_neg (fun e => nd.1 (by rw [e]; exact List.mem_map.mpr ⟨p, h, rfl⟩))]
      exact ih nd.2 h
theorem look_none {α : Type} {m : List (Int × α)} {k : Int} (h : k ∉ m.map (·.1)) : lookA m k = none := by
  cases e : lookA m k with
  | none => rfl
  | some x => exact absurd (List.mem_map.mpr ⟨_, look_mem e, rfl⟩) h
theorem putA_new {α : Type} {m : List (Int × α)} {k : Int} {x : α} (h : lookA m k = none) : putA m k x = m ++ [(k, x)] := by
  unfold putA
  rw [any_lookA, h]
  rfl
theorem dc_it {J : It} {n : Nat} {Gp : Hp → Prop} {Y : Nat → Hp → V → Hp → Prop} (w : Walk J n Gp Y) {g : L2.TG} {tt : TT} {tk tv : TE} {vs : List Nat} {σ : L2.St} {H1 : Hp} {D : Addr} {Qd : Hp → Prop} (Pv : Nat → Hp → Prop) (h0 : Pv 0 (upd H1 D (.dK []))) (hG : ∀ i H, i ≤ n → Pv i H → Gp H)
    (hs : ∀ i x H H', i < n → Pv i H → Y i H x H' → g x (wipe σ vs) H' fun σ2 H2 => wipe σ2 vs = wipe σ vs ∧ tt σ2 H2 fun b H3 =>
      if b = true then tk σ2 H3 fun y H4 => tv σ2 H4 fun z H5 => ∃ kvs k, y = kV k ∧ H5 D = some (.dK kvs) ∧ kvs.length < sizeLine ∧ Pv (i + 1) (upd H5 D (.dK (putK kvs k z))) else Pv (i + 1) H3) (hd : ∀ H, Pv n H → Qd H) :
    ∃ W : Nat → Nat → Hp → Prop, (∃ m, W 0 m (upd H1 D (.dK []))) ∧ ∀ i m H, W i m H →
      (J.stop i H ∧ Qd H) ∨ (J.go i H ∧ ∃ Nx : Hp → Prop, (∀ H', Nx H' → ∃ m', m' < m ∧ W (i + 1) m' H') ∧ ∀ x H', J.yld i H x H' → g x (wipe σ vs) H' fun σ2 H2 => wipe σ2 vs = wipe σ vs ∧ tt σ2 H2 fun b H3 =>
        if b = true then tk σ2 H3 fun y H4 => tv σ2 H4 fun z H5 => ∃ kvs k, y = kV k ∧ H5 D = some (.dK kvs) ∧ kvs.length < sizeLine ∧ Nx (upd H5 D (.dK (putK kvs k z))) else Nx H3) := by
  refine ⟨fun i m H => m = n - i ∧ i ≤ n ∧ Pv i H, ⟨n, by simp, Nat.zero_le _, h0⟩, ?_⟩
  rintro i m H ⟨rfl, hi, p⟩
  have q := hG i H hi p
  by_cases hlt : i < n
  · exact .inr ⟨w.goes i H hlt q, Pv (i + 1), fun H' p' => ⟨n - (i + 1), by omega, rfl, hlt, p'⟩, fun x H' y => hs i x H H' hlt p (w.yields i H x H' hlt q y)⟩
  · have e : i = n := by omega
    subst e
    exact .inl ⟨w.stops H q, hd H p⟩
section
variable {P : Program} {w : World} {K : PySem.W.Frag} {mg : Str → Option Value} {base : Heap} {c : Gc}
theorem scGForget : FnScope ["self", "there", "frame", "letter"] ["self"] (defScope sGForget) := ⟨rfl, rfl, rfl, by decide +kernel, rfl, by decide +kernel, by decide +kernel⟩
theorem ok_gforget {f : Addr} {fd : FuncData} (F : Fun K "forget" "Ground.forget" sGForget f fd) (T : TG K c) (B : GB mg) : FnOk P w K mg base CX0 1 f fd ["self"] (spGForget K c) := by
  refine F.ok scGForget (fun vs H Q E h => ?_) (fun cdv A outer s H vs Q E hr h => ?_)
  · obtain ⟨A, G, rfl, _⟩ := h
    rfl
  · obtain ⟨A, G, rfl, g, ok, k⟩ := h
    have hu := hu_of hr
    refine ⟨_, (pss_cons (ps_set (i := 1) scGForget.nd rfl (Or.inl rfl) (pe_op op_cat (pe_lock (pe_lc (own := [("frame", 2)]) (g := (gName 2)) (tt := tYes) rfl scGForget.nd (pi_values (fldK (K := K) rfl (pv 0) rfl)) (blkOk_by (N := ["self", "there", "frame", "letter"]) (sc := defScope sGForget) (by decide +kernel))
       (fun _ _ _ _ _ => (pg_name (i := 2) scGForget.nd rfl (Or.inl rfl))) (fun _ _ _ _ _ => pts_nil) (fun _ _ _ _ _ => (fldK (K := K) rfl (pv 2) rfl)))) (pe_callTy (call_listD rfl) (by rfl) B.list (by decide +kernel) (pa_cons (fldK (K := K) rfl (pv 0) rfl) pa_nil))))
       (pss_one (ps_fld (pv 0) (pe_dc (own := [("letter", 3)]) (g := (gName 3)) (tt := tYes) rfl scGForget.nd (pi_list (pe_sortSet (K := K) rfl rfl (by rfl) B.sorted (by rfl) B.set (pv 1))) (blkOk_by (N := ["self", "there", "frame", "letter"]) (sc := defScope sGForget) (by decide +kernel))
       (fun _ _ _ _ _ => (pg_name (i := 3) scGForget.nd rfl (Or.inl rfl))) (fun _ _ _ _ _ => pts_nil) (fun _ _ _ _ _ => (pv 3)) (fun _ _ _ _ _ => (pe_dget hu (fldK (K := K) rfl (pv 0) rfl) (pv 3) (fun _ _ => rfl)))) rfl))), ?_⟩
    obtain ⟨n1, n2, n3, n4, n5, n6, n7, n8, n9⟩ := g.gne
    have fw := g.mov.few
    refine ⟨A.ma, _, g.mov.d, by trivial, fun od => ?_⟩
    have hnf : ∀ b o, b ≠ A.ma → H b = some o → upd H A.ma (.frz od (.dK (mvK A G.mov))) b = some o := fun b o hb e => by rw [upd_ne hb]; exact e
    generalize hH1 : upd H A.ma (.frz od (.dK (mvK A G.mov))) = H1 at hnf
    have hma1 : H1 A.ma = some (.frz od (.dK (mvK A G.mov))) := by rw [← hH1]; exact upd_same
    have nma : ∀ kv ∈ G.mov, A.af kv.1 ≠ A.ma := fun kv hk => by
      obtain ⟨dy, e⟩ := g.mov.fr kv hk
      exact ne_of e g.mov.d (by intro z; cases z)
    refine ⟨_, rfl, A.g, c.G, A.dx, _, _, rfl, hnf _ _ n5 g.o, T.cl, T.moving, rfl, A.ma, od, _, rfl, hma1, fun D nD => ?_⟩
    refine lc_it (walk_values (d := A.ma) (o := od) (kvs := mvK A G.mov)) (fun j H' => Same H1 H' ∧ H' D = some (.lst ((G.mov.take j).map fun kv => V.int (kv.2.lt : Int)))) ⟨(L2.Same.refl _).new nD, upd_same⟩ (fun j H' _ ⟨s, _⟩ => s _ _ hma1) ?_ ?_
    · rintro j x H2 H2' hj ⟨s2, h2⟩ ⟨rfl, kk, ek⟩
      have hjm : j < G.mov.length := by unfold mvK at hj; rw [List.length_map] at hj; exact hj
      unfold mvK at ek
      rw [List.getElem?_map, List.getElem?_eq_getElem hjm] at ek
      have ek : (Sum.inl G.mov[j].1, V.ref (A.af G.mov[j].1)) = (kk, x) := Option.some.inj ek
      cases ek
      have hm := List.getElem_mem hjm
      obtain ⟨dy, hf⟩ := g.mov.fr _ hm
      refine ⟨rfl, tYes_t (iteT ?_)⟩
      refine ⟨_, rfl, A.af G.mov[j].1, c.Fr, dy, _, _, rfl, s2 _ _ (hnf _ _ (nma _ hm) hf), T.Fr.cl, T.Fr.letter, rfl, _, h2, Nat.lt_of_le_of_lt (show _ ≤ 1000000 by rw [List.length_map, List.length_take]; omega) (by decide), ?_, ?_⟩
      · exact fun b o e => by
          rw [upd_ne (ne_of_none e nD)]
          exact s2 b o e
      · rw [upd_same, List.take_succ_eq_append_getElem hjm, List.map_append]
        rfl
    rintro H2 ⟨s2, h2⟩
    have hlm : (mvK A G.mov).length = G.mov.length := by unfold mvK; rw [List.length_map]
    rw [hlm, List.take_length] at h2
    refine ⟨s2 _ _ hma1, ?_⟩
    have nDm : D ≠ A.ma := (ne_of_none hma1 nD).symm
    have s3 : Same H (upd H2 A.ma (.dK (mvK A G.mov))) := fun b o e => by
      by_cases hb : b = A.ma
      · subst hb
        rw [g.mov.d] at e
        rw [upd_same]
        exact e
      · rw [upd_ne hb]
        exact s2 _ _ (hnf _ _ hb e)
    have h3 : upd H2 A.ma (.dK (mvK A G.mov)) D = some (.lst (G.mov.map fun kv => V.int (kv.2.lt : Int))) := by rw [upd_ne nDm]; exact h2
    generalize upd H2 A.ma (.dK (mvK A G.mov)) = H3 at s3 h3
    clear hH1 hnf hma1 s2 h2
    have g3 := g.same s3
    refine ⟨_, rfl, A.g, c.G, A.dx, _, _, rfl, g3.o, T.cl, T.piles, rfl, A.pa, _, rfl, .inl g3.pil.d, fun l n_l => ?_⟩
    rw [plK_keys]
    obtain ⟨H4, e_H4, s4, h4⟩ := new_any n_l
    rw [← e_H4]
    clear e_H4
    have fp := g.pil.few
    refine ⟨D, l, _, _, rfl, rfl, s4 _ _ h3, h4, Nat.le_trans (show _ ≤ 2000000 by rw [List.length_map, List.length_map, List.length_map]; omega) (by decide), fun th n_th => ?_⟩
    have elets : (G.mov.map fun kv => V.int (kv.2.lt : Int)) ++ (G.pil.map (·.1)).map V.int = G.lets.map V.int := by
      unfold Gd.lets
      rw [List.map_append, List.map_map (l := G.mov)]
      rfl
    rw [elets]
    obtain ⟨H5, e_H5, s5, h5⟩ := new_any n_th
    rw [← e_H5]
    clear e_H5
    have s05 := (s3.trans s4).trans s5
    refine ⟨_, rfl, th, G.lets, G.run.map (·.1), rfl, SqL.of h5, ok.all, by rw [List.length_map]; exact ok.few, fun ys S' hy hm n_S' => ?_⟩
    obtain ⟨H6, e_H6, s6, h6⟩ := new_any n_S'
    rw [← e_H6]
    clear e_H6
    have s06 := s05.trans s6
    refine ⟨S', rfl, ⟨_, SqL.of h6⟩, fun ra' n_ra => ?_⟩
    have er : G.forget.run = G.run.filter fun kv => decide (kv.1 ∈ G.lets) := rfl
    generalize hrn : (G.run.filter fun kv => decide (kv.1 ∈ G.lets)) = rn at er
    have upr : (rn.map (·.1)).Pairwise (· < ·) := by
      rw [← hrn]
      exact List.Pairwise.sublist (List.Sublist.map _ List.filter_sublist) ok.up
    have ey : ys = rn.map (·.1) := by
      refine eq_of_lt _ _ hy upr fun x => ?_
      rw [hm]
      constructor
      · intro hx
        obtain ⟨kv, hk, e⟩ := List.mem_map.mp (ok.all x hx)
        refine List.mem_map.mpr ⟨kv, ?_, e⟩
        rw [← hrn, List.mem_filter]
        exact ⟨hk, by rw [e]; exact decide_eq_true hx⟩
      · intro hx
        obtain ⟨kv, hk, e⟩ := List.mem_map.mp hx
        rw [← hrn, List.mem_filter] at hk
        rw [← e]
        exact of_decide_eq_true hk.2
    subst ey
    have lrn : rn.length < 64 := by
      have := List.length_filter_le (fun kv => decide (kv.1 ∈ G.lets)) G.run
      rw [hrn] at this
      have := ok.few
      omega
    have look : ∀ j (hj : j < rn.length), lookA G.run rn[j].1 = some rn[j].2 := fun j hj => by
      have hm1 : rn[j] ∈ G.run := by
        have : rn[j] ∈ G.run.filter fun kv => decide (kv.1 ∈ G.lets) := by rw [hrn]; exact List.getElem_mem hj
        exact (List.mem_filter.mp this).1
      exact look_of_nodup (ok.up.imp fun h => Int.ne_of_lt h) hm1
    refine dc_it (walk_list (K := K) (a := S') (xs := (rn.map (·.1)).map V.int)) (fun j H' => Same H6 H' ∧ DictAt ltD K H' ra' (rn.take j)) ⟨(L2.Same.refl _).new n_ra, [], upd_same, rfl⟩ (fun j H' _ ⟨s, _⟩ => SqL.of (s _ _ h6)) ?_ ?_
    · rintro j x H7 H7' hj ⟨s7, kvs, h7, r7⟩ ⟨rfl, ex⟩
      have hjr : j < rn.length := by rw [List.length_map, List.length_map] at hj; exact hj
      rw [List.getElem?_map, List.getElem?_map, List.getElem?_eq_getElem hjr] at ex
      have ex : x = .int rn[j].1 := (Option.some.inj ex).symm
      subst ex
      have g7 := g.same (s06.trans s7)
      obtain ⟨kr, hr7, rr7⟩ := id g7.run
      have dg := DGet.k (k := Sum.inl rn[j].1) hr7
      rcases rr7.val (k := rn[j].1) with ⟨e1, e2⟩ | ⟨y, u, e1, e2, r⟩
      · rw [look j hjr] at e1; cases e1
      rw [look j hjr] at e1
      cases e1
      rw [e2] at dg
      refine ⟨rfl, tYes_t (iteT ?_)⟩
      refine ⟨_, rfl, _, rfl, A.g, c.G, A.dx, _, _, rfl, g7.o, T.cl, T.running, rfl, _, rfl, A.ra, _, rfl, dg, kvs, Sum.inl rn[j].1, rfl, h7, Nat.lt_of_le_of_lt (show kvs.length ≤ 1000 by rw [r7.len, List.length_take]; omega) (by decide), ?_, ?_⟩
      · exact fun b o e => by
          rw [upd_ne (ne_of_none e n_ra)]
          exact s7 b o e
      · have tE : TK H7' (upd H7' ra' (.dK (putK kvs (Sum.inl rn[j].1) u))) := (TK.refl _).wr h7 rfl
        have ep : rn.take (j + 1) = putA (rn.take j) rn[j].1 rn[j].2 := by
          rw [List.take_succ_eq_append_getElem hjr]
          exact (putA_new (look_none fun z => by
            obtain ⟨kv, hk, e⟩ := List.mem_map.mp z
            obtain ⟨i, hi, ei⟩ := List.mem_iff_getElem.mp hk
            rw [List.length_take] at hi
            rw [List.getElem_take] at ei
            have := List.pairwise_iff_getElem.mp upr i j (by rw [List.length_map]; omega) (by rw [List.length_map]; omega) (by omega)
            rw [List.getElem_map, List.getElem_map, ei] at this
            have e' : kv.1 = rn[j].1 := e
            omega)).symm
        rw [ep]
        exact ⟨_, upd_same, (r7.put r).tk tE⟩
    rintro H7 ⟨s7, d7⟩
    rw [List.length_map, List.length_map, List.take_length] at d7
    have s07 := s06.trans s7
    have g7 := g.same s07
    have n_ra0 : H ra' = none := make_none s06 n_ra
    have nrg : A.g ≠ ra' := ne_of_none (s06 _ _ g.o) n_ra
    have go7 := g7.o
    refine ⟨_, rfl, A.g, c.G, A.dx, _, rfl, go7, T.cl, T.running, (by show 9 < 1000; decide), ?_⟩
    obtain ⟨H8, e_H8, k8, t8, h8⟩ := wr_any go7 rfl
    rw [← e_H8]
    clear e_H8
    refine k H8 ra' (fun b o hb e => k8 b o hb (s07 b o e)) n_ra0 ?_
    have nth : ∀ a ∈ A.foot G, a ≠ ra' := fun a ha => by
      obtain ⟨o, e⟩ := g.taken a ha
      exact ne_of_none e n_ra0
    have n8' : ∀ a ∈ [A.g, A.l, A.fa, A.p, A.ra, A.ma, A.pa, A.lo], a ≠ ra' := fun a ha => nth a (List.mem_append_left _ (List.mem_append_left _ (List.mem_append_left _ ha)))
    have nhd : ∀ kv ∈ G.pil, A.hd kv.1 ≠ ra' := fun kv hk => nth _ (List.mem_append_right _ (List.mem_map.mpr ⟨kv, hk, rfl⟩))
    exact ⟨h8, g7.R.kp k8 t8 (nin1 n1.symm) (nin1 n2.symm), g7.F.kp k8 t8 (nin1 n3.symm), by rw [er]; exact d7.kp k8 t8 (nin1 nrg.symm),
      ⟨k8 _ _ (nin1 n5.symm) g7.mov.d, fun kv hk => (g7.mov.fr kv hk).kp k8 (nin1 (n8 kv hk).symm), g7.mov.inj, g7.mov.nd, g7.mov.few⟩,
      ⟨k8 _ _ (nin1 n6.symm) g7.pil.d, fun kv hk => SqT.tk (g7.pil.tp kv hk) t8, fun kv hk => (g7.pil.hp kv hk).kp k8 t8 (nin1 (n9 kv hk).1.symm) (nin1 (n9 kv hk).2.symm), g7.pil.inj, g7.pil.injd,
        fun k hk => by obtain ⟨kv, hkv, rfl⟩ := List.mem_map.mp hk; exact ⟨nhd kv hkv, (g7.pil.ra _ hk).2⟩, g7.pil.nd, g7.pil.few, g7.pil.sm⟩,
      g7.lost.kp k8 t8 (nin1 n7.symm), (n8' A.ma (by simp)).symm, (n8' A.pa (by simp)).symm, g7.mp, g7.lf, by rw [er]; omega⟩
end
end Wn

set_option maxHeartbeats 800000
namespace Wn
open PySem L2
set_option pp.maxSteps 700
set_option pp.deepTerms false
local macro_rules | `(tactic| walk_at "h") => `(tactic| first | with_reducible assumption | (with_reducible exact upd_same) | (with_reducible apply g_upd; (walk_at "neq"); (walk_at "h")) | (with_reducible apply g_same; (with_reducible assumption); (walk_at "h")) | (with_reducible apply g_kp; (with_reducible assumption); (walk_at "nin"); (walk_at "h")) | (with_reducible apply g_tk; (with_reducible assumption); (walk_at "h")))
local macro_rules | `(tactic| walk_at "neq") => `(tactic| first | with_reducible assumption | (with_reducible apply Ne.symm; with_reducible assumption) | (with_reducible apply ne_upd; (with_reducible assumption)) | (with_reducible apply Ne.symm; with_reducible apply ne_upd; with_reducible assumption) | (with_reducible apply ne_fr; (with_reducible assumption); (walk_at "h")) | (with_reducible apply ne_fr'; (with_reducible assumption); (walk_at "h")) | (with_reducible apply ne_kd; (walk_at "h"); (walk_at "h"); (with_unfolding_all (intro z; cases z))))
local macro_rules | `(tactic| walk_at "nin") => `(tactic| first | (with_reducible exact nin0) | with_reducible assumption | (with_reducible apply ninc; (walk_at "neq"); (walk_at "nin")))
local macro_rules | `(tactic| walk_at "none") => `(tactic| first | with_reducible assumption | (with_reducible apply n_upd; (with_reducible assumption)) | (with_reducible apply n_same; (with_reducible assumption); (walk_at "none")) | (with_reducible apply n_kp; (with_reducible assumption); (walk_at "nin"); (walk_at "none")))
local macro_rules | `(tactic| walk_at "mem") => `(tactic| first | (with_reducible exact List.mem_cons_self) | (with_reducible apply List.mem_cons_of_mem; (walk_at "mem")))
local macro_rules | `(tactic| walk_at "am") => `(tactic| first | (with_reducible exact am0) | (with_reducible apply am1; (first | (apply Or.inl; walk_at "mem") | (apply Or.inr; walk_at "none")); (walk_at "am")))
local macro_rules | `(tactic| walk_at "tk") => `(tactic| first | (with_reducible exact TK.refl _) | with_reducible assumption | (with_reducible apply t_tk; (with_reducible assumption); (walk_at "tk")) | (with_reducible apply t_same; (with_reducible assumption); (walk_at "tk")) | (with_reducible apply t_new; (with_reducible assumption); (walk_at "tk")) | (with_reducible apply t_wr; (walk_at "h"); (with_unfolding_all rfl); (walk_at "tk")))
local macro_rules | `(tactic| walk_at "same") => `(tactic| first | (with_reducible exact L2.Same.refl _) | with_reducible assumption | (with_reducible apply s_same; (with_reducible assumption); (walk_at "same")) | (with_reducible apply s_new; (with_reducible assumption); (walk_at "same")) | (with_reducible apply s_wrn; (walk_at "none"); (walk_at "same")))
local macro_rules | `(tactic| walk_at "kp") => `(tactic| first | (with_reducible exact Kp.refl _ _) | with_reducible assumption | (with_reducible apply k_same; (with_reducible assumption); (walk_at "kp")) | (with_reducible apply k_kp; (with_reducible assumption); (walk_at "kp")) | (with_reducible apply k_kpm; (with_reducible assumption); (walk_at "am"); (walk_at "kp")) | (with_reducible apply k_new; (with_reducible assumption); (walk_at "kp")) | (with_reducible apply k_wr; (walk_at "mem"); (walk_at "kp")) | (with_reducible apply k_wrn; (walk_at "none"); (walk_at "kp")))
local macro_rules | `(tactic| walk_at "rp") => `(tactic| first | with_reducible assumption | (with_reducible exact Rp.int) | (with_reducible exact Rp.str) | (with_reducible exact Rp.none) | (with_reducible exact Rp.bool) | (with_reducible apply Rp.tk'; (with_reducible assumption); (walk_at "tk")) | (with_reducible apply Rp.tup; (walk_at "h"); (walk_at "rpl")))
local macro_rules | `(tactic| walk_at "rpl") => `(tactic| first | with_reducible assumption | (with_reducible exact RpL.nil) | (with_reducible apply RpL.tk'; (with_reducible assumption); (walk_at "tk")) | (with_reducible apply RpL.cons; (walk_at "rp"); (walk_at "rpl")))
local macro_rules | `(tactic| walk_at "g") => `(tactic| repeat (first | refine ⟨_, rfl, ?_⟩ | refine ⟨_, _, rfl, rfl, ?_⟩ | refine ⟨rfl, _, rfl, ?_⟩ | refine ⟨_, _, rfl, rfl, (by first | decide | omega), ?_⟩))
/-! ### a ground without letters: beats, falls, rises -/
structure Emp (G : Gd) : Prop where
  mov : G.mov = []
  pil : G.pil = []
  run : G.run = []
  lost : G.lost = []
theorem Emp.forget {G : Gd} (h : Emp G) : G.forget = G := by
  unfold Gd.forget
  rw [h.run]
  obtain ⟨L, X, clock, run, mov, pil, ml, mf, lost⟩ := G
  have := h.run
  dsimp only at this
  subst this
  rfl
theorem Emp.runok {G : Gd} (h : Emp G) : RunOk G := ⟨by rw [h.run]; exact .nil, fun k hk => (by unfold Gd.lets at hk; rw [h.mov, h.pil] at hk; cases hk), by rw [h.run]; decide⟩
/-- the empty tuple of the top -/
def NoneT (K : PySem.W.Frag) (a : Addr) : Prop := ∃ (o : Obj) (n : Nat), K.lookup a = some o ∧ o.cls = .type "tuple" ∧ o.dict = none ∧ o.data = .seq #[] n
theorem NoneT.sq {K : PySem.W.Frag} {a : Addr} (h : NoneT K a) (H : Hp) : SqT K H a [] := by
  obtain ⟨o, n, h1, h2, h3, h4⟩ := h
  exact .inr ⟨o, #[], n, h1, h2, h4, Nat.zero_le _, .nil⟩
/-- dict(()) of that tuple -/
theorem call_dictK0 {X : Cx} {K : PySem.W.Frag} (hK : X.K = K) (hcalm : X.calm = true) : CallR X (.type "dict") (fun xs H Q => ∃ a : Addr, xs = [.ref a] ∧ NoneT K a ∧ ∀ p, H p = none → Q (.ref p) (upd H p (.dK []))) := by
  subst hK
  intro pins s σ H xs us Q I r q
  obtain ⟨a, ex, ⟨o, n, h1, h2, h3, h4⟩, q⟩ := q
  subst ex
  obtain ⟨u, eu, rx⟩ := vals1 r
  subst eu
  cases rx
  have ho : s.heap.get? a = some o := I.kIn _ _ h1
  refine PySem.call_dict_pairs (knd := mixKind X.prog X.w) (kvs := []) (PairArg.tuple a #[] (fun j => 0) []) (I.ok.hd hcalm) ⟨⟨o, n, ho, h2, h3, h4⟩, rfl, fun j k v e => by cases e⟩ ⟨rfl, fun i key v e => by cases e⟩ (Nat.zero_le _) fun h' tk hd' k => ?_
  have hm : (s.heap.objs.size == sysModules) = false := beq_eq_false_iff_ne.mpr (Nat.ne_of_gt I.big)
  exact ⟨.ref s.heap.objs.size, upd H s.heap.objs.size (.dK []), I.laid (t' := tk) (fun b o e => k b o (fun z => nomatch z) e) (Nat.le_refl _) (show ObjOk X.prog X.w _ _ _ (.dK []) from ⟨Nat.zero_le _, hm, [], .nil, hd'⟩), rfl, q _ (I.hok.fresh (Nat.le_refl _))⟩
def spLook0 (K : PySem.W.Frag) (c : Gc) : Sp := fun vs H Q _ => ∃ (g wv : Addr), vs = [.ref g, .ref wv] ∧ NoneT K wv ∧ Q .non H
def Gd.step0 (G : Gd) : Gd := { G with clock := G.clock + 1, X := turn (G.L.rs.zip (upOf G.L)) G.X }
def spStep0 (K : PySem.W.Frag) (c : Gc) : Sp := fun vs H Q _ => ∃ (A : Ga) (G : Gd) (wv : Addr), vs = [.ref A.g, .ref wv] ∧ GroundAt K c H A G ∧ Emp G ∧ NoneT K wv ∧ ∀ H' A' l, Aft K c [] H A G H' A' G.step0 → SqT K H' l [] → Q (.ref l) H'
def fallG (G : Gd) (p : Nat × Nat) : Gd := { G with L := { G.L with fallen := G.L.fallen ++ [p] } }
def riseG (G : Gd) (p : Nat × Nat) : Gd := { G with L := { G.L with fallen := G.L.fallen.filter fun q => decide (q ≠ p) } }
theorem Emp.foot {G G' : Gd} (A : Ga) (h : Emp G) : A.foot G = [A.g, A.l, A.fa, A.p, A.ra, A.ma, A.pa, A.lo] := by
  unfold Ga.foot
  rw [h.mov, h.pil]
  rfl
theorem sub_ra {G G' : Gd} {A : Ga} {ra' a : Addr} {H H' : Hp} (h : Emp G) (h' : Emp G') (n : H' ra' = none) (k : ∀ b o, b ∉ ([] : List Addr) ++ A.foot G → H b = some o → H' b = some o) (ha : a ∈ ({ A with ra := ra' } : Ga).foot G') : a ∈ ([] : List Addr) ++ A.foot G ∨ H a = none := by
  by_cases hb : a ∈ ([] : List Addr) ++ A.foot G
  · exact .inl hb
  · rw [Emp.foot (G' := G) _ h'] at ha
    have e : a = ra' := by
      simp only [List.mem_cons, List.not_mem_nil, or_false] at ha
      rw [Emp.foot (G' := G) _ h, List.nil_append] at hb
      simp only [List.mem_cons, List.not_mem_nil, or_false, not_or] at hb
      obtain ⟨q1, q2, q3, q4, q5, q6, q7, q8⟩ := hb
      rcases ha with z | z | z | z | z | z | z | z
      · exact absurd z q1
      · exact absurd z q2
      · exact absurd z q3
      · exact absurd z q4
      · exact z
      · exact absurd z q6
      · exact absurd z q7
      · exact absurd z q8
    cases e2 : H a with
    | none => exact .inr rfl
    | some o =>
      have := k a o hb e2
      rw [e, n] at this
      cases this
def spFall0G (K : PySem.W.Frag) (c : Gc) : Sp := fun vs H Q _ => ∃ (A : Ga) (G : Gd) (x y : Int) (p : Nat × Nat), vs = [.ref A.g, .int x, .int y] ∧ GroundAt K c H A G ∧ Emp G ∧ pairOf G.L.rs x y = some p ∧ p ∉ G.L.fallen ∧ ∀ H' A', Aft K c [] H A G H' A' (fallG G p) → Q .non H'
def spRise0G (K : PySem.W.Frag) (c : Gc) : Sp := fun vs H Q _ => ∃ (A : Ga) (G : Gd) (x y : Int) (p : Nat × Nat), vs = [.ref A.g, .int x, .int y] ∧ GroundAt K c H A G ∧ pairOf G.L.rs x y = some p ∧ p ∈ G.L.fallen ∧ ∀ H' A', Aft K c [] H A G H' A' (riseG G p) → Q .non H'
section
variable {K : PySem.W.Frag} {c : Gc} {H H' : Hp} {A : Ga} {G : Gd}
theorem GroundAt.setX0 {X' : Mx} (g : GroundAt K c H A G) (kp : Kp [A.p] H H') (t : TK H H') (F : FarsAt K c.F H' A.p A.l G.L.m X') : GroundAt K c H' A { G with X := X' } := by
  obtain ⟨⟨dr, la, hr, _⟩, hfa, _⟩ := id g.R
  obtain ⟨df, gr, hp, _⟩ := id g.F
  obtain ⟨kr, hra, _⟩ := id g.run
  obtain ⟨xs, hlo, _⟩ := id g.lost
  refine ⟨kp _ _ (nin1 (ne_ins g.o hp (by show 9 ≠ 2; decide))) g.o, g.R.kp kp t (nin1 (ne_ins hr hp (by show 3 ≠ 2; decide))) (nin1 (ne_of hfa hp (by intro z; cases z))), F, g.run.kp kp t (nin1 (ne_of hra hp (by intro z; cases z))),
    ⟨kp _ _ (nin1 (ne_of g.mov.d hp (by intro z; cases z))) g.mov.d, fun kv hk => ?_, g.mov.inj, g.mov.nd, g.mov.few⟩,
    ⟨kp _ _ (nin1 (ne_of g.pil.d hp (by intro z; cases z))) g.pil.d, fun kv hk => SqT.tk (g.pil.tp kv hk) t, fun kv hk => ?_, g.pil.inj, g.pil.injd, g.pil.ra, g.pil.nd, g.pil.few, g.pil.sm⟩,
    g.lost.kp kp t (nin1 (ne_of hlo hp (by intro z; cases z))), g.rm, g.rp, g.mp, g.lf, g.rf⟩
  · obtain ⟨dy, e⟩ := g.mov.fr kv hk
    exact (g.mov.fr kv hk).kp kp (nin1 (ne_ins e hp (by show 8 ≠ 2; decide)))
  · obtain ⟨⟨dy, e⟩, kq, e2, _⟩ := g.pil.hp kv hk
    refine (g.pil.hp kv hk).kp kp t (nin1 fun z => ?_) (nin1 (ne_of e2 hp (by intro z; cases z)))
    rw [z] at e
    have q := hp.symm.trans e
    injection q with q
    injection q with q1 q2 q3
    have q4 := congrArg (fun l : List (Str × V) => l.head?.map (·.1)) q3
    have q5 : some ("lanes" : Str) = some ("many" : Str) := q4
    exact absurd q5 (by decide)
theorem GroundAt.setL0 {fs : List (Nat × Nat)} (g : GroundAt K c H A G) (kp : Kp [A.fa] H H') (t : TK H H') (R : RoadsAt K c.R H' A.l A.fa { G.L with fallen := fs }) : GroundAt K c H' A { G with L := { G.L with fallen := fs } } := by
  obtain ⟨⟨dr, la, hr, _⟩, hfa, _⟩ := id g.R
  obtain ⟨df, gr, hp, _⟩ := id g.F
  obtain ⟨kr, hra, _⟩ := id g.run
  obtain ⟨xs, hlo, _⟩ := id g.lost
  refine ⟨kp _ _ (nin1 (ne_of g.o hfa (by intro z; cases z))) g.o, R, g.F.kp kp t (nin1 (ne_of hp hfa (by intro z; cases z))), g.run.kp kp t (nin1 (ne_of hra hfa (by intro z; cases z))),
    ⟨kp _ _ (nin1 (ne_of g.mov.d hfa (by intro z; cases z))) g.mov.d, fun kv hk => ?_, g.mov.inj, g.mov.nd, g.mov.few⟩,
    ⟨kp _ _ (nin1 (ne_of g.pil.d hfa (by intro z; cases z))) g.pil.d, fun kv hk => SqT.tk (g.pil.tp kv hk) t, fun kv hk => ?_, g.pil.inj, g.pil.injd, g.pil.ra, g.pil.nd, g.pil.few, g.pil.sm⟩,
    g.lost.kp kp t (nin1 (ne_of hlo hfa (by intro z; cases z))), g.rm, g.rp, g.mp, g.lf, g.rf⟩
  · obtain ⟨dy, e⟩ := g.mov.fr kv hk
    exact (g.mov.fr kv hk).kp kp (nin1 (ne_of e hfa (by intro z; cases z)))
  · obtain ⟨⟨dy, e⟩, kq, e2, _⟩ := g.pil.hp kv hk
    exact (g.pil.hp kv hk).kp kp t (nin1 (ne_of e hfa (by intro z; cases z))) (nin1 (ne_of e2 hfa (by intro z; cases z)))
theorem mem8z {x : Addr} (h : x ∈ [A.g, A.l, A.fa, A.p, A.ra, A.ma, A.pa, A.lo]) : x ∈ ([] : List Addr) ++ A.foot G := List.mem_append_right _ (List.mem_append_left _ (List.mem_append_left _ (List.mem_append_left _ h)))
end

section
variable {P : Program} {w : World} {K : PySem.W.Frag} {mg : Str → Option Value} {base : Heap} {c : Gc}
theorem scGLook0 : FnScope ["self", "weave", "last", "at", "pair"] ["self", "weave"] (defScope sGLook) := ⟨rfl, rfl, rfl, by decide +kernel, rfl, by decide +kernel, by decide +kernel⟩
theorem ok_look0 {f : Addr} {fd : FuncData} (F : Fun K "look_weave" "Ground.look_weave" sGLook f fd) (B : GB mg) (hWEAVE : ∃ t, mg "WEAVE" = some (.int 20 t)) : FnOk P w K mg base CX0 1 f fd ["self", "weave"] (spLook0 K c) := by
  obtain ⟨tW, mWEAVE⟩ := hWEAVE
  refine F.ok scGLook0 (fun vs H Q E h => ?_) (fun cdv A outer s H vs Q E hr h => ?_)
  · obtain ⟨g, wv, rfl, _⟩ := h
    rfl
  · obtain ⟨g, wv, rfl, nt, k⟩ := h
    refine ⟨_, (pss_cons (ps_if (PW.pt (pw_or (pt_not (pt_val (pe_callB (isiK (K := K) rfl) (by rfl) B.isinstance (by decide +kernel) (pa_cons (pv 1) (pa_cons (pe_bltn (v := .ty "tuple") (by rfl) B.tuple PyProof.Rows.boot_tuple rfl) pa_nil))))) (pw_or1 (pt_cmpR op_gt (pe_callB (lenK (K := K) rfl) (by rfl) B.len PySem.boot_len (pa_cons (pv 1) pa_nil)) (pe_glob (v := .int 20) (by rfl) mWEAVE ⟨_, rfl⟩) (nomark _)))))
       (pss_one ps_never)
       pss_nil)
       (pss_cons (ps_set (i := 2) scGLook0.nd rfl (Or.inl rfl) (pe_un un_neg pe_int))
       (pss_one (ps_for PassesOwn.never rfl (pi_enumT (by rfl) B.enumerate (pa_cons (pv 1) pa_nil)) (pg_tup rfl (pgs_cons (pg_name (i := 3) scGLook0.nd rfl (Or.inl rfl)) (pgs_cons (pg_name (i := 4) scGLook0.nd rfl (Or.inl rfl)) pgs_nil)))
       pss_never)))), ?_⟩
    have hq := nt.sq H
    refine ⟨_, rfl, _, _, _, _, true, rfl, .ty _, ty_tup hq, kit_tuple (.tuple []), true, rfl, iteF ?_⟩
    refine ⟨_, rfl, _, 0, rfl, .inr ⟨_, hq, rfl⟩, _, _, rfl, rfl, _, rfl, iteP (fun c => absurd c (by decide)) (fun _ => ?_)⟩
    refine ⟨1, rfl, ?_⟩
    dsimp only [gName, List.set, L2.start]
    refine ⟨_, rfl, wv, [], rfl, hq, ?_⟩
    refine for_it (walk_enumT (K := K) (a := wv) (xs := [])) (fun i σ H' => H' = H) rfl (fun i σ H' _ e => e ▸ hq) ?_ ?_
    · rintro i x σ H1 H1' hi
      exact absurd hi (Nat.not_lt_zero _)
    · rintro σ H1 rfl
      exact k
theorem scGStep0 : FnScope ["self", "weave", "words", "whole", "number", "letter"] ["self", "weave"] (defScope sGStep) := ⟨rfl, rfl, rfl, by decide +kernel, rfl, by decide +kernel, by decide +kernel⟩
theorem ok_step0 {f : Addr} {fd : FuncData} (F : Fun K "step" "Ground.step" sGStep f fd) (T : TG K c) (B : GB mg) (hJOIN : ∃ t, mg "JOIN" = some (.int 6 t)) (cL : Md P w K mg base 1 c.G "look_weave" ["self", "weave"] (spLook0 K c)) (cT : Md P w K mg base 3 c.F "turn" ["self"] (spTurn K c.F c.R)) (cF : Md P w K mg base 1 c.G "forget" ["self"] (spGForget K c)) : FnOk P w K mg base CX0 4 f fd ["self", "weave"] (spStep0 K c) := by
  obtain ⟨tJ, mJOIN⟩ := hJOIN
  obtain ⟨fL, fdL, GL, ML, bL⟩ := cL
  obtain ⟨fT, fdT, GT, MT, bT⟩ := cT.tk
  obtain ⟨fF, fdF, GF, MF, bF⟩ := cF.tk
  refine F.ok scGStep0 (fun vs H Q E h => ?_) (fun cdv A outer s H vs Q E hr h => ?_)
  · obtain ⟨A, G, wv, rfl, _⟩ := h
    rfl
  · obtain ⟨A, G, wv, rfl, g, e0, nt, k⟩ := h
    have hr3 : Room 3 _ := hr
    have hr1 : Room 1 _ := hr.mono (by decide)
    have hu := hu_of hr
    refine ⟨_, (pss_cons (ps_expr (pe_meth (pv 0) T.cl ML GL hr1 bL .nil pass0 (pa_cons (pv 1) pa_nil)))
       (pss_cons (ps_set (i := 2) scGStep0.nd rfl (Or.inl rfl) (pe_callTy (call_dictK0 (K := K) rfl rfl) (by rfl) B.dict (by decide +kernel) (pa_cons (pv 1) pa_nil)))
       (pss_cons (ps_fldaug (pv 0) pe_int in_add)
       (pss_cons (ps_set (i := 3) scGStep0.nd rfl (Or.inl rfl) (pe_lst pa_nil))
       (pss_cons (ps_for PassesOwn.never rfl (pi_list (pe_callB (sortIK (K := K) rfl) (by rfl) B.sorted (by decide +kernel) (pa_cons (pe_callTy (call_listD rfl) (by rfl) B.list (by decide +kernel) (pa_cons (fldK (K := K) rfl (pv 0) rfl) pa_nil)) pa_nil))) (pg_name (i := 4) scGStep0.nd rfl (Or.inl rfl))
       pss_never)
       (pss_cons (ps_expr (pe_meth0 (fldK (K := K) rfl (pv 0) rfl) T.F.cl MT GT hr3 bT .nil pass0))
       (pss_cons (ps_for PassesOwn.never rfl (pi_list (pe_callB (sortIK (K := K) rfl) (by rfl) B.sorted (by decide +kernel) (pa_cons (pe_callTy (call_listD rfl) (by rfl) B.list (by decide +kernel) (pa_cons (fldK (K := K) rfl (pv 0) rfl) pa_nil)) pa_nil))) (pg_name (i := 5) scGStep0.nd rfl (Or.inl rfl))
       pss_never)
       (pss_cons (ps_expr (pe_meth0 (pv 0) T.cl MF GF hr1 bF .nil pass0))
       (pss_one (ps_ret (pe_callTy (tupOfK (K := K) rfl) (by rfl) B.tuple PyProof.Rows.boot_tuple (pa_cons (pv 3) pa_nil)))))))))))), ?_⟩
    refine ⟨_, rfl, A.g, A.dx, _, rfl, g.o, rfl, _, rfl, A.g, wv, rfl, nt, ?_⟩
    refine ⟨_, rfl, wv, rfl, nt, fun wd n_wd => ?_⟩
    obtain ⟨H2, e_H2, s2, h2⟩ := new_any n_wd
    rw [← e_H2]
    clear e_H2
    have g2 := g.same s2
    refine ⟨_, rfl, A.g, c.G, A.dx, _, _, rfl, g2.o, T.cl, T.clock, rfl, _, _, rfl, rfl, _, _, g2.o, (by show 9 < 1000; decide), ?_⟩
    have go2 := g2.o
    obtain ⟨H3, e_H3, k3, t3, h3⟩ := wr_any go2 rfl
    rw [← e_H3]
    clear e_H3
    have e3 : ((G.clock : Int) + 1) = ((G.clock + 1 : Nat) : Int) := by omega
    rw [e3] at h3
    have g3 : GroundAt K c H3 A { G with clock := G.clock + 1 } := g2.self k3 t3 h3 rfl rfl rfl rfl rfl rfl
    refine ⟨Nat.zero_le _, fun wl n_wl => ?_⟩
    obtain ⟨H4, e_H4, s4, h4⟩ := new_any n_wl
    rw [← e_H4]
    clear e_H4
    have g4 := g3.same s4
    have em : ({ G with clock := G.clock + 1 } : Gd).mov = [] := e0.mov
    have ep : ({ G with clock := G.clock + 1 } : Gd).pil = [] := e0.pil
    refine ⟨_, rfl, A.g, c.G, A.dx, _, _, rfl, g4.o, T.cl, T.moving, rfl, A.ma, _, rfl, .inl g4.mov.d, fun l n_l => ?_⟩
    rw [mvK_keys, em]
    obtain ⟨H5, e_H5, s5, h5⟩ := new_any n_l
    rw [← e_H5]
    clear e_H5
    refine ⟨l, [], rfl, SqL.of h5, fun ns' S' perm rising n_S' => ?_⟩
    have hns : ns' = [] := List.Perm.eq_nil perm
    subst hns
    obtain ⟨H6, e_H6, s6, h6⟩ := new_any n_S'
    rw [← e_H6]
    clear e_H6
    refine ⟨S', rfl, ⟨_, SqL.of h6⟩, ?_⟩
    have s46 := s5.trans s6
    have g6 := g4.same s46
    refine for_it (walk_list (K := K) (a := S') (xs := [])) (fun j σ H' => H' = H6 ∧ ∃ v4 v5 : Option V, σ = [some (.ref A.g), some (.ref wv), some (.ref wd), some (.ref wl), v4, v5]) ⟨rfl, _, _, rfl⟩ (fun j σ H' _ e => e.1 ▸ SqL.of h6) ?_ ?_
    · rintro j x σ H7 H7' hj
      exact absurd hj (Nat.not_lt_zero _)
    rintro σ H7 ⟨rfl, v4, v5, rfl⟩
    obtain ⟨df, gr, hp, _⟩ := id g6.F
    refine ⟨_, rfl, A.g, c.G, A.dx, _, _, rfl, g6.o, T.cl, T.known, rfl, A.p, df, _, rfl, hp, rfl, A.p, A.l, A.fa, _, _, rfl, g6.F, g6.R, fun H8 k8 F8 t8 => ?_⟩
    have g8 := g6.setX0 k8 t8 F8
    refine ⟨_, rfl, A.g, c.G, A.dx, _, _, rfl, g8.o, T.cl, T.piles, rfl, A.pa, _, rfl, .inl g8.pil.d, fun l9 n_l9 => ?_⟩
    have ep8 : ({ { G with clock := G.clock + 1 } with X := turn (({ G with clock := G.clock + 1 } : Gd).L.rs.zip (upOf ({ G with clock := G.clock + 1 } : Gd).L)) ({ G with clock := G.clock + 1 } : Gd).X } : Gd).pil = [] := e0.pil
    rw [plK_keys, ep8]
    obtain ⟨H9, e_H9, s9, h9⟩ := new_any n_l9
    rw [← e_H9]
    clear e_H9
    refine ⟨l9, [], rfl, SqL.of h9, fun ns' S' perm rising n_S' => ?_⟩
    have hns : ns' = [] := List.Perm.eq_nil perm
    subst hns
    obtain ⟨H10, e_H10, s10, h10⟩ := new_any n_S'
    rw [← e_H10]
    clear e_H10
    refine ⟨S', rfl, ⟨_, SqL.of h10⟩, ?_⟩
    have s810 := s9.trans s10
    have g10 := g8.same s810
    refine for_it (walk_list (K := K) (a := S') (xs := [])) (fun j σ H' => H' = H10 ∧ ∃ v4 v5 : Option V, σ = [some (.ref A.g), some (.ref wv), some (.ref wd), some (.ref wl), v4, v5]) ⟨rfl, _, _, rfl⟩ (fun j σ H' _ e => e.1 ▸ SqL.of h10) ?_ ?_
    · rintro j x σ H7 H7' hj
      exact absurd hj (Nat.not_lt_zero _)
    rintro σ H7 ⟨rfl, v4, v5, rfl⟩
    have e10 : Emp ({ { G with clock := G.clock + 1 } with X := turn (({ G with clock := G.clock + 1 } : Gd).L.rs.zip (upOf ({ G with clock := G.clock + 1 } : Gd).L)) ({ G with clock := G.clock + 1 } : Gd).X } : Gd) := ⟨e0.mov, e0.pil, e0.run, e0.lost⟩
    refine ⟨_, rfl, A.g, A.dx, _, rfl, g10.o, rfl, A, _, rfl, g10, e10.runok, fun H11 ra' k11 n_ra g11 t11 => ?_⟩
    rw [e10.forget] at g11
    have nwlg : wl ≠ A.g := (ne_of_none g3.o n_wl).symm
    have nwlp : wl ≠ A.p := (ne_of_none (g3.F.choose_spec.choose_spec.1) n_wl).symm
    have hwl := k11 _ _ (nin1 nwlg) (s810 _ _ (k8 _ _ (nin1 nwlp) (s46 _ _ h4)))
    refine ⟨_, rfl, wl, [], rfl, .inl ⟨SqL.of hwl, fun t n_t => ?_⟩⟩
    obtain ⟨H12, e_H12, s12, h12⟩ := new_any n_t
    rw [← e_H12]
    clear e_H12
    refine k H12 { A with ra := ra' } t ⟨g11.same s12, fun b o hb e => ?_, rfl, fun a ha => ?_⟩ (SqT.of h12)
    · have nbg : b ≠ A.g := fun z => hb (z ▸ mem8z (by simp))
      have nbp : b ≠ A.p := fun z => hb (z ▸ mem8z (by simp))
      exact s12 _ _ (k11 _ _ (nin1 nbg) (s810 _ _ (k8 _ _ (nin1 nbp) (s46 _ _ (s4 _ _ (k3 _ _ (nin1 nbg) (s2 _ _ e)))))))
    · refine sub_ra e0 (G' := G.step0) ⟨e0.mov, e0.pil, e0.run, e0.lost⟩ n_ra (fun b o hb e => ?_) ha
      have nbg : b ≠ A.g := fun z => hb (z ▸ mem8z (by simp))
      have nbp : b ≠ A.p := fun z => hb (z ▸ mem8z (by simp))
      exact s810 _ _ (k8 _ _ (nin1 nbp) (s46 _ _ (s4 _ _ (k3 _ _ (nin1 nbg) (s2 _ _ e)))))
theorem scGFall0 : FnScope ["self", "a", "b", "number", "frame"] ["self", "a", "b"] (defScope sGFall) := ⟨rfl, rfl, rfl, by decide +kernel, rfl, by decide +kernel, by decide +kernel⟩
theorem ok_fall0 {f : Addr} {fd : FuncData} (F : Fun K "fall" "Ground.fall" sGFall f fd) (T : TG K c) (B : GB mg) (cFl : Md P w K mg base 4 c.R "fall" ["self", "a", "b"] (spFall0 K c.R)) (cF : Md P w K mg base 1 c.G "forget" ["self"] (spGForget K c)) : FnOk P w K mg base CX0 5 f fd ["self", "a", "b"] (spFall0G K c) := by
  obtain ⟨fFl, fdFl, GFl, MFl, bFl⟩ := cFl.tk
  obtain ⟨fF, fdF, GF, MF, bF⟩ := cF.tk
  refine F.ok scGFall0 (fun vs H Q E h => ?_) (fun cdv A outer s H vs Q E hr h => ?_)
  · obtain ⟨A, G, x, y, p, rfl, _⟩ := h
    rfl
  · obtain ⟨A, G, x, y, p, rfl, g, e0, hp, hnf, k⟩ := h
    have hr4 : Room 4 _ := hr
    have hr1 : Room 1 _ := hr.mono (by decide)
    have hu := hu_of hr
    refine ⟨_, (pss_cons (ps_expr (pe_meth (fldK (K := K) rfl (pv 0) rfl) T.R.cl MFl GFl hr4 bFl .nil pass0 (pa_cons (pv 1) (pa_cons (pv 2) pa_nil))))
       (pss_cons (ps_for PassesOwn.never rfl (pi_list (pe_callB (sortIK (K := K) rfl) (by rfl) B.sorted (by decide +kernel) (pa_cons (pe_callTy (call_listD rfl) (by rfl) B.list (by decide +kernel) (pa_cons (fldK (K := K) rfl (pv 0) rfl) pa_nil)) pa_nil))) (pg_name (i := 3) scGFall0.nd rfl (Or.inl rfl))
       pss_never)
       (pss_one (ps_expr (pe_meth0 (pv 0) T.cl MF GF hr1 bF .nil pass0))))), ?_⟩
    obtain ⟨⟨dr, la, hr', _⟩, _⟩ := id g.R
    refine ⟨_, rfl, A.g, c.G, A.dx, _, _, rfl, g.o, T.cl, T.lanes, rfl, A.l, dr, _, rfl, hr', rfl, _, rfl, _, rfl, A.l, A.fa, G.L, x, y, _, rfl, g.R, hp, hnf, fun H1 k1 R1 t1 => ?_⟩
    have g1 : GroundAt K c H1 A (fallG G p) := g.setL0 k1 t1 R1
    have e1 : Emp (fallG G p) := ⟨e0.mov, e0.pil, e0.run, e0.lost⟩
    refine ⟨_, rfl, A.g, c.G, A.dx, _, _, rfl, g1.o, T.cl, T.moving, rfl, A.ma, _, rfl, .inl g1.mov.d, fun l n_l => ?_⟩
    rw [mvK_keys, e1.mov]
    obtain ⟨H2, e_H2, s2, h2⟩ := new_any n_l
    rw [← e_H2]
    clear e_H2
    refine ⟨l, [], rfl, SqL.of h2, fun ns' S' perm rising n_S' => ?_⟩
    have hns : ns' = [] := List.Perm.eq_nil perm
    subst hns
    obtain ⟨H3, e_H3, s3, h3⟩ := new_any n_S'
    rw [← e_H3]
    clear e_H3
    refine ⟨S', rfl, ⟨_, SqL.of h3⟩, ?_⟩
    have s13 := s2.trans s3
    have g3 := g1.same s13
    refine for_it (walk_list (K := K) (a := S') (xs := [])) (fun j σ H' => H' = H3 ∧ ∃ v3 v4 : Option V, σ = [some (.ref A.g), some (.int x), some (.int y), v3, v4]) ⟨rfl, _, _, rfl⟩ (fun j σ H' _ e => e.1 ▸ SqL.of h3) ?_ ?_
    · rintro j x σ H7 H7' hj
      exact absurd hj (Nat.not_lt_zero _)
    rintro σ H7 ⟨rfl, v4, v5, rfl⟩
    refine ⟨_, rfl, A.g, A.dx, _, rfl, g3.o, rfl, A, _, rfl, g3, e1.runok, fun H11 ra' k11 n_ra g11 t11 => ?_⟩
    rw [e1.forget] at g11
    refine k H11 { A with ra := ra' } ⟨g11, fun b o hb e => ?_, rfl, fun a ha => ?_⟩
    · have nbg : b ≠ A.g := fun z => hb (z ▸ mem8z (by simp))
      have nbf : b ≠ A.fa := fun z => hb (z ▸ mem8z (by simp))
      exact k11 _ _ (nin1 nbg) (s13 _ _ (k1 _ _ (nin1 nbf) e))
    · refine sub_ra e0 e1 n_ra (fun b o hb e => ?_) ha
      have nbf : b ≠ A.fa := fun z => hb (z ▸ mem8z (by simp))
      exact s13 _ _ (k1 _ _ (nin1 nbf) e)
theorem scGRise0 : FnScope ["self", "a", "b"] ["self", "a", "b"] (defScope sGRise) := ⟨rfl, rfl, rfl, by decide +kernel, rfl, by decide +kernel, by decide +kernel⟩
theorem ok_rise0 {f : Addr} {fd : FuncData} (F : Fun K "rise" "Ground.rise" sGRise f fd) (T : TG K c) (cRi : Md P w K mg base 4 c.R "rise" ["self", "a", "b"] (spRise0 K c.R)) : FnOk P w K mg base CX0 5 f fd ["self", "a", "b"] (spRise0G K c) := by
  obtain ⟨fRi, fdRi, GRi, MRi, bRi⟩ := cRi.tk
  refine F.ok scGRise0 (fun vs H Q E h => ?_) (fun cdv A outer s H vs Q E hr h => ?_)
  · obtain ⟨A, G, x, y, p, rfl, _⟩ := h
    rfl
  · obtain ⟨A, G, x, y, p, rfl, g, hp, hf, k⟩ := h
    have hr4 : Room 4 _ := hr
    refine ⟨_, (pss_one (ps_expr (pe_meth (fldK (K := K) rfl (pv 0) rfl) T.R.cl MRi GRi hr4 bRi .nil pass0 (pa_cons (pv 1) (pa_cons (pv 2) pa_nil))))), ?_⟩
    obtain ⟨⟨dr, la, hr', _⟩, _⟩ := id g.R
    refine ⟨_, rfl, A.g, c.G, A.dx, _, _, rfl, g.o, T.cl, T.lanes, rfl, A.l, dr, _, rfl, hr', rfl, _, rfl, _, rfl, A.l, A.fa, G.L, x, y, _, rfl, g.R, hp, hf, fun H1 k1 R1 t1 => ?_⟩
    exact k H1 A ⟨g.setL0 k1 t1 R1, fun b o hb e => k1 _ _ (nin1 fun z => hb (z ▸ mem8z (by simp))) e, rfl, fun a ha => .inl ha⟩
end
end Wn

set_option maxHeartbeats 800000
namespace Wn
open PySem L2 PyProof.Rows
set_option pp.maxSteps 700
set_option pp.deepTerms false
local macro_rules | `(tactic| walk_at "h") => `(tactic| first | with_reducible assumption | (with_reducible exact upd_same) | (with_reducible apply g_upd; (walk_at "neq"); (walk_at "h")) | (with_reducible apply g_same; (with_reducible assumption); (walk_at "h")) | (with_reducible apply g_kp; (with_reducible assumption); (walk_at "nin"); (walk_at "h")) | (with_reducible apply g_tk; (with_reducible assumption); (walk_at "h")))
local macro_rules | `(tactic| walk_at "neq") => `(tactic| first | with_reducible assumption | (with_reducible apply Ne.symm; with_reducible assumption) | (with_reducible apply ne_upd; (with_reducible assumption)) | (with_reducible apply Ne.symm; with_reducible apply ne_upd; with_reducible assumption) | (with_reducible apply ne_fr; (with_reducible assumption); (walk_at "h")) | (with_reducible apply ne_fr'; (with_reducible assumption); (walk_at "h")) | (with_reducible apply ne_kd; (walk_at "h"); (walk_at "h"); (with_unfolding_all (intro z; cases z))))
local macro_rules | `(tactic| walk_at "nin") => `(tactic| first | (with_reducible exact nin0) | with_reducible assumption | (with_reducible apply ninc; (walk_at "neq"); (walk_at "nin")))
local macro_rules | `(tactic| walk_at "none") => `(tactic| first | with_reducible assumption | (with_reducible apply n_upd; (with_reducible assumption)) | (with_reducible apply n_same; (with_reducible assumption); (walk_at "none")) | (with_reducible apply n_kp; (with_reducible assumption); (walk_at "nin"); (walk_at "none")))
local macro_rules | `(tactic| walk_at "mem") => `(tactic| first | (with_reducible exact List.mem_cons_self) | (with_reducible apply List.mem_cons_of_mem; (walk_at "mem")))
local macro_rules | `(tactic| walk_at "am") => `(tactic| first | (with_reducible exact am0) | (with_reducible apply am1; (first | (apply Or.inl; walk_at "mem") | (apply Or.inr; walk_at "none")); (walk_at "am")))
local macro_rules | `(tactic| walk_at "tk") => `(tactic| first | (with_reducible exact TK.refl _) | with_reducible assumption | (with_reducible apply t_tk; (with_reducible assumption); (walk_at "tk")) | (with_reducible apply t_same; (with_reducible assumption); (walk_at "tk")) | (with_reducible apply t_new; (with_reducible assumption); (walk_at "tk")) | (with_reducible apply t_wr; (walk_at "h"); (with_unfolding_all rfl); (walk_at "tk")))
local macro_rules | `(tactic| walk_at "same") => `(tactic| first | (with_reducible exact L2.Same.refl _) | with_reducible assumption | (with_reducible apply s_same; (with_reducible assumption); (walk_at "same")) | (with_reducible apply s_new; (with_reducible assumption); (walk_at "same")) | (with_reducible apply s_wrn; (walk_at "none"); (walk_at "same")))
local macro_rules | `(tactic| walk_at "kp") => `(tactic| first | (with_reducible exact Kp.refl _ _) | with_reducible assumption | (with_reducible apply k_same; (with_reducible assumption); (walk_at "kp")) | (with_reducible apply k_kp; (with_reducible assumption); (walk_at "kp")) | (with_reducible apply k_kpm; (with_reducible assumption); (walk_at "am"); (walk_at "kp")) | (with_reducible apply k_new; (with_reducible assumption); (walk_at "kp")) | (with_reducible apply k_wr; (walk_at "mem"); (walk_at "kp")) | (with_reducible apply k_wrn; (walk_at "none"); (walk_at "kp")))
local macro_rules | `(tactic| walk_at "rp") => `(tactic| first | with_reducible assumption | (with_reducible exact Rp.int) | (with_reducible exact Rp.str) | (with_reducible exact Rp.none) | (with_reducible exact Rp.bool) | (with_reducible apply Rp.tk'; (with_reducible assumption); (walk_at "tk")) | (with_reducible apply Rp.tup; (walk_at "h"); (walk_at "rpl")))
local macro_rules | `(tactic| walk_at "rpl") => `(tactic| first | with_reducible assumption | (with_reducible exact RpL.nil) | (with_reducible apply RpL.tk'; (with_reducible assumption); (walk_at "tk")) | (with_reducible apply RpL.cons; (walk_at "rp"); (walk_at "rpl")))
local macro_rules | `(tactic| walk_at "g") => `(tactic| repeat (first | refine ⟨_, rfl, ?_⟩ | refine ⟨_, _, rfl, rfl, ?_⟩ | refine ⟨rfl, _, rfl, ?_⟩ | refine ⟨_, _, rfl, rfl, (by first | decide | omega), ?_⟩))
abbrev sWOpen : Stmt := (inClass (top 137) 1)
abbrev sWDone : Stmt := (inClass (top 137) 2)
abbrev sWBeat : Stmt := (inClass (top 137) 25)
abbrev sWFall : Stmt := (inClass (top 137) 17)
abbrev sWRise : Stmt := (inClass (top 137) 18)
abbrev sWStep : Stmt := (inClass (top 137) 19)
abbrev sNNow : Stmt := (inClass (top 135) 1)
abbrev sNTell : Stmt := (inClass (top 135) 4)
section
variable {K : PySem.W.Frag} {c : Gc} {u : Wc} {H H' : Hp} {a : Wa} {A A' : Ga} {G G' : Gd} {s s' t : Nat}
theorem W0At.same (h : W0At K c u H a A G s t) (q : Same H H') : W0At K c u H' a A G s t := ⟨q _ _ h.w, q _ _ h.n, q _ _ h.kr, q _ _ h.kg, q _ _ h.lr, q _ _ h.bo, q _ _ h.br, h.g.same q, h.d⟩
theorem W0At.wn (h : W0At K c u H a A G s t) : a.w ≠ a.n ∧ a.kr ≠ a.w ∧ a.kg ≠ a.w ∧ a.lr ≠ a.w ∧ a.bo ≠ a.w ∧ a.br ≠ a.w ∧ a.kr ≠ a.n ∧ a.kg ≠ a.n ∧ a.lr ≠ a.n ∧ a.bo ≠ a.n ∧ a.br ≠ a.n :=
  ⟨ne_ins h.w h.n (by show 4 ≠ 8; decide), ne_of h.kr h.w (by intro z; cases z), ne_of h.kg h.w (by intro z; cases z), ne_of h.lr h.w (by intro z; cases z), ne_of h.bo h.w (by intro z; cases z), ne_of h.br h.w (by intro z; cases z), ne_of h.kr h.n (by intro z; cases z), ne_of h.kg h.n (by intro z; cases z), ne_of h.lr h.n (by intro z; cases z), ne_of h.bo h.n (by intro z; cases z), ne_of h.br h.n (by intro z; cases z)⟩
theorem W0At.setW (h : W0At K c u H a A G s t) (k : Kp [a.w] H H') (q : TK H H') (e : H' a.w = some (.ins u.W a.wd (wF a s'))) : W0At K c u H' a A G s' t := by
  obtain ⟨n1, n2, n3, n4, n5, n6, _⟩ := h.wn
  exact ⟨e, k _ _ (nin1 n1.symm) h.n, k _ _ (nin1 n2) h.kr, k _ _ (nin1 n3) h.kg, k _ _ (nin1 n4) h.lr, k _ _ (nin1 n5) h.bo, k _ _ (nin1 n6) h.br, h.g.kp k q (fun x hx => nin1 fun z => h.d a.w (by simp) (z ▸ hx)), h.d⟩
theorem W0At.setN {t' : Nat} (h : W0At K c u H a A G s t) (k : Kp [a.n] H H') (q : TK H H') (e : H' a.n = some (.ins u.N a.nd (nF a A t'))) : W0At K c u H' a A G s t' := by
  obtain ⟨n1, _, _, _, _, _, n2, n3, n4, n5, n6⟩ := h.wn
  exact ⟨k _ _ (nin1 n1) h.w, e, k _ _ (nin1 n2) h.kr, k _ _ (nin1 n3) h.kg, k _ _ (nin1 n4) h.lr, k _ _ (nin1 n5) h.bo, k _ _ (nin1 n6) h.br, h.g.kp k q (fun x hx => nin1 fun z => h.d a.n (by simp) (z ▸ hx)), h.d⟩
/-- the ground did a deed -/
theorem W0At.aft (h : W0At K c u H a A G s t) (q : Aft K c [] H A G H' A' G') : W0At K c u H' a A' G' s t := by
  have n : ∀ x ∈ [a.w, a.n, a.kr, a.kg, a.lr, a.bo, a.br], x ∉ ([] : List Addr) ++ A.foot G := fun x hx z => h.d x hx (by rw [List.nil_append] at z; exact z)
  have ex : ∀ x ∈ [a.w, a.n, a.kr, a.kg, a.lr, a.bo, a.br], H x ≠ none := fun x hx e => by
    simp only [List.mem_cons, List.not_mem_nil, or_false] at hx
    rcases hx with rfl | rfl | rfl | rfl | rfl | rfl | rfl
    · rw [h.w] at e; cases e
    · rw [h.n] at e; cases e
    · rw [h.kr] at e; cases e
    · rw [h.kg] at e; cases e
    · rw [h.lr] at e; cases e
    · rw [h.bo] at e; cases e
    · rw [h.br] at e; cases e
  have en : nF a A' t = nF a A t := by unfold nF; rw [q.g]
  refine ⟨q.kp _ _ (n _ (by simp)) h.w, ?_, q.kp _ _ (n _ (by simp)) h.kr, q.kp _ _ (n _ (by simp)) h.kg, q.kp _ _ (n _ (by simp)) h.lr, q.kp _ _ (n _ (by simp)) h.bo, q.kp _ _ (n _ (by simp)) h.br, q.at', fun x hx z => ?_⟩
  · rw [en]
    exact q.kp _ _ (n _ (by simp)) h.n
  · rcases q.sub x z with y | y
    · exact n x hx y
    · exact ex x hx y
end
/-- behind a deed of a world -/
structure WAf (K : PySem.W.Frag) (c : Gc) (u : Wc) (H : Hp) (a : Wa) (A : Ga) (G : Gd) (H' : Hp) (A' : Ga) (G' : Gd) (s' : Nat) : Prop where
  at' : W0At K c u H' a A' G' s' 0
  kp : ∀ b o, b ∉ [a.w, a.n] → b ∉ A.foot G → H b = some o → H' b = some o
  sub : ∀ x ∈ A'.foot G', x ∈ A.foot G ∨ H x = none
def spWOpen (K : PySem.W.Frag) (c : Gc) (u : Wc) : Sp := fun vs H Q _ => ∃ (a : Wa) (A : Ga) (G : Gd) (s t : Nat), vs = [.ref a.w] ∧ W0At K c u H a A G s t ∧ s < 300 ∧ Q .non H
def spWDone (K : PySem.W.Frag) (c : Gc) (u : Wc) : Sp := fun vs H Q _ => ∃ (a : Wa) (A : Ga) (G : Gd) (s t : Nat) (v : V), vs = [.ref a.w, v] ∧ W0At K c u H a A G s t ∧ ∀ H', Kp [a.w] H H' → W0At K c u H' a A G (s + 1) t → Q v H'
def spNNow (K : PySem.W.Frag) (c : Gc) (u : Wc) : Sp := fun vs H Q _ => ∃ (a : Wa) (A : Ga) (G : Gd) (s t : Nat), vs = [.ref a.n] ∧ W0At K c u H a A G s t ∧ Q (.int G.clock) H
def spWBeat (K : PySem.W.Frag) (c : Gc) (u : Wc) : Sp := fun vs H Q _ => ∃ (a : Wa) (A : Ga) (G : Gd) (s t : Nat), vs = [.ref a.w] ∧ W0At K c u H a A G s t ∧ Q (.int G.clock) H
def spNTell (K : PySem.W.Frag) (c : Gc) (u : Wc) : Sp := fun vs H Q _ => ∃ (a : Wa) (A : Ga) (G : Gd) (s : Nat), vs = [.ref a.n] ∧ W0At K c u H a A G s 0 ∧ Emp G ∧ ∀ H', Kp [a.n] H H' → W0At K c u H' a A G s 0 → Q .non H'
def spWFall (K : PySem.W.Frag) (c : Gc) (u : Wc) : Sp := fun vs H Q _ => ∃ (a : Wa) (A : Ga) (G : Gd) (s : Nat) (x y : Int) (p : Nat × Nat), vs = [.ref a.w, .int x, .int y] ∧ W0At K c u H a A G s 0 ∧ Emp G ∧ pairOf G.L.rs x y = some p ∧ p ∉ G.L.fallen ∧ s < 300 ∧ ∀ H' A', WAf K c u H a A G H' A' (fallG G p) (s + 1) → Q .non H'
def spWRise (K : PySem.W.Frag) (c : Gc) (u : Wc) : Sp := fun vs H Q _ => ∃ (a : Wa) (A : Ga) (G : Gd) (s : Nat) (x y : Int) (p : Nat × Nat), vs = [.ref a.w, .int x, .int y] ∧ W0At K c u H a A G s 0 ∧ pairOf G.L.rs x y = some p ∧ p ∈ G.L.fallen ∧ s < 300 ∧ ∀ H' A', WAf K c u H a A G H' A' (riseG G p) (s + 1) → Q .non H'
def spWStep (K : PySem.W.Frag) (c : Gc) (u : Wc) : Sp := fun vs H Q _ => ∃ (a : Wa) (A : Ga) (G : Gd) (s : Nat) (wv : Addr), vs = [.ref a.w, .ref wv] ∧ NoneT K wv ∧ W0At K c u H a A G s 0 ∧ Emp G ∧ G.clock < 3000 ∧ ∀ H' A', WAf K c u H a A G H' A' G.step0 s → Q .non H'

section
variable {P : Program} {w : World} {K : PySem.W.Frag} {mg : Str → Option Value} {base : Heap} {c : Gc} {u : Wc} {kws : List (Str × V)}
theorem FunD.ok0 {x qual : Str} {params : Arguments} {body : List Stmt} {scope : Scope} {dvs : List V} {kws : List (Str × V)} {f : Addr} {fd : FuncData} {N ps : List Str} {k : Nat} {sp : Sp} (F : FunD K x qual params body scope dvs kws f fd) (S : FnScope N ps scope) (len : ∀ vs H Q E, sp vs H Q E → vs.length = ps.length)
    (hbody : ∀ (cdv : Value) (A : Around) (outer : List Env) (s : Shared) (H : Hp) (vs : List V) (Q : VK) (E : XK), Room k (A.deeper (envOfC qual scope s.heap.objs.size f cdv)) → sp vs H Q E →
      ∃ t, PSs (cxOf CX0 P w K mg base N qual scope f cdv A outer s H E).nox body t ∧ t { nx := fun _ H' => Q .non H', rt := Q } (start N vs) H) : FnOk P w K mg base CX0 (k + 1) f fd ps sp :=
  F.ok (CX := CX0) S len fun cdv A outer s H vs Q E hr h => let ⟨t, h1, q⟩ := hbody cdv A outer s H vs Q E hr h; ⟨t, h1.nox, q⟩
theorem scWOpen : FnScope ["self"] ["self"] (defScope sWOpen) := ⟨rfl, rfl, rfl, by decide +kernel, rfl, by decide +kernel, by decide +kernel⟩
theorem ok_wopen {f : Addr} {fd : FuncData} (F : Fun K "look_open" "World.look_open" sWOpen f fd) (T : TWd K c u) (hD : ∃ t, mg "DEEDS_bounds" = some (.int 300 t)) : FnOk P w K mg base CX0 1 f fd ["self"] (spWOpen K c u) := by
  obtain ⟨tD, mDEEDS⟩ := hD
  refine F.ok scWOpen (fun vs H Q E h => ?_) (fun cdv A outer s H vs Q E hr h => ?_)
  · obtain ⟨a, A, G, s, t, rfl, _⟩ := h
    rfl
  · obtain ⟨a, A, G, s, t, rfl, W, hs, k⟩ := h
    refine ⟨_, (pss_cons (ps_if (pt_val (fldK (K := K) rfl (pv 0) rfl))
       (pss_one ps_never)
       pss_nil)
       (pss_one (ps_if (pt_cmpR op_eq (fldK (K := K) rfl (pv 0) rfl) (pe_glob (v := .int 300) (by rfl) mDEEDS ⟨_, rfl⟩) (nomark _))
       (pss_one ps_never)
       pss_nil))), ?_⟩
    refine ⟨_, rfl, a.w, u.W, a.wd, _, _, rfl, W.w, T.cl, T.telling, rfl, false, rfl, iteF ?_⟩
    exact ⟨_, rfl, a.w, u.W, a.wd, _, _, rfl, W.w, T.cl, T.stood, rfl, rfl, _, rfl, iteI (fun z => absurd z (by omega)) fun _ => k⟩
theorem scWDone : FnScope ["self", "found"] ["self", "found"] (defScope sWDone) := ⟨rfl, rfl, rfl, by decide +kernel, rfl, by decide +kernel, by decide +kernel⟩
theorem ok_wdone {f : Addr} {fd : FuncData} (F : Fun K "done" "World.done" sWDone f fd) (T : TWd K c u) : FnOk P w K mg base CX0 1 f fd ["self", "found"] (spWDone K c u) := by
  refine F.ok scWDone (fun vs H Q E h => ?_) (fun cdv A outer s H vs Q E hr h => ?_)
  · obtain ⟨a, A, G, s, t, v, rfl, _⟩ := h
    rfl
  · obtain ⟨a, A, G, s, t, v, rfl, W, k⟩ := h
    refine ⟨_, (pss_cons (ps_fldaug (pv 0) pe_int in_add)
       (pss_one (ps_ret (pv 1)))), ?_⟩
    have w0 := W.w
    refine ⟨_, rfl, a.w, u.W, a.wd, _, _, rfl, w0, T.cl, T.stood, rfl, _, _, rfl, rfl, _, _, w0, (by show 4 < 1000; decide), ?_⟩
    obtain ⟨H1, e_H1, k1, t1, h1⟩ := wr_any w0 rfl
    rw [← e_H1]
    clear e_H1
    rw [show ((s : Int) + 1) = ((s + 1 : Nat) : Int) by omega] at h1
    exact ⟨_, rfl, k H1 k1 (W.setW k1 t1 h1)⟩
theorem scNNow : FnScope ["self"] ["self"] (defScope sNNow) := ⟨rfl, rfl, rfl, by decide +kernel, rfl, by decide +kernel, by decide +kernel⟩
theorem ok_nnow {f : Addr} {fd : FuncData} (F : Fun K "now" "Wraps.now" sNNow f fd) (T : TWd K c u) (TGx : TG K c) (cB : Md P w K mg base 1 c.G "beat" ["self"] (spGBeat K c)) : FnOk P w K mg base CX0 2 f fd ["self"] (spNNow K c u) := by
  obtain ⟨fB, fdB, GB, MB, bB⟩ := cB
  refine F.ok scNNow (fun vs H Q E h => ?_) (fun cdv A outer s H vs Q E hr h => ?_)
  · obtain ⟨a, A, G, s, t, rfl, _⟩ := h
    rfl
  · obtain ⟨a, A, G, s, t, rfl, W, k⟩ := h
    have hr1 : Room 1 _ := hr
    refine ⟨_, (pss_one (ps_ret (pe_meth0 (fldK (K := K) rfl (pv 0) rfl) TGx.cl MB GB hr1 bB .nil pass0))), ?_⟩
    exact ⟨_, rfl, a.n, u.N, a.nd, _, _, rfl, W.n, T.cn, T.below, rfl, A.g, A.dx, _, rfl, W.g.o, rfl, A, G, rfl, W.g, k⟩
theorem scWBeat : FnScope ["self"] ["self"] (defScope sWBeat) := ⟨rfl, rfl, rfl, by decide +kernel, rfl, by decide +kernel, by decide +kernel⟩
theorem ok_wbeat {f : Addr} {fd : FuncData} (F : Fun K "beat" "World.beat" sWBeat f fd) (T : TWd K c u) (cN : Md P w K mg base 2 u.N "now" ["self"] (spNNow K c u)) : FnOk P w K mg base CX0 3 f fd ["self"] (spWBeat K c u) := by
  obtain ⟨fN, fdN, GN, MN, bN⟩ := cN
  refine F.ok scWBeat (fun vs H Q E h => ?_) (fun cdv A outer s H vs Q E hr h => ?_)
  · obtain ⟨a, A, G, s, t, rfl, _⟩ := h
    rfl
  · obtain ⟨a, A, G, s, t, rfl, W, k⟩ := h
    have hr2 : Room 2 _ := hr
    refine ⟨_, (pss_one (ps_ret (pe_meth0 (fldK (K := K) rfl (pv 0) rfl) T.cn MN GN hr2 bN .nil pass0))), ?_⟩
    exact ⟨_, rfl, a.w, u.W, a.wd, _, _, rfl, W.w, T.cl, T.net, rfl, a.n, a.nd, _, rfl, W.n, rfl, a, A, G, s, t, rfl, W, k⟩
theorem scNTell : FnScope ["self", "drops", "beat", "why", "letter"] ["self"] (defScope sNTell) := ⟨rfl, rfl, rfl, by decide +kernel, rfl, by decide +kernel, by decide +kernel⟩
theorem ok_ntell {f : Addr} {fd : FuncData} (F : Fun K "tell_drops" "Wraps.tell_drops" sNTell f fd) (T : TWd K c u) (TGx : TG K c) (B : GB mg) (cDr : Md P w K mg base 1 c.G "drops" ["self"] (spGDrops K c)) : FnOk P w K mg base CX0 2 f fd ["self"] (spNTell K c u) := by
  obtain ⟨fDr, fdDr, GDr, MDr, bDr⟩ := cDr
  refine F.ok scNTell (fun vs H Q E h => ?_) (fun cdv A outer s H vs Q E hr h => ?_)
  · obtain ⟨a, A, G, s, rfl, _⟩ := h
    rfl
  · obtain ⟨a, A, G, s, rfl, W, e0, k⟩ := h
    have hr1 : Room 1 _ := hr
    refine ⟨_, (pss_cons (ps_set (i := 1) scNTell.nd rfl (Or.inl rfl) (pe_meth0 (fldK (K := K) rfl (pv 0) rfl) TGx.cl MDr GDr hr1 bDr .nil pass0))
       (pss_cons (ps_for PassesOwn.never rfl (pi_tup (pe_slice (slA (K := K) rfl) (pv 1) (po_some (fldK (K := K) rfl (pv 0) rfl)) po_none)) (pg_tup rfl (pgs_cons (pg_name (i := 2) scNTell.nd rfl (Or.inl rfl)) (pgs_cons (pg_name (i := 3) scNTell.nd rfl (Or.inl rfl)) (pgs_cons (pg_name (i := 4) scNTell.nd rfl (Or.inl rfl)) pgs_nil))))
       pss_never)
       (pss_one (ps_fld (pv 0) (pe_callB (lenK (K := K) rfl) (by rfl) B.len PySem.boot_len (pa_cons (pv 1) pa_nil)) rfl)))), ?_⟩
    refine ⟨_, rfl, a.n, u.N, a.nd, _, _, rfl, W.n, T.cn, T.below, rfl, A.g, A.dx, _, rfl, W.g.o, rfl, A, G, rfl, W.g, fun H1 v s1 r1 => ?_⟩
    rw [e0.lost] at r1
    obtain ⟨d, ys, rfl, hd, rfl⟩ : ∃ d ys, v = .ref d ∧ SqT K H1 d ys ∧ ys = [] := by
      unfold Rp at r1
      obtain ⟨d, ys, e, h1, h2⟩ := r1
      unfold RpL at h2
      exact ⟨d, ys, e, h1, h2⟩
    have W1 := W.same s1
    dsimp only [gName, List.set, tNext, L2.start]
    refine ⟨_, rfl, ?_⟩
    dsimp only [tNoPart]
    refine ⟨_, rfl, a.n, u.N, a.nd, _, _, rfl, W1.n, T.cn, T.told_drops, rfl, _, rfl, slA_sq hd fun H2 x2 s2 r2 => ?_⟩
    have r2 : SqT K H2 x2 [] := r2
    have W2 := W1.same s2
    refine ⟨x2, rfl, ⟨_, r2⟩, ?_⟩
    refine for_it (D := { nx := _, rt := Q }) (walk_tup (K := K) (a := x2) (xs := [])) (fun j σ H' => H' = H2 ∧ ∃ v2 v3 v4 : Option V, σ = [some (.ref a.n), some (.ref d), v2, v3, v4]) ⟨rfl, _, _, _, rfl⟩ (fun j σ H' _ e => e.1 ▸ r2) ?_ ?_
    · rintro j x σ H7 H7' hj
      exact absurd hj (Nat.not_lt_zero _)
    rintro σ H7 ⟨rfl, v2, v3, v4, rfl⟩
    have wn := W2.n
    refine ⟨_, rfl, _, 0, rfl, .inr ⟨_, SqT.sm hd s2, rfl⟩, _, rfl, a.n, u.N, a.nd, _, rfl, wn, T.cn, T.told_drops, (by show 8 < 1000; decide), ?_⟩
    obtain ⟨H3, e_H3, k3, t3, h3⟩ := wr_any wn rfl
    rw [← e_H3]
    clear e_H3
    exact k H3 (fun b o hb e => k3 _ _ hb (s2 _ _ (s1 _ _ e))) (W2.setN k3 t3 h3)
theorem scWFall : FnScope ["self", "a", "b"] ["self", "a", "b"] (defScope sWFall) := ⟨rfl, rfl, rfl, by decide +kernel, rfl, by decide +kernel, by decide +kernel⟩
theorem ok_wfall {f : Addr} {fd : FuncData} (F : Fun K "fall" "World.fall" sWFall f fd) (T : TWd K c u) (TGx : TG K c) (cO : Md P w K mg base 1 u.W "look_open" ["self"] (spWOpen K c u)) (cD : Md P w K mg base 1 u.W "done" ["self", "found"] (spWDone K c u)) (cT : Md P w K mg base 2 u.N "tell_drops" ["self"] (spNTell K c u)) (cF : Md P w K mg base 5 c.G "fall" ["self", "a", "b"] (spFall0G K c)) : FnOk P w K mg base CX0 6 f fd ["self", "a", "b"] (spWFall K c u) := by
  obtain ⟨fO, fdO, GO, MO, bO⟩ := cO
  obtain ⟨fD, fdD, GD, MD, bD⟩ := cD
  obtain ⟨fT, fdT, GT, MT, bT⟩ := cT
  obtain ⟨fF, fdF, GF, MF, bF⟩ := cF
  refine F.ok scWFall (fun vs H Q E h => ?_) (fun cdv A outer s H vs Q E hr h => ?_)
  · obtain ⟨a, A, G, s, x, y, p, rfl, _⟩ := h
    rfl
  · obtain ⟨a, A, G, s, x, y, p, rfl, W, e0, hp, hf, hs, k⟩ := h
    have hr5 : Room 5 _ := hr
    have hr2 : Room 2 _ := hr.mono (by decide)
    have hr1 : Room 1 _ := hr.mono (by decide)
    refine ⟨_, (pss_cons (ps_expr (pe_meth0 (pv 0) T.cl MO GO hr1 bO .nil pass0))
       (pss_cons (ps_expr (pe_meth (fldK (K := K) rfl (fldK (K := K) rfl (pv 0) rfl) rfl) TGx.cl MF GF hr5 bF .nil pass0 (pa_cons (pv 1) (pa_cons (pv 2) pa_nil))))
       (pss_cons (ps_expr (pe_meth0 (fldK (K := K) rfl (pv 0) rfl) T.cn MT GT hr2 bT .nil pass0))
       (pss_one (ps_expr (pe_meth (pv 0) T.cl MD GD hr1 bD .nil pass0 (pa_cons pe_non pa_nil))))))), ?_⟩
    refine ⟨_, rfl, a.w, a.wd, _, rfl, W.w, rfl, a, A, G, s, 0, rfl, W, hs, ?_⟩
    refine ⟨_, rfl, a.w, u.W, a.wd, _, _, rfl, W.w, T.cl, T.net, rfl, a.n, u.N, a.nd, _, _, rfl, W.n, T.cn, T.below, rfl, A.g, A.dx, _, rfl, W.g.o, rfl, _, rfl, _, rfl, A, G, x, y, p, rfl, W.g, e0, hp, hf, fun H1 A1 q1 => ?_⟩
    have W1 := W.aft q1
    have e1 : Emp (fallG G p) := ⟨e0.mov, e0.pil, e0.run, e0.lost⟩
    refine ⟨_, rfl, a.w, u.W, a.wd, _, _, rfl, W1.w, T.cl, T.net, rfl, a.n, a.nd, _, rfl, W1.n, rfl, a, A1, _, s, rfl, W1, e1, fun H2 k2 W2 => ?_⟩
    refine ⟨_, rfl, a.w, a.wd, _, rfl, W2.w, rfl, a, A1, _, s, 0, .non, rfl, W2, fun H3 k3 W3 => ?_⟩
    exact k H3 A1 ⟨W3, fun b o h1 h2 e => k3 _ _ (nin1 fun z => h1 (by simp [z])) (k2 _ _ (nin1 fun z => h1 (by simp [z])) (q1.kp _ _ (by rw [List.nil_append]; exact h2) e)), fun x hx => by have := q1.sub x hx; rwa [List.nil_append] at this⟩
theorem scWRise : FnScope ["self", "a", "b"] ["self", "a", "b"] (defScope sWRise) := ⟨rfl, rfl, rfl, by decide +kernel, rfl, by decide +kernel, by decide +kernel⟩
theorem ok_wrise {f : Addr} {fd : FuncData} (F : Fun K "rise" "World.rise" sWRise f fd) (T : TWd K c u) (TGx : TG K c) (cO : Md P w K mg base 1 u.W "look_open" ["self"] (spWOpen K c u)) (cD : Md P w K mg base 1 u.W "done" ["self", "found"] (spWDone K c u)) (cF : Md P w K mg base 5 c.G "rise" ["self", "a", "b"] (spRise0G K c)) : FnOk P w K mg base CX0 6 f fd ["self", "a", "b"] (spWRise K c u) := by
  obtain ⟨fO, fdO, GO, MO, bO⟩ := cO
  obtain ⟨fD, fdD, GD, MD, bD⟩ := cD
  obtain ⟨fF, fdF, GF, MF, bF⟩ := cF
  refine F.ok scWRise (fun vs H Q E h => ?_) (fun cdv A outer s H vs Q E hr h => ?_)
  · obtain ⟨a, A, G, s, x, y, p, rfl, _⟩ := h
    rfl
  · obtain ⟨a, A, G, s, x, y, p, rfl, W, hp, hf, hs, k⟩ := h
    have hr5 : Room 5 _ := hr
    have hr1 : Room 1 _ := hr.mono (by decide)
    refine ⟨_, (pss_cons (ps_expr (pe_meth0 (pv 0) T.cl MO GO hr1 bO .nil pass0))
       (pss_cons (ps_expr (pe_meth (fldK (K := K) rfl (fldK (K := K) rfl (pv 0) rfl) rfl) TGx.cl MF GF hr5 bF .nil pass0 (pa_cons (pv 1) (pa_cons (pv 2) pa_nil))))
       (pss_one (ps_expr (pe_meth (pv 0) T.cl MD GD hr1 bD .nil pass0 (pa_cons pe_non pa_nil)))))), ?_⟩
    refine ⟨_, rfl, a.w, a.wd, _, rfl, W.w, rfl, a, A, G, s, 0, rfl, W, hs, ?_⟩
    refine ⟨_, rfl, a.w, u.W, a.wd, _, _, rfl, W.w, T.cl, T.net, rfl, a.n, u.N, a.nd, _, _, rfl, W.n, T.cn, T.below, rfl, A.g, A.dx, _, rfl, W.g.o, rfl, _, rfl, _, rfl, A, G, x, y, p, rfl, W.g, hp, hf, fun H1 A1 q1 => ?_⟩
    have W1 := W.aft q1
    refine ⟨_, rfl, a.w, a.wd, _, rfl, W1.w, rfl, a, A1, _, s, 0, .non, rfl, W1, fun H3 k3 W3 => ?_⟩
    exact k H3 A1 ⟨W3, fun b o h1 h2 e => k3 _ _ (nin1 fun z => h1 (by simp [z])) (q1.kp _ _ (by rw [List.nil_append]; exact h2) e), fun x hx => by have := q1.sub x hx; rwa [List.nil_append] at this⟩
theorem scWStep : FnScope ["self", "weave", "letters", "number", "start", "end", "text"] ["self", "weave"] (defScope sWStep) := ⟨rfl, rfl, rfl, by decide +kernel, rfl, by decide +kernel, by decide +kernel⟩
theorem ok_wstep {f : Addr} {fd : FuncData} (F : FunD K "step" "World.step" (defArgs sWStep) (defBody sWStep) (defScope sWStep) [] kws f fd) (T : TWd K c u) (TGx : TG K c) (hB : ∃ t, mg "BEATS" = some (.int 3000 t)) (cB : Md P w K mg base 3 u.W "beat" ["self"] (spWBeat K c u)) (cT : Md P w K mg base 2 u.N "tell_drops" ["self"] (spNTell K c u)) (cS : Md P w K mg base 4 c.G "step" ["self", "weave"] (spStep0 K c)) : FnOk P w K mg base CX0 5 f fd ["self", "weave"] (spWStep K c u) := by
  obtain ⟨tB, mBEATS⟩ := hB
  obtain ⟨fB, fdB, GB, MB, bB⟩ := cB
  obtain ⟨fT, fdT, GT, MT, bT⟩ := cT.tk
  obtain ⟨fS, fdS, GS, MS, bS⟩ := cS
  refine FunD.ok0 F scWStep (fun vs H Q E h => ?_) (fun cdv A outer s H vs Q E hr h => ?_)
  · obtain ⟨a, A, G, s, wv, rfl, _⟩ := h
    rfl
  · obtain ⟨a, A, G, s, wv, rfl, nt, W, e0, hc, k⟩ := h
    have hr4 : Room 4 _ := hr
    have hr3 : Room 3 _ := hr.mono (by decide)
    have hr2 : Room 2 _ := hr.mono (by decide)
    refine ⟨_, (pss_cons (ps_if (pt_val (fldK (K := K) rfl (pv 0) rfl))
       (pss_one ps_never)
       pss_nil)
       (pss_cons (ps_if (pt_cmpR op_eq (pe_meth0 (pv 0) T.cl MB GB hr3 bB .nil pass0) (pe_glob (v := .int 3000) (by rfl) mBEATS ⟨_, rfl⟩) (nomark _))
       (pss_one ps_never)
       pss_nil)
       (pss_cons (ps_set (i := 2) scWStep.nd rfl (Or.inl rfl) (pe_meth (fldK (K := K) rfl (fldK (K := K) rfl (pv 0) rfl) rfl) TGx.cl MS GS hr4 bS .nil pass0 (pa_cons (pv 1) pa_nil)))
       (pss_cons (ps_expr (pe_meth0 (fldK (K := K) rfl (pv 0) rfl) T.cn MT GT hr2 bT .nil pass0))
       (pss_one (ps_for PassesOwn.never rfl (pi_tup (pv 2)) (pg_tup rfl (pgs_cons (pg_name (i := 3) scWStep.nd rfl (Or.inl rfl)) (pgs_cons (pg_name (i := 4) scWStep.nd rfl (Or.inl rfl)) (pgs_cons (pg_name (i := 5) scWStep.nd rfl (Or.inl rfl)) (pgs_cons (pg_name (i := 6) scWStep.nd rfl (Or.inl rfl)) pgs_nil)))))
       pss_never)))))), ?_⟩
    refine ⟨_, rfl, a.w, u.W, a.wd, _, _, rfl, W.w, T.cl, T.telling, rfl, false, rfl, iteF ?_⟩
    refine ⟨_, rfl, a.w, a.wd, _, rfl, W.w, rfl, a, A, G, s, 0, rfl, W, rfl, _, rfl, iteI (fun z => absurd z (by omega)) fun _ => ?_⟩
    refine ⟨_, rfl, a.w, u.W, a.wd, _, _, rfl, W.w, T.cl, T.net, rfl, a.n, u.N, a.nd, _, _, rfl, W.n, T.cn, T.below, rfl, A.g, A.dx, _, rfl, W.g.o, rfl, _, rfl, A, G, wv, rfl, W.g, e0, nt, fun H1 A1 l q1 hl => ?_⟩
    have W1 := W.aft q1
    have e1 : Emp G.step0 := ⟨e0.mov, e0.pil, e0.run, e0.lost⟩
    dsimp only [gName, List.set, tNext, L2.start]
    refine ⟨_, rfl, a.w, u.W, a.wd, _, _, rfl, W1.w, T.cl, T.net, rfl, a.n, a.nd, _, rfl, W1.n, rfl, a, A1, _, s, rfl, W1, e1, fun H2 k2 W2 t2 => ?_⟩
    have hl2 := SqT.tk hl t2
    refine ⟨_, rfl, l, rfl, ⟨_, hl2⟩, ?_⟩
    refine for_it (D := { nx := _, rt := Q }) (walk_tup (K := K) (a := l) (xs := [])) (fun j σ H' => H' = H2) rfl (fun j σ H' _ e => e ▸ hl2) ?_ ?_
    · rintro j x σ H7 H7' hj
      exact absurd hj (Nat.not_lt_zero _)
    rintro σ H7 rfl
    exact k H7 A1 ⟨W2, fun b o h1 h2 e => k2 _ _ (nin1 fun z => h1 (by simp [z])) (q1.kp _ _ (by rw [List.nil_append]; exact h2) e), fun x hx => by have := q1.sub x hx; rwa [List.nil_append] at this⟩
end
end Wn

set_option maxHeartbeats 800000
namespace Wn
open PySem L2
set_option pp.maxSteps 700
set_option pp.deepTerms false
local macro_rules | `(tactic| walk_at "h") => `(tactic| first | with_reducible assumption | (with_reducible exact upd_same) | (with_reducible apply g_upd; (walk_at "neq"); (walk_at "h")) | (with_reducible apply g_same; (with_reducible assumption); (walk_at "h")) | (with_reducible apply g_kp; (with_reducible assumption); (walk_at "nin"); (walk_at "h")) | (with_reducible apply g_tk; (with_reducible assumption); (walk_at "h")))
local macro_rules | `(tactic| walk_at "neq") => `(tactic| first | with_reducible assumption | (with_reducible apply Ne.symm; with_reducible assumption) | (with_reducible apply ne_upd; (with_reducible assumption)) | (with_reducible apply Ne.symm; with_reducible apply ne_upd; with_reducible assumption) | (with_reducible apply ne_fr; (with_reducible assumption); (walk_at "h")) | (with_reducible apply ne_fr'; (with_reducible assumption); (walk_at "h")) | (with_reducible apply ne_kd; (walk_at "h"); (walk_at "h"); (with_unfolding_all (intro z; cases z))))
local macro_rules | `(tactic| walk_at "nin") => `(tactic| first | (with_reducible exact nin0) | with_reducible assumption | (with_reducible apply ninc; (walk_at "neq"); (walk_at "nin")))
local macro_rules | `(tactic| walk_at "none") => `(tactic| first | with_reducible assumption | (with_reducible apply n_upd; (with_reducible assumption)) | (with_reducible apply n_same; (with_reducible assumption); (walk_at "none")) | (with_reducible apply n_kp; (with_reducible assumption); (walk_at "nin"); (walk_at "none")))
local macro_rules | `(tactic| walk_at "mem") => `(tactic| first | (with_reducible exact List.mem_cons_self) | (with_reducible apply List.mem_cons_of_mem; (walk_at "mem")))
local macro_rules | `(tactic| walk_at "am") => `(tactic| first | (with_reducible exact am0) | (with_reducible apply am1; (first | (apply Or.inl; walk_at "mem") | (apply Or.inr; walk_at "none")); (walk_at "am")))
local macro_rules | `(tactic| walk_at "tk") => `(tactic| first | (with_reducible exact TK.refl _) | with_reducible assumption | (with_reducible apply t_tk; (with_reducible assumption); (walk_at "tk")) | (with_reducible apply t_same; (with_reducible assumption); (walk_at "tk")) | (with_reducible apply t_new; (with_reducible assumption); (walk_at "tk")) | (with_reducible apply t_wr; (walk_at "h"); (with_unfolding_all rfl); (walk_at "tk")))
local macro_rules | `(tactic| walk_at "same") => `(tactic| first | (with_reducible exact L2.Same.refl _) | with_reducible assumption | (with_reducible apply s_same; (with_reducible assumption); (walk_at "same")) | (with_reducible apply s_new; (with_reducible assumption); (walk_at "same")) | (with_reducible apply s_wrn; (walk_at "none"); (walk_at "same")))
local macro_rules | `(tactic| walk_at "kp") => `(tactic| first | (with_reducible exact Kp.refl _ _) | with_reducible assumption | (with_reducible apply k_same; (with_reducible assumption); (walk_at "kp")) | (with_reducible apply k_kp; (with_reducible assumption); (walk_at "kp")) | (with_reducible apply k_kpm; (with_reducible assumption); (walk_at "am"); (walk_at "kp")) | (with_reducible apply k_new; (with_reducible assumption); (walk_at "kp")) | (with_reducible apply k_wr; (walk_at "mem"); (walk_at "kp")) | (with_reducible apply k_wrn; (walk_at "none"); (walk_at "kp")))
local macro_rules | `(tactic| walk_at "rp") => `(tactic| first | with_reducible assumption | (with_reducible exact Rp.int) | (with_reducible exact Rp.str) | (with_reducible exact Rp.none) | (with_reducible exact Rp.bool) | (with_reducible apply Rp.tk'; (with_reducible assumption); (walk_at "tk")) | (with_reducible apply Rp.tup; (walk_at "h"); (walk_at "rpl")))
local macro_rules | `(tactic| walk_at "rpl") => `(tactic| first | with_reducible assumption | (with_reducible exact RpL.nil) | (with_reducible apply RpL.tk'; (with_reducible assumption); (walk_at "tk")) | (with_reducible apply RpL.cons; (walk_at "rp"); (walk_at "rpl")))
local macro_rules | `(tactic| walk_at "g") => `(tactic| repeat (first | refine ⟨_, rfl, ?_⟩ | refine ⟨_, _, rfl, rfl, ?_⟩ | refine ⟨rfl, _, rfl, ?_⟩ | refine ⟨_, _, rfl, rfl, (by first | decide | omega), ?_⟩))
/-! ### falls and rises of any two things: a ground without letters, a world without rooms -/
def spFallGX (K : PySem.W.Frag) (c : Gc) (CN CS : Addr) : Sp := fun vs H Q E => ∃ (A : Ga) (G : Gd) (x y : V), vs = [.ref A.g, x, y] ∧ GroundAt K c H A G ∧ Emp G ∧ Th K H x ∧ Th K H y ∧
  (∀ p H' A', pairV G.L.rs x y = some p → p ∉ G.L.fallen → Aft K c [] H A G H' A' (fallG G p) → Q .non H') ∧
  (∀ p H', pairV G.L.rs x y = some p → p ∈ G.L.fallen → Same H H' → E (.ref CS) none H') ∧
  (∀ H' d, pairV G.L.rs x y = none → Same H H' → H d = none → H' d = some (.xd [("b", y), ("a", x)]) → E (.ref CN) (some d) H')
def spRiseGX (K : PySem.W.Frag) (c : Gc) (CN CS : Addr) : Sp := fun vs H Q E => ∃ (A : Ga) (G : Gd) (x y : V), vs = [.ref A.g, x, y] ∧ GroundAt K c H A G ∧ Th K H x ∧ Th K H y ∧
  (∀ p H' A', pairV G.L.rs x y = some p → p ∈ G.L.fallen → Aft K c [] H A G H' A' (riseG G p) → Q .non H') ∧
  (∀ p H', pairV G.L.rs x y = some p → p ∉ G.L.fallen → Same H H' → E (.ref CS) none H') ∧
  (∀ H' d, pairV G.L.rs x y = none → Same H H' → H d = none → H' d = some (.xd [("b", y), ("a", x)]) → E (.ref CN) (some d) H')
def spWFallX (K : PySem.W.Frag) (c : Gc) (u : Wc) (CN CS : Addr) : Sp := fun vs H Q E => ∃ (a : Wa) (A : Ga) (G : Gd) (s : Nat) (x y : V), vs = [.ref a.w, x, y] ∧ W0At K c u H a A G s 0 ∧ Emp G ∧ s < 300 ∧ Th K H x ∧ Th K H y ∧
  (∀ p H' A', pairV G.L.rs x y = some p → p ∉ G.L.fallen → WAf K c u H a A G H' A' (fallG G p) (s + 1) → Q .non H') ∧
  (∀ p H', pairV G.L.rs x y = some p → p ∈ G.L.fallen → Same H H' → E (.ref CS) none H') ∧
  (∀ H' d, pairV G.L.rs x y = none → Same H H' → H d = none → H' d = some (.xd [("b", y), ("a", x)]) → E (.ref CN) (some d) H')
def spWRiseX (K : PySem.W.Frag) (c : Gc) (u : Wc) (CN CS : Addr) : Sp := fun vs H Q E => ∃ (a : Wa) (A : Ga) (G : Gd) (s : Nat) (x y : V), vs = [.ref a.w, x, y] ∧ W0At K c u H a A G s 0 ∧ s < 300 ∧ Th K H x ∧ Th K H y ∧
  (∀ p H' A', pairV G.L.rs x y = some p → p ∈ G.L.fallen → WAf K c u H a A G H' A' (riseG G p) (s + 1) → Q .non H') ∧
  (∀ p H', pairV G.L.rs x y = some p → p ∉ G.L.fallen → Same H H' → E (.ref CS) none H') ∧
  (∀ H' d, pairV G.L.rs x y = none → Same H H' → H d = none → H' d = some (.xd [("b", y), ("a", x)]) → E (.ref CN) (some d) H')

section
variable {P : Program} {w : World} {K : PySem.W.Frag} {mg : Str → Option Value} {base : Heap} {c : Gc} {u : Wc} {CN CS : Addr}
theorem scGFallX : FnScope ["self", "a", "b", "number", "frame"] ["self", "a", "b"] (defScope sGFall) := ⟨rfl, rfl, rfl, by decide +kernel, rfl, by decide +kernel, by decide +kernel⟩
theorem ok_fallGX {f : Addr} {fd : FuncData} (F : Fun K "fall" "Ground.fall" sGFall f fd) (T : TG K c) (B : GB mg) (cFl : MdX P w K mg base 4 c.R "fall" ["self", "a", "b"] (spFall K c.R CN CS)) (cF : Md P w K mg base 1 c.G "forget" ["self"] (spGForget K c)) : FnOk P w K mg base (L2.CX P w) 5 f fd ["self", "a", "b"] (spFallGX K c CN CS) := by
  obtain ⟨fFl, fdFl, GFl, MFl, bFl⟩ := cFl.tk
  obtain ⟨fF, fdF, GF, MF, bF⟩ := cF.tk
  refine F.okX scGFallX (fun vs H Q E h => ?_) (fun cdv A outer s H vs Q E hr h => ?_)
  · obtain ⟨A, G, x, y, rfl, _⟩ := h
    rfl
  · obtain ⟨A, G, x, y, rfl, g, e0, tx, ty, k1, k2, k3⟩ := h
    have hr4 : Room 4 _ := hr
    have hr1 : Room 1 _ := hr.mono (by decide)
    have hu := hu_of hr
    refine ⟨_, (pss_cons (ps_expr (pe_meth (fldK (K := K) rfl (pv 0) rfl) T.R.cl MFl GFl hr4 bFl .nil (passes_call (takes_of rfl rfl rfl rfl) (fun _ _ _ _ h => h)) (pa_cons (pv 1) (pa_cons (pv 2) pa_nil))))
       (pss_cons (ps_for (passes_of rfl) rfl (pi_list (pe_callB (sortIK (K := K) rfl) (by rfl) B.sorted (by decide +kernel) (pa_cons (pe_callTy (call_listD rfl) (by rfl) B.list (by decide +kernel) (pa_cons (fldK (K := K) rfl (pv 0) rfl) pa_nil)) pa_nil))) (pg_name (i := 3) scGFallX.nd rfl (Or.inl rfl))
       pss_never)
       (pss_one (ps_expr (pe_meth0 (pv 0) T.cl MF GF hr1 bF .nil pass0))))), ?_⟩
    obtain ⟨⟨dr, la, hr', _⟩, _⟩ := id g.R
    refine ⟨_, rfl, A.g, c.G, A.dx, _, _, rfl, g.o, T.cl, T.lanes, rfl, A.l, dr, _, rfl, hr', rfl, _, rfl, _, rfl, A.l, A.fa, G.L, x, y, rfl, g.R, tx, ty, fun p H1 hp hnf k1' R1 t1 => ?_, fun p H1 hp hf s1 => k2 p H1 hp hf s1, fun H1 d hp s1 nd hd => k3 H1 d hp s1 nd hd⟩
    have g1 : GroundAt K c H1 A (fallG G p) := g.setL0 k1' t1 R1
    have e1 : Emp (fallG G p) := ⟨e0.mov, e0.pil, e0.run, e0.lost⟩
    refine ⟨_, rfl, A.g, c.G, A.dx, _, _, rfl, g1.o, T.cl, T.moving, rfl, A.ma, _, rfl, .inl g1.mov.d, fun l n_l => ?_⟩
    rw [mvK_keys, e1.mov]
    obtain ⟨H2, e_H2, s2, h2⟩ := new_any n_l
    rw [← e_H2]
    clear e_H2
    refine ⟨l, [], rfl, SqL.of h2, fun ns' S' perm rising n_S' => ?_⟩
    have hns : ns' = [] := List.Perm.eq_nil perm
    subst hns
    obtain ⟨H3, e_H3, s3, h3⟩ := new_any n_S'
    rw [← e_H3]
    clear e_H3
    refine ⟨S', rfl, ⟨_, SqL.of h3⟩, ?_⟩
    have s13 := s2.trans s3
    have g3 := g1.same s13
    refine for_it (walk_list (K := K) (a := S') (xs := [])) (fun j σ H' => H' = H3 ∧ ∃ v3 v4 : Option V, σ = [some (.ref A.g), some x, some y, v3, v4]) ⟨rfl, _, _, rfl⟩ (fun j σ H' _ e => e.1 ▸ SqL.of h3) ?_ ?_
    · rintro j x σ H7 H7' hj
      exact absurd hj (Nat.not_lt_zero _)
    rintro σ H7 ⟨rfl, v4, v5, rfl⟩
    refine ⟨_, rfl, A.g, A.dx, _, rfl, g3.o, rfl, A, _, rfl, g3, e1.runok, fun H11 ra' k11 n_ra g11 t11 => ?_⟩
    rw [e1.forget] at g11
    refine k1 p H11 { A with ra := ra' } hp hnf ⟨g11, fun b o hb e => ?_, rfl, fun a ha => ?_⟩
    · have nbg : b ≠ A.g := fun z => hb (z ▸ mem8z (by simp))
      have nbf : b ≠ A.fa := fun z => hb (z ▸ mem8z (by simp))
      exact k11 _ _ (nin1 nbg) (s13 _ _ (k1' _ _ (nin1 nbf) e))
    · refine sub_ra e0 e1 n_ra (fun b o hb e => ?_) ha
      have nbf : b ≠ A.fa := fun z => hb (z ▸ mem8z (by simp))
      exact s13 _ _ (k1' _ _ (nin1 nbf) e)
theorem scGRiseX : FnScope ["self", "a", "b"] ["self", "a", "b"] (defScope sGRise) := ⟨rfl, rfl, rfl, by decide +kernel, rfl, by decide +kernel, by decide +kernel⟩
theorem ok_riseGX {f : Addr} {fd : FuncData} (F : Fun K "rise" "Ground.rise" sGRise f fd) (T : TG K c) (cRi : MdX P w K mg base 4 c.R "rise" ["self", "a", "b"] (spRise K c.R CN CS)) : FnOk P w K mg base (L2.CX P w) 5 f fd ["self", "a", "b"] (spRiseGX K c CN CS) := by
  obtain ⟨fRi, fdRi, GRi, MRi, bRi⟩ := cRi.tk
  refine F.okX scGRiseX (fun vs H Q E h => ?_) (fun cdv A outer s H vs Q E hr h => ?_)
  · obtain ⟨A, G, x, y, rfl, _⟩ := h
    rfl
  · obtain ⟨A, G, x, y, rfl, g, tx, ty, k1, k2, k3⟩ := h
    have hr4 : Room 4 _ := hr
    refine ⟨_, (pss_one (ps_expr (pe_meth (fldK (K := K) rfl (pv 0) rfl) T.R.cl MRi GRi hr4 bRi .nil (passes_call (takes_of rfl rfl rfl rfl) (fun _ _ _ _ h => h)) (pa_cons (pv 1) (pa_cons (pv 2) pa_nil))))), ?_⟩
    obtain ⟨⟨dr, la, hr', _⟩, _⟩ := id g.R
    refine ⟨_, rfl, A.g, c.G, A.dx, _, _, rfl, g.o, T.cl, T.lanes, rfl, A.l, dr, _, rfl, hr', rfl, _, rfl, _, rfl, A.l, A.fa, G.L, x, y, rfl, g.R, tx, ty, fun p H1 hp hf k1' R1 t1 => ?_, fun p H1 hp hf s1 => k2 p H1 hp hf s1, fun H1 d hp s1 nd hd => k3 H1 d hp s1 nd hd⟩
    exact k1 p H1 A hp hf ⟨g.setL0 k1' t1 R1, fun b o hb e => k1' _ _ (nin1 fun z => hb (z ▸ mem8z (by simp))) e, rfl, fun a ha => .inl ha⟩
theorem scWFallX : FnScope ["self", "a", "b"] ["self", "a", "b"] (defScope sWFall) := ⟨rfl, rfl, rfl, by decide +kernel, rfl, by decide +kernel, by decide +kernel⟩
theorem ok_wfallX {f : Addr} {fd : FuncData} (F : Fun K "fall" "World.fall" sWFall f fd) (Tw : TWd K c u) (T : TG K c) (cO : Md P w K mg base 1 u.W "look_open" ["self"] (spWOpen K c u)) (cD : Md P w K mg base 1 u.W "done" ["self", "found"] (spWDone K c u)) (cT : Md P w K mg base 2 u.N "tell_drops" ["self"] (spNTell K c u)) (cF : MdX P w K mg base 5 c.G "fall" ["self", "a", "b"] (spFallGX K c CN CS)) : FnOk P w K mg base (L2.CX P w) 6 f fd ["self", "a", "b"] (spWFallX K c u CN CS) := by
  obtain ⟨fO, fdO, GO, MO, bO⟩ := cO
  obtain ⟨fD, fdD, GD, MD, bD⟩ := cD
  obtain ⟨fT, fdT, GT, MT, bT⟩ := cT
  obtain ⟨fFl, fdFl, GFl, MFl, bFl⟩ := cF
  refine F.okX scWFallX (fun vs H Q E h => ?_) (fun cdv A outer s H vs Q E hr h => ?_)
  · obtain ⟨a, A, G, s, x, y, rfl, _⟩ := h
    rfl
  · obtain ⟨a, A, G, s, x, y, rfl, W, e0, hs, tx, ty, kD, kS, kN⟩ := h
    have hr5 : Room 5 _ := hr
    have hr2 : Room 2 _ := hr.mono (by decide)
    have hr1 : Room 1 _ := hr.mono (by decide)
    refine ⟨_, (pss_cons (ps_expr (pe_meth0 (pv 0) Tw.cl MO GO hr1 bO .nil pass0))
       (pss_cons (ps_expr (pe_meth (fldK (K := K) rfl (fldK (K := K) rfl (pv 0) rfl) rfl) T.cl MFl GFl hr5 bFl .nil (passes_call (takes_of rfl rfl rfl rfl) (fun _ _ _ _ h => h)) (pa_cons (pv 1) (pa_cons (pv 2) pa_nil))))
       (pss_cons (ps_expr (pe_meth0 (fldK (K := K) rfl (pv 0) rfl) Tw.cn MT GT hr2 bT .nil pass0))
       (pss_one (ps_expr (pe_meth (pv 0) Tw.cl MD GD hr1 bD .nil pass0 (pa_cons pe_non pa_nil))))))), ?_⟩
    refine ⟨_, rfl, a.w, a.wd, _, rfl, W.w, rfl, a, A, G, s, 0, rfl, W, hs, ?_⟩
    refine ⟨_, rfl, a.w, u.W, a.wd, _, _, rfl, W.w, Tw.cl, Tw.net, rfl, a.n, u.N, a.nd, _, _, rfl, W.n, Tw.cn, Tw.below, rfl, A.g, A.dx, _, rfl, W.g.o, rfl, _, rfl, _, rfl, A, G, x, y, rfl, W.g, e0, tx, ty, fun p H1 A1 hp hf q1 => ?_, fun p H1 hp hf s1 => kS p H1 hp hf s1, fun H1 d hp s1 nd hd => kN H1 d hp s1 nd hd⟩
    have W1 := W.aft q1
    have e1 : Emp (fallG G p) := ⟨e0.mov, e0.pil, e0.run, e0.lost⟩
    refine ⟨_, rfl, a.w, u.W, a.wd, _, _, rfl, W1.w, Tw.cl, Tw.net, rfl, a.n, a.nd, _, rfl, W1.n, rfl, a, A1, _, s, rfl, W1, e1, fun H2 k2 W2 => ?_⟩
    refine ⟨_, rfl, a.w, a.wd, _, rfl, W2.w, rfl, a, A1, _, s, 0, .non, rfl, W2, fun H3 k3 W3 => ?_⟩
    exact kD p H3 A1 hp hf ⟨W3, fun b o h1 h2 e => k3 _ _ (nin1 fun z => h1 (by simp [z])) (k2 _ _ (nin1 fun z => h1 (by simp [z])) (q1.kp _ _ (by rw [List.nil_append]; exact h2) e)), fun x hx => by have := q1.sub x hx; rwa [List.nil_append] at this⟩
theorem scWRiseX : FnScope ["self", "a", "b"] ["self", "a", "b"] (defScope sWRise) := ⟨rfl, rfl, rfl, by decide +kernel, rfl, by decide +kernel, by decide +kernel⟩
theorem ok_wriseX {f : Addr} {fd : FuncData} (F : Fun K "rise" "World.rise" sWRise f fd) (Tw : TWd K c u) (T : TG K c) (cO : Md P w K mg base 1 u.W "look_open" ["self"] (spWOpen K c u)) (cD : Md P w K mg base 1 u.W "done" ["self", "found"] (spWDone K c u)) (cF : MdX P w K mg base 5 c.G "rise" ["self", "a", "b"] (spRiseGX K c CN CS)) : FnOk P w K mg base (L2.CX P w) 6 f fd ["self", "a", "b"] (spWRiseX K c u CN CS) := by
  obtain ⟨fO, fdO, GO, MO, bO⟩ := cO
  obtain ⟨fD, fdD, GD, MD, bD⟩ := cD
  obtain ⟨fRi, fdRi, GRi, MRi, bRi⟩ := cF
  refine F.okX scWRiseX (fun vs H Q E h => ?_) (fun cdv A outer s H vs Q E hr h => ?_)
  · obtain ⟨a, A, G, s, x, y, rfl, _⟩ := h
    rfl
  · obtain ⟨a, A, G, s, x, y, rfl, W, hs, tx, ty, kD, kS, kN⟩ := h
    have hr5 : Room 5 _ := hr
    have hr1 : Room 1 _ := hr.mono (by decide)
    refine ⟨_, (pss_cons (ps_expr (pe_meth0 (pv 0) Tw.cl MO GO hr1 bO .nil pass0))
       (pss_cons (ps_expr (pe_meth (fldK (K := K) rfl (fldK (K := K) rfl (pv 0) rfl) rfl) T.cl MRi GRi hr5 bRi .nil (passes_call (takes_of rfl rfl rfl rfl) (fun _ _ _ _ h => h)) (pa_cons (pv 1) (pa_cons (pv 2) pa_nil))))
       (pss_one (ps_expr (pe_meth (pv 0) Tw.cl MD GD hr1 bD .nil pass0 (pa_cons pe_non pa_nil)))))), ?_⟩
    refine ⟨_, rfl, a.w, a.wd, _, rfl, W.w, rfl, a, A, G, s, 0, rfl, W, hs, ?_⟩
    refine ⟨_, rfl, a.w, u.W, a.wd, _, _, rfl, W.w, Tw.cl, Tw.net, rfl, a.n, u.N, a.nd, _, _, rfl, W.n, Tw.cn, Tw.below, rfl, A.g, A.dx, _, rfl, W.g.o, rfl, _, rfl, _, rfl, A, G, x, y, rfl, W.g, tx, ty, fun p H1 A1 hp hf q1 => ?_, fun p H1 hp hf s1 => kS p H1 hp hf s1, fun H1 d hp s1 nd hd => kN H1 d hp s1 nd hd⟩
    have W1 := W.aft q1
    refine ⟨_, rfl, a.w, a.wd, _, rfl, W1.w, rfl, a, A1, _, s, 0, .non, rfl, W1, fun H3 k3 W3 => ?_⟩
    exact kD p H3 A1 hp hf ⟨W3, fun b o h1 h2 e => k3 _ _ (nin1 fun z => h1 (by simp [z])) (q1.kp _ _ (by rw [List.nil_append]; exact h2) e), fun x hx => by have := q1.sub x hx; rwa [List.nil_append] at this⟩
end
end Wn

namespace Wn
open PySem L2
/-! ### plain: odd pairs, how a deed comes out -/
def oddL : List PyData := [.none, .bool true, .bool false, .str "0", .list [.int 0], .tuple [.int 0, .int 1], .int (-1), .int 8, .int 100000000000000000000, .int 0, .int 1, .int 2, .int 3, .int 4, .int 5, .int 6, .int 7]
structure OddOk (d : PyData) : Prop where
  sh : d.showable = true
  nd : d.hasDict = false
  dp : d.depth ≤ 60
  ln : d.shown.length ≤ 60
  ok : SeqAt.shaped (.str d.shown) = true
  nb : SeqAt.shaped d = true
theorem odd_ok {d : PyData} (h : d ∈ oddL) : OddOk d := by
  have h0 : (oddL.all fun d => d.showable && (!d.hasDict && (decide (d.depth ≤ 60) && (decide (d.shown.length ≤ 60) && (SeqAt.shaped (.str d.shown) && SeqAt.shaped d))))) = true := by decide +kernel
  have := List.all_eq_true.mp h0 d h
  simp only [Bool.and_eq_true, Bool.not_eq_true', decide_eq_true_eq] at this
  exact ⟨this.1, this.2.1, this.2.2.1, this.2.2.2.1, this.2.2.2.2.1, this.2.2.2.2.2⟩
theorem odd_int {i : Nat} (h : i < 8) : PyData.int (i : Int) ∈ oddL := by
  have : i = 0 ∨ i = 1 ∨ i = 2 ∨ i = 3 ∨ i = 4 ∨ i = 5 ∨ i = 6 ∨ i = 7 := by omega
  rcases this with rfl | rfl | rfl | rfl | rfl | rfl | rfl | rfl <;> simp [oddL]
def pairD (rs : List Rd) : PyData → PyData → Option (Nat × Nat)
  | .int i, .int j => pairOf rs i j
  | _, _ => none
theorem pairV_D {K : PySem.W.Frag} {H : Hp} {x y : V} {px py : PyData} {rs : List Rd} (hx : Dp K H x px) (hy : Dp K H y py) : pairV rs x y = pairD rs px py := by
  cases hx <;> cases hy <;> rfl
def noneQ (px py : PyData) : PyData := .tuple [.str "none", .str px.shown, .str py.shown, .bool true, .bool false]
def sameQ : PyData := .tuple [.str "same", .bool true, .bool false]
def doneQ : PyData := .tuple [.str "done"]
def movedL (L : Lan) (b : Bool) (p : Nat × Nat) : Lan := { L with fallen := if b then L.fallen ++ [p] else L.fallen.filter fun q => decide (q ≠ p) }
def outc (L : Lan) (b : Bool) (px py : PyData) : PyData × Lan :=
  match pairD L.rs px py with
  | none => (noneQ px py, L)
  | some p => if decide (p ∈ L.fallen) = b then (sameQ, L) else (doneQ, movedL L b p)
theorem outc_rs {L : Lan} {b : Bool} {px py : PyData} : (outc L b px py).2.rs = L.rs ∧ (outc L b px py).2.m = L.m := by
  unfold outc
  split
  · exact ⟨rfl, rfl⟩
  · split
    · exact ⟨rfl, rfl⟩
    · exact ⟨rfl, rfl⟩
def hitR (i j : Int) (r : Rd) : Bool := decide (((r.a : Int) = i ∧ (r.b : Int) = j) ∨ ((r.a : Int) = j ∧ (r.b : Int) = i))
/-- the number of the road of two things, or -1 -/
def rowNo (rs : List Rd) : PyData → PyData → Int
  | .int i, .int j => ((((List.range rs.length).filter fun k => (rs[k]?.map (hitR i j)).getD false).map fun (k : Nat) => (k : Int)) ++ [-1]).headD 0
  | _, _ => -1
theorem rowNo_spec {rs : List Rd} {px py : PyData} : (rowNo rs px py = -1 ∧ pairD rs px py = none) ∨ ∃ k : Nat, ∃ h : k < rs.length, rowNo rs px py = (k : Int) ∧ pairD rs px py = some (rs[k].a, rs[k].b) := by
  unfold rowNo pairD
  split
  · rename_i i j
    unfold pairOf
    have e1 : ∀ k (h : k < rs.length), (rs[k]?.map (hitR i j)).getD false = hitR i j rs[k] := fun k h => by rw [List.getElem?_eq_getElem h]; rfl
    cases e : (List.range rs.length).filter fun k => (rs[k]?.map (hitR i j)).getD false with
    | nil =>
      refine .inl ⟨rfl, ?_⟩
      have : rs.find? (hitR i j) = none := by
        rw [List.find?_eq_none]
        intro r hr hb
        obtain ⟨k, hk, rfl⟩ := List.mem_iff_getElem.mp hr
        have := List.filter_eq_nil_iff.mp e k (List.mem_range.mpr hk)
        rw [e1 k hk] at this
        exact this hb
      exact congrArg (Option.map fun r : Rd => (r.a, r.b)) this
    | cons k ks =>
      have hk : k ∈ (List.range rs.length).filter fun k => (rs[k]?.map (hitR i j)).getD false := by rw [e]; exact List.mem_cons_self
      obtain ⟨h1, h2⟩ := List.mem_filter.mp hk
      have hl := List.mem_range.mp h1
      rw [e1 k hl] at h2
      refine .inr ⟨k, hl, rfl, ?_⟩
      have : rs.find? (hitR i j) = some rs[k] := by
        rw [List.find?_eq_some_iff_getElem]
        refine ⟨h2, k, hl, rfl, fun m hm => ?_⟩
        have hml : m < rs.length := by omega
        rw [Bool.not_eq_true']
        cases q : hitR i j rs[m] with
        | false => rfl
        | true =>
          have hm' : m ∈ (List.range rs.length).filter fun k => (rs[k]?.map (hitR i j)).getD false := List.mem_filter.mpr ⟨List.mem_range.mpr hml, by rw [e1 m hml]; exact q⟩
          have srt : ((List.range rs.length).filter fun k => (rs[k]?.map (hitR i j)).getD false).Pairwise (· < ·) := List.pairwise_lt_range.sublist List.filter_sublist
          rw [e] at hm' srt
          rcases List.mem_cons.mp hm' with z | z
          · omega
          · have := (List.pairwise_cons.mp srt).1 m z
            omega
      exact congrArg (Option.map fun r : Rd => (r.a, r.b)) this
  · exact .inl ⟨rfl, rfl⟩
/-- which roads are up behind a deed -/
theorem up_moved {L : Lan} {m : Nat} (R : RdsOk m L.rs) {b : Bool} {k : Nat} (hk : k < L.rs.length) (hb : decide ((L.rs[k].a, L.rs[k].b) ∈ L.fallen) ≠ b) : upOf (movedL L b (L.rs[k].a, L.rs[k].b)) = (upOf L).set k (!b) := by
  unfold upOf movedL
  dsimp only
  refine List.ext_getElem (by simp) fun i h1 h2 => ?_
  rw [List.getElem_map, List.getElem_set]
  have hi : i < L.rs.length := by simpa using h1
  by_cases e : k = i
  · subst e
    rw [if_pos rfl]
    cases b with
    | true => simp
    | false => simp
  · rw [if_neg e, List.getElem_map]
    have ne : (L.rs[i].a, L.rs[i].b) ≠ (L.rs[k].a, L.rs[k].b) := fun z => by
      have up := R.up
      rw [List.pairwise_iff_getElem] at up
      injection z with z1 z2
      rcases Nat.lt_or_gt_of_ne e with q | q
      · have := up k i hk hi q
        unfold rdLt at this
        omega
      · have := up i k hi hk q
        unfold rdLt at this
        omega
    cases b with
    | true => simp [ne]
    | false => simp [ne]
end Wn

set_option maxHeartbeats 2000000
namespace Wn
open PySem PySem.Spec PyProof.Rows L2
/-! ### several except clauses, each with a name -/
/-- a clause: its class, its name's slot, its suite -/
abbrev Hda := Value × Nat × (Addr → Value → Option Addr → TS)
def wManyA (K : PySem.W.Frag) (Wout : WX) (D : Ends) : List Hda → WX
  | [] => Wout
  | (c, i, ts) :: r => fun cls d σ H => ∃ b, PySem.W.exmOne K cls c = some b ∧ (b = true → ∀ a, H a = none → ts a cls d { nx := fun σ' H' => D.nx (σ'.set i none) H', rt := D.rt, bk := fun σ' H' => D.bk (σ'.set i none) H', ct := fun σ' H' => D.ct (σ'.set i none) H' } (σ.set i (some (.ref a))) H) ∧
    (b = false → wManyA K Wout D r cls d σ H)
inductive HdsA (X : Cx) : List ExceptHandler → List Hda → Prop
  | nil : HdsA X [] []
  | cons {x n : Str} {c : Value} {i : Nat} {ts : Addr → Value → Option Addr → TS} {b₀ : Stmt} {suite : List Stmt} {np pos' : Pos} {hds : List ExceptHandler} {l : List Hda} (hc : Names X x c) (hi : X.N[i]? = some n) (hln : X.env.kindOf n = some .local)
      (hsu : ∀ (a : Addr) (oe : Obj) (cls : Value) (d : Option Addr) (pn : List (Addr × Obj)), Zc cls d oe → (∃ vs, oe.data = .fields vs) → PSs (X.suite a ((a, oe) :: pn)) (b₀ :: suite) (ts a cls d)) (r : HdsA X hds l) :
      HdsA X (.ExceptHandler (some (.Name x np)) (some n) (b₀ :: suite) pos' :: hds) ((c, i, ts) :: l)
section
variable {X : Cx} {body : List Stmt} {h₀ : ExceptHandler} {hds : List ExceptHandler} {l : List Hda} {pos : Pos} {tb : WX → TS} {Wout : WX}
theorem ps_try_manyA (hs : X.stack = X.env :: X.outer) (hf : X.env.frame = some X.env.locals) (hN : X.N.Nodup) (tk : Takes X Wout)
    (hb : ∀ (W : WX) (pn : List (Addr × Obj)) (xe : Value → Shared → Prop), Takes (X.tr pn xe) W → PassesOwn (model X.prog X.w) X.A X.env xe → PSs (X.tr pn xe) body (tb W))
    (hh : HdsA X (h₀ :: hds) l) : PS X (.Try body (h₀ :: hds) [] [] pos) (fun D σ H => tb (wManyA X.K Wout D l) D σ H) := by
  refine ⟨fun pins s σ H D I h => ?_⟩
  have ok := I.ok
  have hfr : X.A.frames = some (X.env :: X.outer) := by rw [ok.frames, hs]
  refine wpAny_Try_except ?_
  refine wpAny_mono ((hb (wManyA X.K Wout D l) (X.pn ++ pins) (fun e s₁ => wpAny (model X.prog X.w) X.A (noteFrame e X.env) (fun _ s₂ => wpAny (model X.prog X.w) X.A (setFlight e none) (fun _ s₃ =>
    wpAny (model X.prog X.w) X.A (handleBy e X.env (h₀ :: hds)) (SP X pins D) X.xe s₃) X.xe s₂) X.xe s₁) (fun u s' xx => ?_) PassesOwn.looking).run [] s σ H D (I.toTry _) h) (fun f s1 hsp => ?_) (fun e s1 he => he)
  · obtain ⟨a, B, sI, pins', σ', H', cls, d, rfl, J', nb, up, sky, na, os, ag, w⟩ := xx
    have J : Inv X pins σ' H' sI := J'.ofTry ok
    have sky' : Sky B (X.env :: X.outer) a (Zc cls d) X.env.locals s'.heap := by rw [← hs]; exact sky
    show wpAny (model X.prog X.w) X.A (noteFrame (.ref a) X.env) _ _ _
    refine Sky.land Zc.steady hfr hf sky' fun h3 fl3 up3 => ?_
    have J3 : Inv X pins σ' H' { s' with heap := h3 } := J.landed nb fl3.1 (up.trans up3) os ag
    obtain ⟨oe3, vs3, he3, hz3, hd3⟩ := fl3.there
    have notFr : ∀ {h : Heap} {o : Obj} {vs : Array Value}, h.FunFrames B (X.env :: X.outer) → h.get? a = some o → o.data = .fields vs → a ∉ frs (X.env :: X.outer) := fun {h o vs} ff e dd hm => by
      obtain ⟨_, o', e', hnf⟩ := ff.mem hm
      rw [e] at e'; cases e'
      exact hnf _ dd
    have nfr := notFr fl3.2.2.1 he3 hd3
    have nL : a ≠ X.env.locals := fun z => nfr (List.mem_filterMap.mpr ⟨X.env, List.mem_cons_self, by rw [hf, z]⟩)
    have nF : a ∉ X.fs := fun hm => by
      obtain ⟨e, he, q⟩ := List.mem_filterMap.mp hm
      exact nfr (List.mem_filterMap.mpr ⟨e, List.mem_cons_of_mem _ he, q⟩)
    have S3 := J3.suite he3 hd3 na nL nF
    have go : ∀ {hds' : List ExceptHandler} {l' : List Hda}, HdsA X hds' l' → wManyA X.K Wout D l' cls d σ' H' →
        wpAny (model X.prog X.w) X.A (handleBy (.ref a) X.env hds') (SP X pins D) X.xe { s' with heap := h3 } := by
      intro hds' l' hk
      induction hk with
      | nil =>
        intro w
        refine wpAny_handleBy_nil ?_
        obtain ⟨k1, k2, k3, oe, vs, T, oT, ts', he, hz, hd, h1, hr⟩ := id fl3
        unfold PySem.passOn
        refine wpAny_bind (wpAny_field he hd h1 ?_)
        rw [if_neg (show ¬ ((Value.ref T == Value.none) = true) from by simp)]
        have fin : wpAny (model X.prog X.w) X.A (setFlight (.ref a) X.env.frame) (fun _ s4 => wpAny (model X.prog X.w) X.A (throw (.ref a) : Sem Flow) (SP X pins D) X.xe s4) X.xe { s' with heap := h3 } := by
          rw [hf]
          refine PySem.HandSPX.setFlight_upZ fl3 fun h4 hh4 up4 => wpAny_throw (tk _ _ ?_)
          exact ⟨a, B, sI, pins, σ', H', cls, d, rfl, J, nb, (up.trans up3).trans up4, .inr (.inr (by rw [hs]; exact hh4)), na, os, ag, w⟩
        first
          | exact wpAny_bind (wpAny_pure (wpAny_bind fin))
          | exact wpAny_bind fin
      | @cons x n c i ts b₀ suite np pos' hds2 l2 hc hi hln hsu r ih =>
        intro w
        obtain ⟨b, hb1, hyes, hno⟩ := w
        have hloc : Loc X.env.scope n := .inl hln
        refine wpAny_handleBy_cons (codeAny_handlers_test ?_) (by intro q; cases q)
        have LT : PySem.W.Looks (model X.prog X.w) h3 (typeOf (.ref a)) cls := fun A Q E s k q => wpAny_typeOf_ref (k _ _ he3) (by rw [hz3.1]; exact q)
        have LM := PySem.W.exm_one (M := model X.prog X.w) (J3.kIn) LT hb1
        have test : ∀ {Q : Value → Shared → Prop} {E : Value → Shared → Prop}, Q c { s' with heap := h3 } → wpAny (model X.prog X.w) (X.A.mark (some (.ref a))) (eval (.Name x np) X.env) Q E { s' with heap := h3 } := fun {Q E} q => by
          obtain ⟨hg, hdbg, hm | ⟨hm, hv, hnn⟩⟩ := hc
          · exact ld_glob (X := X.suite a ((a, oe3) :: (X.pn ++ pins))) S3 hg hm q hdbg
          · exact ld_blt (X := X.suite a ((a, oe3) :: (X.pn ++ pins))) S3 hg hm hv q hnn hdbg
        refine test (LM.here ?_)
        cases b with
        | true =>
          refine codeAny_handlers_suite_as ?_
          refine PySem.HandSPX.lands_againZ fl3 fun h4 fl4 up4 => ?_
          have J4 : Inv X pins σ' H' { s' with heap := h4 } := J.landed nb fl4.1 ((up.trans up3).trans up4) os ag
          obtain ⟨oe4, vs4, he4, hz4, hd4⟩ := fl4.there
          have S4 := J4.suite he4 hd4 na nL nF
          refine store_ok (X := X.suite a ((a, oe4) :: (X.pn ++ pins))) (v := .ref a) S4 hN hi hloc rfl (fun s5 S5 => ?_) (.inr hln)
          refine wpAny_mono ((hsu a oe4 cls d (X.pn ++ pins) hz4 ⟨_, hd4⟩).run [] s5 _ H' _ S5 (hyes rfl a na)) (fun f s6 hsp => ?_) (fun _ _ z => False.elim z)
          have end_ : ∀ {σ6 : L2.St} {H6 : Hp} {Q : Shared → Prop}, Inv (X.suite a ((a, oe4) :: (X.pn ++ pins))) [] σ6 H6 s6 → (∀ s7, Inv X pins (σ6.set i none) H6 s7 → Q s7) →
              wpAny (model X.prog X.w) X.A (do bindName X.env n .none; unbindBehindTheSuite X.env n pos') (fun _ s7 => Q s7) X.xe s6 := fun {σ6 H6 Q} S6 hq => gone_ok (S6.unsuite ok) hN hi hln hq
          cases f with
          | next =>
            obtain ⟨σ6, H6, S6, q6⟩ := hsp
            exact end_ S6 fun s7 J7 => ⟨_, _, J7, q6⟩
          | brk =>
            obtain ⟨σ6, H6, S6, q6⟩ := hsp
            exact end_ S6 fun s7 J7 => ⟨_, _, J7, q6⟩
          | cont =>
            obtain ⟨σ6, H6, S6, q6⟩ := hsp
            exact end_ S6 fun s7 J7 => ⟨_, _, J7, q6⟩
          | ret u =>
            obtain ⟨v6, σ6, H6, S6, r6, q6⟩ := hsp
            exact end_ S6 fun s7 J7 => ⟨_, _, _, J7, r6, q6⟩
        | false =>
          show wpAny _ X.A (handleBy (.ref a) X.env hds2) _ _ _
          exact ih (hno rfl)
    exact go hh w
  · cases f with
    | next =>
      obtain ⟨σ', H', J', q⟩ := hsp
      exact wpAny_execs_nil ⟨σ', H', J'.ofTry ok, q⟩
    | brk =>
      obtain ⟨σ', H', J', q⟩ := hsp
      exact ⟨σ', H', J'.ofTry ok, q⟩
    | cont =>
      obtain ⟨σ', H', J', q⟩ := hsp
      exact ⟨σ', H', J'.ofTry ok, q⟩
    | ret u =>
      obtain ⟨v, σ', H', J', r, q⟩ := hsp
      exact ⟨v, σ', H', J'.ofTry ok, r, q⟩
end
/-! ### a def's promise where no repr is under way -/
structure FnG (P : Program) (w : World) (K : PySem.W.Frag) (mg : Str → Option Value) (base : Heap) (CX : CXT) (k : Nat) (f : Addr) (fd : FuncData) (ps : List Str) (sp : Sp) : Prop where
  len : ∀ vs H Q E, sp vs H Q E → vs.length = ps.length
  run : ∀ (A : Around) (outer : List Env) (s : Shared) (H : Hp) (args : Args) (us : List Value) (vs : List V) (Q : VK) (E : XK), Room k A → A.guards = some [] → Env0 P w K mg base A outer s H → BindsTo s fd args (ps.zip us) → Vals vs us → sp vs H Q E →
    codeAny (model P w) A (.call (.ref f) args) (CR CX outer P w H s Q E) s
theorem FnOk.g {P : Program} {w : World} {K : PySem.W.Frag} {mg : Str → Option Value} {base : Heap} {CX : CXT} {k : Nat} {f : Addr} {fd : FuncData} {ps : List Str} {sp : Sp} (F : FnOk P w K mg base CX k f fd ps sp) : FnG P w K mg base CX k f fd ps sp :=
  ⟨F.len, fun A outer s H args us vs Q E hr _ => F.run A outer s H args us vs Q E hr⟩
theorem fnG_tk {P : Program} {w : World} {K : PySem.W.Frag} {mg : Str → Option Value} {base : Heap} {CX : CXT} {k : Nat} {f : Addr} {fd : FuncData} {ps : List Str} {sp : Sp} (F : FnG P w K mg base CX k f fd ps sp) :
    FnG P w K mg base CX k f fd ps (Tk sp) := by
  refine ⟨fun vs H Q E q => F.len vs H _ E q, fun A outer s H args us vs Q E hr hg he hb hv hs => ?_⟩
  refine codeAny_mono (F.run A outer s H args us vs _ E hr hg he hb hv hs) fun r s' h => ?_
  cases r with
  | ok fl =>
    cases fl with
    | ret u =>
      obtain ⟨v, H', e1, e2, e3, e4, e5, q⟩ := h
      exact ⟨v, H', e1, e2, e3, e4, e5, q ⟨e3.tups, e3.frzs⟩⟩
    | _ => exact h
  | error e => exact h
def CdG (P : Program) (w : World) (K : PySem.W.Frag) (mg : Str → Option Value) (base : Heap) (k : Nat) (name : Str) (ps : List Str) (sp : Sp) : Prop :=
  ∃ (f : Addr) (fd : FuncData), FnG P w K mg base CX0 k f fd ps sp ∧ mg name = some (.ref f) ∧ PySem.W.keepIn K (.ref f) = true ∧ Binds K fd ps []
theorem CdG.tk {P : Program} {w : World} {K : PySem.W.Frag} {mg : Str → Option Value} {base : Heap} {k : Nat} {name : Str} {ps : List Str} {sp : Sp} (h : CdG P w K mg base k name ps sp) : CdG P w K mg base k name ps (Tk sp) := by
  obtain ⟨f, fd, G, r⟩ := h
  exact ⟨f, fd, fnG_tk G, r⟩
section
variable {P : Program} {w : World} {K : PySem.W.Frag} {mg : Str → Option Value} {base : Heap}
theorem funG {CX : CXT} {x qual : Str} {st : Stmt} {f : Addr} {fd : FuncData} {N ps : List Str} {k : Nat} {sp : Sp} (F : Fun K x qual st f fd) (S : FnScope N ps (defScope st)) (len : ∀ vs H Q E, sp vs H Q E → vs.length = ps.length)
    (hbody : ∀ (cdv : Value) (A : Around) (outer : List Env) (s : Shared) (H : Hp) (vs : List V) (Q : VK) (E : XK), Room k (A.deeper (envOfC qual (defScope st) s.heap.objs.size f cdv)) → A.guards = some [] → sp vs H Q E →
      ∃ t, PSs (cxOf CX P w K mg base N qual (defScope st) f cdv A outer s H E) (defBody st) t ∧ t { nx := fun _ H' => Q .non H', rt := Q } (start N vs) H) : FnG P w K mg base CX (k + 1) f fd ps sp := by
  obtain ⟨oc, od, kV, doc, pm, an, cdv, ct, osl, rfl, lk, hcd⟩ := F.ex
  refine ⟨len, fun A outer s H args us vs Q E hr hg e0 hb r hsp => ?_⟩
  have hl := len _ _ _ _ hsp
  have kin : K.In s.heap := e0.mod.kin.keeps fun b o e => (e0.bs b o e).1
  have nolim : s.heap.NoLimit := e0.mod.nolimit.keeps fun b o e => (e0.bs b o e).1
  have knd : ∀ y ∈ ps.zip us, (defScope st).names.lookup y.1 = some .local ∨ ((defScope st).names.lookup y.1 = some .cell ∧ ((cellsFrom (s.heap.objs.size + 1) (defScope st).names []).lookup y.1).isSome = true) := by
    rintro ⟨n, v⟩ hy
    refine (S.par n (List.of_mem_zip hy).1).imp id fun q => ⟨q, PySem.W.cellsFrom_some _ _ _ (.inl q)⟩
  refine codeAny_call_function hr.depth (kin _ _ lk) rfl S.co S.gen rfl (PySem.W.codeRec_of kin hcd) (hb _ _ _ _ (wpAny_newFunctionEnv_cells S.kind knd fun env he s1 x => ?_))
  subst he
  refine ⟨nolim.keeps x.toInCall.keep, codeAny_func ?_⟩
  obtain ⟨t, ht, hq⟩ := hbody cdv A outer s H vs Q E (hr.deeper _) hg hsp
  have I := inv_start (CX := CX) (E := E) S hr.hd e0 hl r x
  refine wpAny_mono (ht.run [] s1 (start N vs) H _ I hq) (fun fl s' hs => ?_) fun e s' hs => hs
  have fin : ∀ {σ' : L2.St} {H' : Hp} {v : V} {u : Value}, Inv (cxOf CX P w K mg base N qual (defScope st) f cdv A outer s H E) [] σ' H' s' → RelV v u → Q v H' → CE outer P w H s Q u s' :=
    fun {σ' H' v u} J rv q => ⟨v, H', J.os, J.bare, J.base, J.hok, rv, q⟩
  cases fl with
  | ret u =>
    obtain ⟨v, σ', H', J, rv, q⟩ := hs
    exact fin J rv q
  | next =>
    obtain ⟨σ', H', J, q⟩ := hs
    exact fin (v := V.non) (u := Value.none) J rfl q
  | brk =>
    obtain ⟨_, _, _, q⟩ := hs
    exact False.elim q
  | cont =>
    obtain ⟨_, _, _, q⟩ := hs
    exact False.elim q
/-- .. of a def that nothing leaves -/
theorem Fun.okG {x qual : Str} {st : Stmt} {f : Addr} {fd : FuncData} {N ps : List Str} {k : Nat} {sp : Sp} (F : Fun K x qual st f fd) (S : FnScope N ps (defScope st)) (len : ∀ vs H Q E, sp vs H Q E → vs.length = ps.length)
    (hbody : ∀ (cdv : Value) (A : Around) (outer : List Env) (s : Shared) (H : Hp) (vs : List V) (Q : VK) (E : XK), Room k (A.deeper (envOfC qual (defScope st) s.heap.objs.size f cdv)) → A.guards = some [] → sp vs H Q E →
      ∃ t, PSs (cxOf CX0 P w K mg base N qual (defScope st) f cdv A outer s H E).nox (defBody st) t ∧ t { nx := fun _ H' => Q .non H', rt := Q } (start N vs) H) : FnG P w K mg base CX0 (k + 1) f fd ps sp :=
  funG (CX := CX0) F S len fun cdv A outer s H vs Q E hr hg h => let ⟨t, h1, q⟩ := hbody cdv A outer s H vs Q E hr hg h; ⟨t, h1.nox, q⟩
end
section
variable {X : Cx} {CX : CXT} {k : Nat} {f : Addr} {fd : FuncData} {ps : List Str} {sp : Sp} {dvs : List V} {ds : List Value} {E : XK} {x : Str} {p pos : Pos} {e : Expr} {es : List Expr} {t : TA}
theorem run_fnG {pins : List (Addr × Obj)} {σ : L2.St} {H : Hp} {s : Shared} {Q : VK} {us : List Value} {vs : List V} (F : FnG X.prog X.w X.K X.mg X.base CX k f fd ps sp) (hr : Room k X.A) (hgu : X.A.guards = some []) (hb : Binds X.K fd ps ds) (hd : Vals dvs ds) (hx : Passes CX X E)
    (I : Inv X pins σ H s) (r : Vals vs us) (h : sp (vs ++ dvs) H Q E) : wpAny (model X.prog X.w) X.A (call (.ref f) us) (EP X pins σ Q) X.xe s := by
  have r2 : Vals (vs ++ dvs) (us ++ ds) := r.append hd
  have hl : (us ++ ds).length = ps.length := by rw [← r2.length]; exact F.len _ _ _ _ h
  refine wpAny_call (codeAny_mono (F.run X.A X.stack s H ⟨us, []⟩ (us ++ ds) (vs ++ dvs) Q E hr hgu I.env0 (hb s us I.kIn hl) r2 h) fun r s' hq => ?_)
  cases r with
  | error e => exact hx pins σ H s e s' I hq
  | ok fl =>
    cases fl with
    | ret u => exact I.after hq
    | next => exact False.elim hq
    | brk => exact False.elim hq
    | cont => exact False.elim hq
theorem pe_callG (F : FnG X.prog X.w X.K X.mg X.base CX k f fd ps sp) (hgu : X.A.guards = some []) (hr : Room k X.A) (hg : Gl X x) (hm : X.mg x = some (.ref f)) (hk : PySem.W.keepIn X.K (.ref f) = true) (hb : Binds X.K fd ps ds) (hd : Vals dvs ds) (hx : Passes CX X E)
    (ha : PA X (e :: es) t) (hdb : (x == ("__debug__" : Str)) = false := by decide) (he : starEach (e :: es) X.env = (false, eval e X.env) :: starEach es X.env := by rfl) (hpl : (backTo pos (starEach es X.env)).any (·.1) = false := by rfl) :
    PE X (.Call (.Name x p) (e :: es) [] pos) (tCall sp dvs E t) := by
  refine ⟨fun pins s σ H Q I h => ?_⟩
  refine wpAny_Call_Name_kw (ld_glob I hg hm ?_ hdb)
  refine PySem.W.callWith_K (h₀ := X.base) I.ok.mod.kin hk (thn (ha.run pos pins s σ H _ I h) fun us s1 ⟨vs, H1, I1, r, q⟩ => ⟨I1.kIn, ?_⟩) he hpl
  exact run_fnG F hr hgu hb hd hx I1 r q
end
/-! ### a method of one of several classes, that may raise, within try -/
section
variable {X : Cx} {ι : Type} {C f : ι → Addr} {fd : ι → FuncData} {sp : ι → Sp} {o e : Expr} {es : List Expr} {m : Str} {ta : TE} {t : TA} {CX : CXT} {k : Nat} {ps : List Str} {E : L2.St → XK} {apos pos : Pos}
def tMethIS (C : ι → Addr) (m : Str) (sp : ι → Sp) (E : L2.St → XK) (ta : TE) (t : TA) : TE := fun σ H Q => ta σ H fun x H1 => ∃ i a dx fs, x = .ref a ∧ H1 a = some (.ins (C i) dx fs) ∧ fs.lookup m = none ∧
  t σ H1 fun vs H2 => sp i (x :: vs) H2 Q (E σ)
theorem pe_methIS {pl : Sem Bool} (he : PE X o ta) (c : ∀ i, Cls X.K (C i)) (hm : ∀ i, Meth X.K (C i) m (f i)) (F : ∀ i, FnOk X.prog X.w X.K X.mg X.base CX k (f i) (fd i) ps (sp i)) (hr : Room k X.A) (hb : ∀ i, Binds X.K (fd i) ps []) (hx : ∀ σ, PassesAt CX X σ (E σ)) (ha : PA X (e :: es) t)
    (hst : starEach (e :: es) X.env = (false, eval e X.env) :: starEach es X.env := by rfl) (hpl : (backTo pos (starEach es X.env)).any (·.1) = false := by rfl)
    (ht : eval (.Call (.Attribute o m apos) (e :: es) [] pos) X.env = (do
      let ov ← eval o X.env
      standAt apos.atName
      let (f, first) ← holding [ov] (getMethod ov m pl)
      callWith pos f first (backTo pos (starEach (e :: es) X.env)) (backToKw pos (keywordEach [] X.env))) := by rfl) :
    PE X (.Call (.Attribute o m apos) (e :: es) [] pos) (tMethIS C m sp E ta t) := by
  refine ⟨fun pins s σ H Q I h => ?_⟩
  refine PySem.W.methodCall_KW (pl := pl) (thn (he.run pins s σ H _ I h) fun u s1 ⟨x, H1, I1, rx, i, a, dx, fs, ex, ea, l, q⟩ => ?_) ht
  subst ex
  obtain rfl : u = Value.ref a := rx
  refine getmeth_ok I1 ea (c i) (hm i) l ?_
  refine PySem.W.callWith_K (first := [.ref a]) (h₀ := X.base) I.ok.mod.kin (hm i).kp (thn (ha.run pos pins s1 σ H1 _ I1 q) fun us s2 ⟨vs, H2, I2, r, q2⟩ => ⟨I2.kIn, ?_⟩) hst hpl
  exact run_fnS (us := .ref a :: us) (vs := .ref a :: vs) (F i) hr (hb i) (hx σ) I2 (.cons rfl r) q2
end
/-- as L2.walk_ofE, of a law's def that is called where no repr is under way -/
theorem walk_ofGE {l : PySem.W.OpenLaw} {n : Nat} {q : Program} {loose : List Str} {XP : (Str → Option Value) → Heap → Prop} {YP : World → Heap → Prop} {d : DefRec} {x : Str}
    (hn : l.most = some n) (hn2 : n ≤ sizeLine) (hdf : d.params.defaults = [])
    (F : ∀ (w : World) (mg : Str → Option Value) (fa : Addr) (h : Heap), YP w h → h.Ns mainGlobals mg → mg d.name = some (.ref fa) →
      ∃ (K : PySem.W.Frag) (fd : FuncData) (sp : Sp), K.In h ∧ (∀ (s : Shared) (u : Value), BindsTo s fd ⟨[u], []⟩ [(x, u)]) ∧
        (∀ (H : Hp) (a : Addr) (ns : List Int), ns.length ≤ n → True → SqL K H a (ns.map V.int) → sp [.ref a] H (fun v _ => v = .bl true) E0) ∧
        ∀ base : Heap, K.In base → base.Ns mainGlobals mg → LawOk l.prog w K mg base fa fd [x] sp) :
    PySem.W.WalkO q loose XP YP l.row.toRowW d [] (fun f vs => PySem.call f vs) := by
  refine Att.attach_call hn hdf fun w s₀ s₁ mg mb fa o pm cd doc a vs ns G Y ho hd hcd hmg hobj hints hlen hg => ?_
  obtain ⟨K, fd, sp, KX, hb, hsp, hF⟩ := F w mg fa _ Y G.T.g hmg
  exact law_callG KX G.T.g G.T.b G.T.builtins G.T.nolimit hg hobj hints (Nat.le_trans hlen hn2) hF hb fun H hS => hsp H a ns hlen trivial hS
end Wn

set_option maxHeartbeats 800000
namespace Wn
open PySem L2
/-! ### the three nets: roads, a ground without letters, a world without rooms -/
def C3 (c : Gc) (u : Wc) : Fin 3 → Addr
  | 0 => c.R
  | 1 => c.G
  | 2 => u.W
def fall3 (K : PySem.W.Frag) (c : Gc) (u : Wc) (CN CS : Addr) : Fin 3 → Sp
  | 0 => spFall K c.R CN CS
  | 1 => spFallGX K c CN CS
  | 2 => spWFallX K c u CN CS
def rise3 (K : PySem.W.Frag) (c : Gc) (u : Wc) (CN CS : Addr) : Fin 3 → Sp
  | 0 => spRise K c.R CN CS
  | 1 => spRiseGX K c CN CS
  | 2 => spWRiseX K c u CN CS
def wfeet (a : Wa) (A : Ga) (G : Gd) : List Addr := [a.w, a.n, a.kr, a.kg, a.lr, a.bo, a.br] ++ A.foot G
def NetI (K : PySem.W.Frag) (c : Gc) (u : Wc) (r : Addr) (L : Lan) (k : Nat) (H : Hp) (M : List Addr) : Fin 3 → Prop
  | 0 => ∃ fa, M = [r, fa] ∧ RoadsAt K c.R H r fa L
  | 1 => ∃ A G, A.g = r ∧ M = A.foot G ∧ GroundAt K c H A G ∧ Emp G ∧ G.L = L
  | 2 => ∃ a A G s, a.w = r ∧ M = wfeet a A G ∧ W0At K c u H a A G s 0 ∧ Emp G ∧ G.L = L ∧ s ≤ k
section
variable {K : PySem.W.Frag} {c : Gc} {u : Wc} {r : Addr} {L : Lan} {k : Nat} {H H' : Hp} {M M' : List Addr} {i : Fin 3} {CN CS : Addr}
theorem NetI.kp (h : NetI K c u r L k H M i) (q : Kp M' H H') (t : TK H H') (n : ∀ x ∈ M, x ∉ M') : NetI K c u r L k H' M i := by
  match i with
  | 0 =>
    obtain ⟨fa, rfl, h⟩ := h
    exact ⟨fa, rfl, h.kp q t (n _ (by simp)) (n _ (by simp))⟩
  | 1 =>
    obtain ⟨A, G, e, rfl, h, e0, eL⟩ := h
    exact ⟨A, G, e, rfl, h.kp q t n, e0, eL⟩
  | 2 =>
    obtain ⟨a, A, G, s, e, rfl, h, e0, eL, hs⟩ := h
    exact ⟨a, A, G, s, e, rfl, ⟨q _ _ (n _ (by simp [wfeet])) h.w, q _ _ (n _ (by simp [wfeet])) h.n, q _ _ (n _ (by simp [wfeet])) h.kr, q _ _ (n _ (by simp [wfeet])) h.kg, q _ _ (n _ (by simp [wfeet])) h.lr, q _ _ (n _ (by simp [wfeet])) h.bo, q _ _ (n _ (by simp [wfeet])) h.br, h.g.kp q t (fun x hx => n x (List.mem_append_right _ hx)), h.d⟩, e0, eL, hs⟩
theorem NetI.same (h : NetI K c u r L k H M i) (s : Same H H') : NetI K c u r L k H' M i := h.kp (M' := []) (Kp.of s) (TK.of s) fun _ _ => nin0
theorem NetI.mono {k' : Nat} (h : NetI K c u r L k H M i) (q : k ≤ k') : NetI K c u r L k' H M i := by
  match i with
  | 0 => exact h
  | 1 => exact h
  | 2 =>
    obtain ⟨a, A, G, s, e, e1, h, e0, eL, hs⟩ := h
    exact ⟨a, A, G, s, e, e1, h, e0, eL, by omega⟩
theorem NetI.taken (h : NetI K c u r L k H M i) : ∀ x ∈ M, H x ≠ none := by
  match i with
  | 0 =>
    obtain ⟨fa, rfl, h⟩ := h
    obtain ⟨⟨dx, fs, h1⟩, kv, h2⟩ := h.at
    intro x hx e
    simp only [List.mem_cons, List.not_mem_nil, or_false] at hx
    rcases hx with rfl | rfl
    · rw [h1] at e; cases e
    · rw [h2] at e; cases e
  | 1 =>
    obtain ⟨A, G, e, rfl, h, e0, eL⟩ := h
    intro x hx e
    obtain ⟨o, z⟩ := h.taken x hx
    rw [z] at e; cases e
  | 2 =>
    obtain ⟨a, A, G, s, e, rfl, h, e0, eL, hs⟩ := h
    intro x hx n
    rcases List.mem_append.mp hx with z | z
    · simp only [List.mem_cons, List.not_mem_nil, or_false] at z
      rcases z with rfl | rfl | rfl | rfl | rfl | rfl | rfl
      · rw [h.w] at n; cases n
      · rw [h.n] at n; cases n
      · rw [h.kr] at n; cases n
      · rw [h.kg] at n; cases n
      · rw [h.lr] at n; cases n
      · rw [h.bo] at n; cases n
      · rw [h.br] at n; cases n
    · obtain ⟨o, e⟩ := h.g.taken x z
      rw [e] at n; cases n
theorem NetI.ins (h : NetI K c u r L k H M i) : ∃ dx fs, H r = some (.ins (C3 c u i) dx fs) ∧ fs.lookup ("fall" : Str) = none ∧ fs.lookup ("rise" : Str) = none := by
  match i with
  | 0 =>
    obtain ⟨fa, _, ⟨dx, la, h, _⟩, _⟩ := h
    exact ⟨dx, _, h, rfl, rfl⟩
  | 1 =>
    obtain ⟨A, G, e, _, h, _⟩ := h
    subst e
    exact ⟨A.dx, _, h.o, rfl, rfl⟩
  | 2 =>
    obtain ⟨a, A, G, s, e, _, h, _⟩ := h
    subst e
    exact ⟨a.wd, _, h.w, rfl, rfl⟩
theorem NetI.ok (h : NetI K c u r L k H M i) : RdsOk L.m L.rs := by
  match i with
  | 0 =>
    obtain ⟨fa, _, _, _, h, _⟩ := h
    exact h
  | 1 =>
    obtain ⟨A, G, e, _, h, _, eL⟩ := h
    obtain ⟨_, _, z, _⟩ := h.R
    rw [← eL]
    exact z
  | 2 =>
    obtain ⟨a, A, G, s, e, _, h, _, eL, _⟩ := h
    obtain ⟨_, _, z, _⟩ := h.g.R
    rw [← eL]
    exact z
theorem foot_L {A : Ga} {G : Gd} {L : Lan} : A.foot { G with L := L } = A.foot G := rfl
theorem NetI.fall {x y : V} {px py : PyData} {Q : VK} {E : XK} (h : NetI K c u r L k H M i) (hk : k < 300) (hx : Dp K H x px) (hy : Dp K H y py)
    (h1 : ∀ p H' M', pairD L.rs px py = some p → p ∉ L.fallen → Kp M H H' → NetI K c u r (movedL L true p) (k + 1) H' M' i → (∀ a ∈ M', a ∈ M ∨ H a = none) → Q .non H')
    (h2 : ∀ p H', pairD L.rs px py = some p → p ∈ L.fallen → Same H H' → E (.ref CS) none H')
    (h3 : ∀ H' d, pairD L.rs px py = none → Same H H' → H d = none → H' d = some (.xd [("b", y), ("a", x)]) → E (.ref CN) (some d) H') : fall3 K c u CN CS i [.ref r, x, y] H Q E := by
  have ep : pairV L.rs x y = pairD L.rs px py := pairV_D hx hy
  match i with
  | 0 =>
    obtain ⟨fa, rfl, R⟩ := h
    refine ⟨r, fa, L, x, y, rfl, R, Th.dp hx, Th.dp hy, fun p H' e n q R' => h1 p H' [r, fa] (ep ▸ e) n (fun b o hb => q b o (nin1 fun z => hb (by simp [z]))) ⟨fa, rfl, R'⟩ (fun a ha => .inl ha), fun p H' e n s => h2 p H' (ep ▸ e) n s, fun H' d e s nd hd => h3 H' d (ep ▸ e) s nd hd⟩
  | 1 =>
    obtain ⟨A, G, rfl, rfl, g, e0, rfl⟩ := h
    refine ⟨A, G, x, y, rfl, g, e0, Th.dp hx, Th.dp hy, fun p H' A' e n q => h1 p H' (A'.foot (fallG G p)) (ep ▸ e) n (fun b o hb z => q.kp b o (by rw [List.nil_append]; exact hb) z) ⟨A', fallG G p, q.g, rfl, q.at', ⟨e0.mov, e0.pil, e0.run, e0.lost⟩, rfl⟩ (fun a ha => by have := q.sub a ha; rwa [List.nil_append] at this), fun p H' e n s => h2 p H' (ep ▸ e) n s, fun H' d e s nd hd => h3 H' d (ep ▸ e) s nd hd⟩
  | 2 =>
    obtain ⟨a, A, G, s, rfl, rfl, W, e0, rfl, hs⟩ := h
    refine ⟨a, A, G, s, x, y, rfl, W, e0, by omega, Th.dp hx, Th.dp hy, fun p H' A' e n q => h1 p H' (wfeet a A' (fallG G p)) (ep ▸ e) n (fun b o hb z => q.kp b o (fun z' => hb (List.mem_append_left _ (by simp only [List.mem_cons, List.not_mem_nil, or_false] at z' ⊢; rcases z' with z' | z' <;> simp [z']))) (fun z' => hb (List.mem_append_right _ z')) z)
      ⟨a, A', fallG G p, s + 1, rfl, rfl, q.at', ⟨e0.mov, e0.pil, e0.run, e0.lost⟩, rfl, by omega⟩ (fun b hb => ?_), fun p H' e n s => h2 p H' (ep ▸ e) n s, fun H' d e s nd hd => h3 H' d (ep ▸ e) s nd hd⟩
    rcases List.mem_append.mp hb with z | z
    · exact .inl (List.mem_append_left _ z)
    · exact (q.sub b z).imp (List.mem_append_right _) id
theorem NetI.rise {x y : V} {px py : PyData} {Q : VK} {E : XK} (h : NetI K c u r L k H M i) (hk : k < 300) (hx : Dp K H x px) (hy : Dp K H y py)
    (h1 : ∀ p H' M', pairD L.rs px py = some p → p ∈ L.fallen → Kp M H H' → NetI K c u r (movedL L false p) (k + 1) H' M' i → (∀ a ∈ M', a ∈ M ∨ H a = none) → Q .non H')
    (h2 : ∀ p H', pairD L.rs px py = some p → p ∉ L.fallen → Same H H' → E (.ref CS) none H')
    (h3 : ∀ H' d, pairD L.rs px py = none → Same H H' → H d = none → H' d = some (.xd [("b", y), ("a", x)]) → E (.ref CN) (some d) H') : rise3 K c u CN CS i [.ref r, x, y] H Q E := by
  have ep : pairV L.rs x y = pairD L.rs px py := pairV_D hx hy
  match i with
  | 0 =>
    obtain ⟨fa, rfl, R⟩ := h
    refine ⟨r, fa, L, x, y, rfl, R, Th.dp hx, Th.dp hy, fun p H' e n q R' => h1 p H' [r, fa] (ep ▸ e) n (fun b o hb => q b o (nin1 fun z => hb (by simp [z]))) ⟨fa, rfl, R'⟩ (fun a ha => .inl ha), fun p H' e n s => h2 p H' (ep ▸ e) n s, fun H' d e s nd hd => h3 H' d (ep ▸ e) s nd hd⟩
  | 1 =>
    obtain ⟨A, G, rfl, rfl, g, e0, rfl⟩ := h
    refine ⟨A, G, x, y, rfl, g, Th.dp hx, Th.dp hy, fun p H' A' e n q => h1 p H' (A'.foot (riseG G p)) (ep ▸ e) n (fun b o hb z => q.kp b o (by rw [List.nil_append]; exact hb) z) ⟨A', riseG G p, q.g, rfl, q.at', ⟨e0.mov, e0.pil, e0.run, e0.lost⟩, rfl⟩ (fun a ha => by have := q.sub a ha; rwa [List.nil_append] at this), fun p H' e n s => h2 p H' (ep ▸ e) n s, fun H' d e s nd hd => h3 H' d (ep ▸ e) s nd hd⟩
  | 2 =>
    obtain ⟨a, A, G, s, rfl, rfl, W, e0, rfl, hs⟩ := h
    refine ⟨a, A, G, s, x, y, rfl, W, by omega, Th.dp hx, Th.dp hy, fun p H' A' e n q => h1 p H' (wfeet a A' (riseG G p)) (ep ▸ e) n (fun b o hb z => q.kp b o (fun z' => hb (List.mem_append_left _ (by simp only [List.mem_cons, List.not_mem_nil, or_false] at z' ⊢; rcases z' with z' | z' <;> simp [z']))) (fun z' => hb (List.mem_append_right _ z')) z)
      ⟨a, A', riseG G p, s + 1, rfl, rfl, q.at', ⟨e0.mov, e0.pil, e0.run, e0.lost⟩, rfl, by omega⟩ (fun b hb => ?_), fun p H' e n s => h2 p H' (ep ▸ e) n s, fun H' d e s nd hd => h3 H' d (ep ▸ e) s nd hd⟩
    rcases List.mem_append.mp hb with z | z
    · exact .inl (List.mem_append_left _ z)
    · exact (q.sub b z).imp (List.mem_append_right _) id
end
/-- what callers know of a method of three classes -/
def MdI (P : Program) (w : World) (K : PySem.W.Frag) (mg : Str → Option Value) (base : Heap) (k : Nat) (C : Fin 3 → Addr) (name : Str) (ps : List Str) (sp : Fin 3 → Sp) : Prop :=
  ∃ (f : Fin 3 → Addr) (fd : Fin 3 → FuncData), (∀ i, FnOk P w K mg base (L2.CX P w) k (f i) (fd i) ps (sp i)) ∧ (∀ i, Meth K (C i) name (f i)) ∧ ∀ i, Binds K (fd i) ps []
theorem MdI.of {P : Program} {w : World} {K : PySem.W.Frag} {mg : Str → Option Value} {base : Heap} {k j0 j1 j2 : Nat} {C : Fin 3 → Addr} {name : Str} {ps : List Str} {sp : Fin 3 → Sp} (h0 : MdX P w K mg base j0 (C 0) name ps (sp 0)) (h1 : MdX P w K mg base j1 (C 1) name ps (sp 1)) (h2 : MdX P w K mg base j2 (C 2) name ps (sp 2))
    (q0 : j0 ≤ k) (q1 : j1 ≤ k) (q2 : j2 ≤ k) : MdI P w K mg base k C name ps sp := by
  obtain ⟨f0, d0, a0, b0, c0⟩ := h0
  obtain ⟨f1, d1, a1, b1, c1⟩ := h1
  obtain ⟨f2, d2, a2, b2, c2⟩ := h2
  refine ⟨fun i => match i with | 0 => f0 | 1 => f1 | 2 => f2, fun i => match i with | 0 => d0 | 1 => d1 | 2 => d2, fun i => ?_, fun i => ?_, fun i => ?_⟩
  · match i with
    | 0 => exact a0.mono q0
    | 1 => exact a1.mono q1
    | 2 => exact a2.mono q2
  · match i with
    | 0 => exact b0
    | 1 => exact b1
    | 2 => exact b2
  · match i with
    | 0 => exact c0
    | 1 => exact c1
    | 2 => exact c2
end Wn

set_option maxHeartbeats 800000
namespace Wn
open PySem L2
set_option pp.maxSteps 700
set_option pp.deepTerms false
local macro_rules | `(tactic| walk_at "h") => `(tactic| first | with_reducible assumption | (with_reducible exact upd_same) | (with_reducible apply g_upd; (walk_at "neq"); (walk_at "h")) | (with_reducible apply g_same; (with_reducible assumption); (walk_at "h")) | (with_reducible apply g_kp; (with_reducible assumption); (walk_at "nin"); (walk_at "h")) | (with_reducible apply g_tk; (with_reducible assumption); (walk_at "h")))
local macro_rules | `(tactic| walk_at "neq") => `(tactic| first | with_reducible assumption | (with_reducible apply Ne.symm; with_reducible assumption) | (with_reducible apply ne_upd; (with_reducible assumption)) | (with_reducible apply Ne.symm; with_reducible apply ne_upd; with_reducible assumption) | (with_reducible apply ne_fr; (with_reducible assumption); (walk_at "h")) | (with_reducible apply ne_fr'; (with_reducible assumption); (walk_at "h")) | (with_reducible apply ne_kd; (walk_at "h"); (walk_at "h"); (with_unfolding_all (intro z; cases z))))
local macro_rules | `(tactic| walk_at "nin") => `(tactic| first | (with_reducible exact nin0) | with_reducible assumption | (with_reducible apply ninc; (walk_at "neq"); (walk_at "nin")))
local macro_rules | `(tactic| walk_at "none") => `(tactic| first | with_reducible assumption | (with_reducible apply n_upd; (with_reducible assumption)) | (with_reducible apply n_same; (with_reducible assumption); (walk_at "none")) | (with_reducible apply n_kp; (with_reducible assumption); (walk_at "nin"); (walk_at "none")))
local macro_rules | `(tactic| walk_at "mem") => `(tactic| first | (with_reducible exact List.mem_cons_self) | (with_reducible apply List.mem_cons_of_mem; (walk_at "mem")))
local macro_rules | `(tactic| walk_at "am") => `(tactic| first | (with_reducible exact am0) | (with_reducible apply am1; (first | (apply Or.inl; walk_at "mem") | (apply Or.inr; walk_at "none")); (walk_at "am")))
local macro_rules | `(tactic| walk_at "tk") => `(tactic| first | (with_reducible exact TK.refl _) | with_reducible assumption | (with_reducible apply t_tk; (with_reducible assumption); (walk_at "tk")) | (with_reducible apply t_same; (with_reducible assumption); (walk_at "tk")) | (with_reducible apply t_new; (with_reducible assumption); (walk_at "tk")) | (with_reducible apply t_wr; (walk_at "h"); (with_unfolding_all rfl); (walk_at "tk")))
local macro_rules | `(tactic| walk_at "same") => `(tactic| first | (with_reducible exact L2.Same.refl _) | with_reducible assumption | (with_reducible apply s_same; (with_reducible assumption); (walk_at "same")) | (with_reducible apply s_new; (with_reducible assumption); (walk_at "same")) | (with_reducible apply s_wrn; (walk_at "none"); (walk_at "same")))
local macro_rules | `(tactic| walk_at "kp") => `(tactic| first | (with_reducible exact Kp.refl _ _) | with_reducible assumption | (with_reducible apply k_same; (with_reducible assumption); (walk_at "kp")) | (with_reducible apply k_kp; (with_reducible assumption); (walk_at "kp")) | (with_reducible apply k_kpm; (with_reducible assumption); (walk_at "am"); (walk_at "kp")) | (with_reducible apply k_new; (with_reducible assumption); (walk_at "kp")) | (with_reducible apply k_wr; (walk_at "mem"); (walk_at "kp")) | (with_reducible apply k_wrn; (walk_at "none"); (walk_at "kp")))
local macro_rules | `(tactic| walk_at "rp") => `(tactic| first | with_reducible assumption | (with_reducible exact Rp.int) | (with_reducible exact Rp.str) | (with_reducible exact Rp.none) | (with_reducible exact Rp.bool) | (with_reducible apply Rp.tk'; (with_reducible assumption); (walk_at "tk")) | (with_reducible apply Rp.tup; (walk_at "h"); (walk_at "rpl")))
local macro_rules | `(tactic| walk_at "rpl") => `(tactic| first | with_reducible assumption | (with_reducible exact RpL.nil) | (with_reducible apply RpL.tk'; (with_reducible assumption); (walk_at "tk")) | (with_reducible apply RpL.cons; (walk_at "rp"); (walk_at "rpl")))
local macro_rules | `(tactic| walk_at "g") => `(tactic| repeat (first | refine ⟨_, rfl, ?_⟩ | refine ⟨_, _, rfl, rfl, ?_⟩ | refine ⟨rfl, _, rfl, ?_⟩ | refine ⟨_, _, rfl, rfl, (by first | decide | omega), ?_⟩))
abbrev sDeck : Stmt := top 139
abbrev sDraw : Stmt := top 140
/-- a deck at d: its cells at cs; n draws were taken at most -/
def Deck3 (H : Hp) (d cs : Addr) (n : Int) : Prop :=
  ∃ (a : Int) (xs : List Int), H d = some (.lst [.ref cs, .int a]) ∧ H cs = some (.lst (xs.map V.int)) ∧ 0 ≤ a ∧ a ≤ n ∧ xs.length ≤ 63 ∧ cs ≠ d
def spDraw : Sp := fun vs H Q _ => ∃ (d cs : Addr) (m n : Int), vs = [.ref d, .int m] ∧ 0 < m ∧ m < 1000000000 ∧ n < 2 ^ 48 ∧ Deck3 H d cs n ∧
  ∀ (r : Int) (H' : Hp), 0 ≤ r → r < m → Kp [d, cs] H H' → Deck3 H' d cs (n + 1) → Q (.int r) H'
def spDeck3 (K : PySem.W.Frag) : Sp := fun vs H Q _ => ∃ (a : Addr) (ns : List Int), vs = [.ref a] ∧ SqL K H a (ns.map V.int) ∧ ns.length ≤ 63 ∧
  ∀ (H' : Hp) (d cs : Addr), H d = none → H cs = none → Same H H' → Deck3 H' d cs 0 → Q (.ref d) H'
section
variable {H H' : Hp} {d cs : Addr} {n : Int}
theorem Deck3.kp {M : List Addr} (h : Deck3 H d cs n) (k : Kp M H H') (n1 : d ∉ M) (n2 : cs ∉ M) : Deck3 H' d cs n := by
  obtain ⟨a, xs, h1, h2, r⟩ := h
  exact ⟨a, xs, k _ _ n1 h1, k _ _ n2 h2, r⟩
theorem Deck3.mono {m : Int} (h : Deck3 H d cs n) (hm : n ≤ m) : Deck3 H d cs m := by
  obtain ⟨a, xs, h1, h2, h3, h4, r⟩ := h
  exact ⟨a, xs, h1, h2, h3, by omega, r⟩
theorem Deck3.same (h : Deck3 H d cs n) (s : Same H H') : Deck3 H' d cs n := h.kp (M := []) (Kp.of s) nin0 nin0
theorem Deck3.l1 (h : Deck3 H d cs n) : ∃ zs, H d = some (.lst zs) := by
  obtain ⟨a, xs, h1, h2, r⟩ := h
  exact ⟨_, h1⟩
theorem Deck3.l2 (h : Deck3 H d cs n) : ∃ zs, H cs = some (.lst zs) := by
  obtain ⟨a, xs, h1, h2, r⟩ := h
  exact ⟨_, h2⟩
/-- a new thing is none of the deck's -/
theorem Deck3.new {p : Addr} (h : Deck3 H d cs n) (hp : H p = none) : p ≠ d ∧ p ≠ cs :=
  ⟨(ne_of_none h.l1.choose_spec hp).symm, (ne_of_none h.l2.choose_spec hp).symm⟩
end
theorem atInt {xs : List Int} {r : Int} (h0 : 0 ≤ r) (h1 : r < xs.length) : ∃ x, xs[r.toNat]? = some x ∧ atI (xs.map V.int) r = some (.int x) := by
  have hl : r.toNat < xs.length := by omega
  refine ⟨xs[r.toNat], List.getElem?_eq_getElem hl, ?_⟩
  have e : ((r.toNat : Nat) : Int) = r := by omega
  have := atI_nat (xs := xs.map V.int) (j := r.toNat) (v := .int xs[r.toNat]) (by rw [List.getElem?_map, List.getElem?_eq_getElem hl]; rfl)
  rw [e] at this
  exact this
theorem ixN_at {n : Nat} {r : Int} (h0 : 0 ≤ r) (h1 : r < n) : ixN n r = some r.toNat := by
  unfold ixN
  rw [if_pos h0, if_pos h1]
theorem rpl_ints {K : PySem.W.Frag} {H : Hp} (xs : List Int) : RpL K H (xs.map PyData.int) (xs.map V.int) := by
  induction xs with
  | nil => exact RpL.nil
  | cons n ns ih => exact RpL.cons Rp.int ih

section
variable {P : Program} {w : World} {K : PySem.W.Frag} {mg : Str → Option Value} {base : Heap}
theorem scDraw : FnScope ["_law_deck_here", "_law_many", "_law_cell", "_law_place"] ["_law_deck_here", "_law_many"] (defScope sDraw) := ⟨rfl, rfl, rfl, by decide +kernel, rfl, by decide +kernel, by decide +kernel⟩
theorem ok_draw {f : Addr} {fd : FuncData} (F : Fun K "_law_draw" "_law_draw" sDraw f fd) (mLen : mg "len" = none) : FnOk P w K mg base CX0 1 f fd ["_law_deck_here", "_law_many"] spDraw := by
  refine F.ok scDraw (fun vs H Q E h => ?_) (fun cdv A outer s H vs Q E hr h => ?_)
  · obtain ⟨d, cs, m, n, rfl, _⟩ := h
    rfl
  · obtain ⟨d, cs, m, n, rfl, m0, m1, hn, ⟨a, xs, h1, h2, a0, a1, lx, ncd⟩, k⟩ := h
    refine ⟨_, (pss_cons (ps_asg (pe_op op_add (pe_ix (ixL (K := K) rfl) (pv 0) pe_int (fun _ _ => rfl)) pe_int) (pg_sub (pv 0) pe_int set_list))
       (pss_cons (ps_set (i := 2) scDraw.nd rfl (Or.inl rfl) pe_int)
       (pss_cons (ps_if (pt_cmpR op_gt (pe_callB (lenK (K := K) rfl) (by rfl) mLen PySem.boot_len (pa_cons (pe_ix (ixL (K := K) rfl) (pv 0) pe_int (fun _ _ => rfl)) pa_nil)) pe_int (nomark _))
       (pss_cons (ps_set (i := 3) scDraw.nd rfl (Or.inl rfl) (pe_op op_mod (pe_ix (ixL (K := K) rfl) (pv 0) pe_int (fun _ _ => rfl)) (pe_callB (lenK (K := K) rfl) (by rfl) mLen PySem.boot_len (pa_cons (pe_ix (ixL (K := K) rfl) (pv 0) pe_int (fun _ _ => rfl)) pa_nil))))
       (pss_cons (ps_set (i := 2) scDraw.nd rfl (Or.inl rfl) (pe_ix (ixL (K := K) rfl) (pe_ix (ixL (K := K) rfl) (pv 0) pe_int (fun _ _ => rfl)) (pv 3) (fun _ _ => rfl)))
       (pss_one (ps_if (pt_cmpR op_ge (pv 2) (pe_op op_pow pe_int pe_int) (nomark _))
       (pss_cons (ps_asg (pe_op op_fdiv (pv 2) (pv 1)) (pg_sub (pe_ix (ixL (K := K) rfl) (pv 0) pe_int (fun _ _ => rfl)) (pv 3) set_list))
       (pss_one (ps_ret (pe_op op_mod (pv 2) (pv 1)))))
       pss_nil))))
       pss_nil)
       (pss_one (ps_ret (pe_op op_mod (pe_op op_mod (pe_op op_pow (pe_op op_add (pe_op op_add (pe_op op_mod (pv 2) pe_int) (pe_op op_mul pe_int (pe_ix (ixL (K := K) rfl) (pv 0) pe_int (fun _ _ => rfl)))) pe_int) pe_int) pe_int) (pv 1))))))), ?_⟩
    refine ⟨_, rfl, d, _, _, _, rfl, rfl, SqL.of h1, rfl, _, _, rfl, rfl, _, rfl, d, _, _, 1, rfl, rfl, h1, rfl, ?_⟩
    rw [show [V.ref cs, .int a].set 1 (.int (a + 1)) = [V.ref cs, .int (a + 1)] from rfl]
    obtain ⟨H1, e_H1, k1, t1, g1⟩ := wr_any h1 rfl
    rw [← e_H1]
    clear e_H1
    have g2 : H1 cs = some (.lst (xs.map V.int)) := k1 _ _ (nin1 ncd) h2
    have gk : Kp [d, cs] H H1 := k1.mono fun x hx => List.mem_cons.mpr (.inl (List.mem_singleton.mp hx))
    dsimp only [tNext]
    refine seq_set ?_
    dsimp only [tC, gName, List.set, tNext]
    refine seq_if (fun σ' H' => H' = H1 ∧ ∃ c v3, σ' = [some (.ref d), some (.int m), some (.int c), v3]) ?rest (fun rest => ?_)
    case rest =>
      rintro σ' _ ⟨rfl, c, v3, rfl⟩
      have z0 := Int.emod_nonneg c (show (2147483587 : Int) ≠ 0 by decide)
      have z1 := Int.emod_lt_of_pos c (show (0 : Int) < 2147483587 by decide)
      refine ⟨_, rfl, _, _, rfl, rfl, (by show (0 : Int) < 2147483587; decide), _, rfl, d, _, _, _, rfl, rfl, SqL.of g1, rfl, _, _, rfl, rfl, .inl ⟨by decide, by decide⟩, _, _, rfl, rfl, _, _, rfl, rfl, _, _, rfl, rfl, ⟨by decide, by decide, by omega⟩, _, _, rfl, rfl, (by show (0 : Int) < 2147483647; decide), _, rfl, _, _, rfl, rfl, m0, ?_⟩
      exact k _ _ (Int.emod_nonneg _ (by omega)) (Int.emod_lt_of_pos _ m0) gk ⟨a + 1, xs, g1, g2, by omega, by omega, lx, ncd⟩
    refine ⟨_, rfl, d, _, _, _, rfl, rfl, SqL.of g1, rfl, _, xs.length, rfl, .inl ⟨_, SqL.of g2, (List.length_map _).symm⟩, _, _, rfl, rfl, _, rfl, iteP (fun c => ?_) (fun c => ?_)⟩
    · have lx0 : (0 : Int) < (xs.length : Int) := c
      refine ⟨_, rfl, d, _, _, _, rfl, rfl, SqL.of g1, rfl, _, rfl, d, _, _, _, rfl, rfl, SqL.of g1, rfl, _, xs.length, rfl, .inl ⟨_, SqL.of g2, (List.length_map _).symm⟩, _, _, rfl, rfl, lx0, ?_⟩
      obtain ⟨sp, esp, sp0, sp1⟩ : ∃ sp : Int, (a + 1) % (xs.length : Int) = sp ∧ 0 ≤ sp ∧ sp < xs.length := ⟨_, rfl, Int.emod_nonneg _ (by omega), Int.emod_lt_of_pos _ lx0⟩
      rw [show (fun i j => V.int (i % j)) (a + 1) (xs.length : Int) = V.int sp from congrArg V.int esp]
      obtain ⟨x, ex, ax⟩ := atInt (xs := xs) sp0 sp1
      refine ⟨_, rfl, d, _, _, _, rfl, rfl, SqL.of g1, rfl, _, rfl, cs, _, _, _, rfl, rfl, SqL.of g2, ax, ?_⟩
      refine ⟨_, rfl, _, _, rfl, rfl, ⟨by decide, by decide, by decide⟩, ?_⟩
      refine ⟨_, _, rfl, rfl, _, rfl, iteP (fun c2 => ?_) (fun c2 => ?_)⟩
      · refine ⟨_, rfl, _, rfl, _, _, rfl, rfl, ⟨m0, by omega⟩, _, rfl, d, _, _, _, rfl, rfl, SqL.of g1, rfl, _, rfl, cs, _, _, sp.toNat, rfl, rfl, g2, ixN_at sp0 (by rw [List.length_map]; exact sp1), ?_⟩
        rw [← List.map_set (f := V.int)]
        obtain ⟨H2, e_H2, k2, t2, g3⟩ := wr_any g2 rfl
        rw [← e_H2]
        clear e_H2
        have g4 : H2 d = some (.lst [.ref cs, .int (a + 1)]) := k2 _ _ (nin1 ncd.symm) g1
        refine ⟨_, rfl, _, rfl, _, _, rfl, rfl, m0, ?_⟩
        exact k _ _ (Int.emod_nonneg _ (by omega)) (Int.emod_lt_of_pos _ m0) (by walk_at "kp") ⟨a + 1, _, g4, g3, by omega, by omega, by rw [List.length_set]; exact lx, ncd⟩
      · exact rest _ _ ⟨rfl, x, _, rfl⟩
    · exact rest _ _ ⟨rfl, 0, _, rfl⟩
theorem scDeck : FnScope ["_law_script", "_law_cell"] ["_law_script"] (defScope sDeck) := ⟨rfl, rfl, rfl, by decide +kernel, rfl, by decide +kernel, by decide +kernel⟩
theorem ok_deck3 {f : Addr} {fd : FuncData} (F : Fun K "_law_deck" "_law_deck" sDeck f fd) (mAbs : mg "abs" = none) : FnOk P w K mg base CX0 1 f fd ["_law_script"] (spDeck3 K) := by
  refine F.ok scDeck (fun vs H Q E h => ?_) (fun cdv A outer s H vs Q E hr h => ?_)
  · obtain ⟨a, ns, rfl, _⟩ := h
    rfl
  · obtain ⟨a, ns, rfl, hS, hl, k⟩ := h
    refine ⟨_, (pss_one (ps_ret (pe_lst (pa_cons (pe_lc (own := [("_law_cell", 1)]) (g := (gName 1)) (tt := tYes) rfl scDeck.nd (pi_list (pe_slice (slL (K := K) rfl) (pv 0) po_none (po_some pe_int))) (blkOk_by (N := ["_law_script", "_law_cell"]) (sc := defScope sDeck) (by decide +kernel))
       (fun _ _ _ _ _ => (pg_name (i := 1) scDeck.nd rfl (Or.inl rfl))) (fun _ _ _ _ _ => pts_nil) (fun _ _ _ _ _ => (pe_callB call_abs (by rfl) mAbs (by decide +kernel) (pa_cons (pv 1) pa_nil)))) (pa_cons pe_int pa_nil))))), ?_⟩
    refine ⟨_, rfl, _, rfl, a, _, rfl, hS, fun l1 n_l1 => ?_⟩
    have ems : cutV (ns.map V.int) none (some 63) = ns.map V.int := by
      unfold cutV
      have e : HT.sIx (ns.map V.int).length (ns.map V.int).length (some 63) = min 63 (ns.map V.int).length := HT.sIx_nat _ _ 63
      rw [e, HT.sIx_none, List.drop_zero, Nat.sub_zero, List.length_map, Nat.min_eq_right hl]
      exact List.take_of_length_le (by rw [List.length_map]; exact Nat.le_refl _)
    rw [ems]
    obtain ⟨H1, e_H1, s1, e1⟩ := new_any n_l1
    rw [← e_H1]
    clear e_H1
    refine ⟨l1, rfl, ⟨_, SqL.of e1⟩, fun cs n_cs => ?_⟩
    refine mapI_lc (K := K) (i := 1) (enc := PyData.int) (fun x => if x < 0 then -x else x) e1 (rpl_ints ns) n_cs (by omega) ?_ ?_
    · intro b x H' Q' hb rx s' hQ
      have ex := Rp.int_eq rx
      subst ex
      exact ⟨_, rfl, _, rfl, hQ⟩
    · intro H2 s2 e2
      refine ⟨(by show 2 ≤ sizeLine; decide), fun d n_d => ?_⟩
      obtain ⟨H3, e_H3, s3, e3⟩ := new_any n_d
      rw [← e_H3]
      clear e_H3
      exact k _ d cs (by walk_at "none") (by walk_at "none") (by walk_at "same") ⟨0, _, e3, s3 _ _ e2, by omega, by omega, by rw [List.length_map]; exact hl, by walk_at "neq"⟩
end
end Wn

set_option maxHeartbeats 800000
namespace Wn
open PySem L2
set_option pp.maxSteps 700
set_option pp.deepTerms false
local macro_rules | `(tactic| walk_at "h") => `(tactic| first | with_reducible assumption | (with_reducible exact upd_same) | (with_reducible apply g_upd; (walk_at "neq"); (walk_at "h")) | (with_reducible apply g_same; (with_reducible assumption); (walk_at "h")) | (with_reducible apply g_kp; (with_reducible assumption); (walk_at "nin"); (walk_at "h")) | (with_reducible apply g_tk; (with_reducible assumption); (walk_at "h")))
local macro_rules | `(tactic| walk_at "neq") => `(tactic| first | with_reducible assumption | (with_reducible apply Ne.symm; with_reducible assumption) | (with_reducible apply ne_upd; (with_reducible assumption)) | (with_reducible apply Ne.symm; with_reducible apply ne_upd; with_reducible assumption) | (with_reducible apply ne_fr; (with_reducible assumption); (walk_at "h")) | (with_reducible apply ne_fr'; (with_reducible assumption); (walk_at "h")) | (with_reducible apply ne_kd; (walk_at "h"); (walk_at "h"); (with_unfolding_all (intro z; cases z))))
local macro_rules | `(tactic| walk_at "nin") => `(tactic| first | (with_reducible exact nin0) | with_reducible assumption | (with_reducible apply ninc; (walk_at "neq"); (walk_at "nin")))
local macro_rules | `(tactic| walk_at "none") => `(tactic| first | with_reducible assumption | (with_reducible apply n_upd; (with_reducible assumption)) | (with_reducible apply n_same; (with_reducible assumption); (walk_at "none")) | (with_reducible apply n_kp; (with_reducible assumption); (walk_at "nin"); (walk_at "none")))
local macro_rules | `(tactic| walk_at "mem") => `(tactic| first | (with_reducible exact List.mem_cons_self) | (with_reducible apply List.mem_cons_of_mem; (walk_at "mem")))
local macro_rules | `(tactic| walk_at "am") => `(tactic| first | (with_reducible exact am0) | (with_reducible apply am1; (first | (apply Or.inl; walk_at "mem") | (apply Or.inr; walk_at "none")); (walk_at "am")))
local macro_rules | `(tactic| walk_at "tk") => `(tactic| first | (with_reducible exact TK.refl _) | with_reducible assumption | (with_reducible apply t_tk; (with_reducible assumption); (walk_at "tk")) | (with_reducible apply t_same; (with_reducible assumption); (walk_at "tk")) | (with_reducible apply t_new; (with_reducible assumption); (walk_at "tk")) | (with_reducible apply t_wr; (walk_at "h"); (with_unfolding_all rfl); (walk_at "tk")))
local macro_rules | `(tactic| walk_at "same") => `(tactic| first | (with_reducible exact L2.Same.refl _) | with_reducible assumption | (with_reducible apply s_same; (with_reducible assumption); (walk_at "same")) | (with_reducible apply s_new; (with_reducible assumption); (walk_at "same")) | (with_reducible apply s_wrn; (walk_at "none"); (walk_at "same")))
local macro_rules | `(tactic| walk_at "kp") => `(tactic| first | (with_reducible exact Kp.refl _ _) | with_reducible assumption | (with_reducible apply k_same; (with_reducible assumption); (walk_at "kp")) | (with_reducible apply k_kp; (with_reducible assumption); (walk_at "kp")) | (with_reducible apply k_kpm; (with_reducible assumption); (walk_at "am"); (walk_at "kp")) | (with_reducible apply k_new; (with_reducible assumption); (walk_at "kp")) | (with_reducible apply k_wr; (walk_at "mem"); (walk_at "kp")) | (with_reducible apply k_wrn; (walk_at "none"); (walk_at "kp")))
local macro_rules | `(tactic| walk_at "rp") => `(tactic| first | with_reducible assumption | (with_reducible exact Rp.int) | (with_reducible exact Rp.str) | (with_reducible exact Rp.none) | (with_reducible exact Rp.bool) | (with_reducible apply Rp.tk'; (with_reducible assumption); (walk_at "tk")) | (with_reducible apply Rp.tup; (walk_at "h"); (walk_at "rpl")))
local macro_rules | `(tactic| walk_at "rpl") => `(tactic| first | with_reducible assumption | (with_reducible exact RpL.nil) | (with_reducible apply RpL.tk'; (with_reducible assumption); (walk_at "tk")) | (with_reducible apply RpL.cons; (walk_at "rp"); (walk_at "rpl")))
local macro_rules | `(tactic| walk_at "g") => `(tactic| repeat (first | refine ⟨_, rfl, ?_⟩ | refine ⟨_, _, rfl, rfl, ?_⟩ | refine ⟨rfl, _, rfl, ?_⟩ | refine ⟨_, _, rfl, rfl, (by first | decide | omega), ?_⟩))
abbrev sLRoads : Stmt := top 141
structure LRB (mg : Str → Option Value) : Prop where
  range : mg "range" = none
  len : mg "len" = none
  tuple : mg "tuple" = none
def spLRoads (K : PySem.W.Frag) : Sp := fun vs H Q _ => ∃ (d cs : Addr) (n : Int) (m : Nat), vs = [.ref d, .int m] ∧ Deck3 H d cs n ∧ n < 2 ^ 47 ∧ 1 ≤ m ∧ m ≤ 8 ∧
  ∀ (H' : Hp) (a : Addr) (rs : List Rd), TupAt K H' a (rs.map rdD) → RdsOk m rs → Kp [d, cs] H H' → Deck3 H' d cs (n + 400) → Q (.ref a) H'

section
variable {P : Program} {w : World} {K : PySem.W.Frag} {mg : Str → Option Value} {base : Heap}
theorem scLRoads : FnScope ["_law_deck_here", "_law_houses", "_law_found", "_law_dense", "_law_a", "_law_b", "_law_often", "_law_size"] ["_law_deck_here", "_law_houses"] (defScope sLRoads) := ⟨rfl, rfl, rfl, by decide +kernel, rfl, by decide +kernel, by decide +kernel⟩
theorem ok_lroads {f : Addr} {fd : FuncData} (F : Fun K "_law_roads" "_law_roads" sLRoads f fd) (B : LRB mg) (cR : Cd P w K mg base 1 "_law_draw" ["_law_deck_here", "_law_many"] spDraw) : FnOk P w K mg base CX0 2 f fd ["_law_deck_here", "_law_houses"] (spLRoads K) := by
  obtain ⟨fR, fdR, GR, mR, kR, bR⟩ := cR.tk
  refine F.ok scLRoads (fun vs H Q E h => ?_) (fun cdv A outer s H vs Q E hr h => ?_)
  · obtain ⟨d, cs, n, m, rfl, _⟩ := h
    rfl
  · obtain ⟨d, cs, n, m, rfl, D0, hn, m1, m8, k⟩ := h
    have hr1 : Room 1 _ := hr
    refine ⟨_, (pss_cons (ps_set (i := 2) scLRoads.nd rfl (Or.inl rfl) (pe_lst pa_nil))
       (pss_cons (ps_set (i := 3) scLRoads.nd rfl (Or.inl rfl) (pe_op op_add pe_int (pe_call GR hr1 rfl mR kR bR .nil pass0 (pa_cons (pv 0) (pa_cons pe_int pa_nil)))))
       (pss_cons (ps_for PassesOwn.never rfl (pi_range1 rfl B.range (pa_cons (pv 1) pa_nil)) (pg_name (i := 4) scLRoads.nd rfl (Or.inl rfl))
       (pss_one (ps_for PassesOwn.never rfl (pi_range2 rfl B.range (pa_cons (pe_op op_add (pv 4) pe_int) (pa_cons (pv 1) pa_nil))) (pg_name (i := 5) scLRoads.nd rfl (Or.inl rfl))
       (pss_cons (ps_set (i := 6) scLRoads.nd rfl (Or.inl rfl) (pe_cmpR op_lt (pe_call GR hr1 rfl mR kR bR .nil pass0 (pa_cons (pv 0) (pa_cons pe_int pa_nil))) (pv 3) (nomark _)))
       (pss_cons (ps_if (PW.pt (pw_and (pt_cmpR op_eq (pv 5) (pe_op op_add (pv 4) pe_int) (nomark _)) (pw_and1 (pt_cmpR op_gt (pe_call GR hr1 rfl mR kR bR .nil pass0 (pa_cons (pv 0) (pa_cons pe_int pa_nil))) pe_int (nomark _)))))
       (pss_one (ps_set (i := 6) scLRoads.nd rfl (Or.inl rfl) pe_bl))
       pss_nil)
       (pss_one (ps_if (PW.pt (pw_and (pt_val (pv 6)) (pw_and1 (pt_cmpR op_lt (pe_callB (lenK (K := K) rfl) (by rfl) B.len PySem.boot_len (pa_cons (pv 2) pa_nil)) pe_int (nomark _)))))
       (pss_cons (ps_set (i := 7) scLRoads.nd rfl (Or.inl rfl) (pe_ix (ixL (K := K) rfl) (pe_lst (pa_cons pe_int (pa_cons pe_int (pa_cons (pe_op op_add pe_int (pe_call GR hr1 rfl mR kR bR .nil pass0 (pa_cons (pv 0) (pa_cons pe_int pa_nil)))) pa_nil)))) (pe_call GR hr1 rfl mR kR bR .nil pass0 (pa_cons (pv 0) (pa_cons pe_int pa_nil))) (fun _ _ => rfl)))
       (pss_one (ps_expr (pe_bm PySem.F.plainAttrs_list PySem.F.slot_list_append PySem.F.type_list_append mt_append (pv 2) (pa_cons (pe_tup (pa_cons (pv 4) (pa_cons (pv 5) (pa_cons (pe_op op_add pe_int (pe_call GR hr1 rfl mR kR bR .nil pass0 (pa_cons (pv 0) (pa_cons pe_int pa_nil)))) (pa_cons (pv 7) pa_nil))))) pa_nil)))))
       pss_nil)))))))
       (pss_one (ps_ret (pe_callTy (tupOfK (K := K) rfl) (by rfl) B.tuple PyProof.Rows.boot_tuple (pa_cons (pv 2) pa_nil))))))), ?_⟩
    refine ⟨Nat.zero_le _, fun fo n_fo => ?_⟩
    obtain ⟨H1, e_H1, s1, g1⟩ := new_any n_fo
    rw [← e_H1]
    clear e_H1
    obtain ⟨nfd, nfc⟩ := D0.new n_fo
    refine ⟨_, rfl, d, cs, 3, n, rfl, by decide, by decide, by omega, D0.same s1, fun r0 H2 r00 r01 k2 D2 t2 => ?_⟩
    refine ⟨_, _, rfl, rfl, ?_⟩
    refine ⟨_, rfl, m, rfl, by omega, by omega, ?_⟩
    have ff : fo ∉ [d, cs] := nin2 nfd nfc
    refine for_range (lo := 0) (fun i σ H' => ∃ (rs : List Rd) (v4 v5 v6 v7 : Option V), σ = [some (.ref d), some (.int m), some (.ref fo), some (.int (1 + r0)), v4, v5, v6, v7] ∧ LstAt K H' fo (rs.map rdD) ∧ (∀ r ∈ rs, RdOk m r ∧ r.a < i) ∧ rs.Pairwise rdLt ∧ rs.length ≤ 14 ∧ Kp [d, cs] H H' ∧ Deck3 H' d cs (n + 1 + 40 * i))
      ⟨[], _, _, _, _, rfl, ⟨[], k2 _ _ ff g1, RpL.nil⟩, (fun r hr => by cases hr), List.Pairwise.nil, Nat.zero_le _, by walk_at "kp", D2.mono (by omega)⟩ ?_ ?_
    · rintro i σ H3 hi ⟨rs, v4, v5, v6, v7, rfl, hL, ok, up, lr, kp, D3⟩
      have hi : i < m := by omega
      rw [show (0 : Int) + (i : Int) = (i : Int) by omega]
      have rg : ((m : Int) - ((i : Int) + 1)).toNat = m - (i + 1) := by omega
      refine ⟨_, rfl, _, _, rfl, rfl, _, rfl, (i : Int) + 1, m, rfl, ⟨by omega, by omega, by omega, by omega⟩, ?_⟩
      refine for_range (lo := (i : Int) + 1) (fun j σ H' => ∃ (rs : List Rd) (v5 v6 v7 : Option V), σ = [some (.ref d), some (.int m), some (.ref fo), some (.int (1 + r0)), some (.int i), v5, v6, v7] ∧ LstAt K H' fo (rs.map rdD) ∧ (∀ r ∈ rs, RdOk m r ∧ (r.a < i ∨ (r.a = i ∧ r.b < i + 1 + j))) ∧ rs.Pairwise rdLt ∧ rs.length ≤ 14 ∧ Kp [d, cs] H H' ∧ Deck3 H' d cs (n + 1 + 40 * i + 5 * j))
        ⟨rs, _, _, _, rfl, hL, (fun r hr => ⟨(ok r hr).1, .inl (ok r hr).2⟩), up, lr, kp, D3.mono (by omega)⟩ ?_ ?_
      · rintro j σ H4 hj ⟨rs, v5, v6, v7, rfl, hL, ok, up, lr, kp, D4⟩
        have hj : i + 1 + j < m := by omega
        rw [show (i : Int) + 1 + (j : Int) = ((i + 1 + j : Nat) : Int) by omega]
        generalize hb : i + 1 + j = b at hj
        refine ⟨_, rfl, d, cs, 4, n + 1 + 40 * i + 5 * j, rfl, by decide, by decide, by omega, D4, fun r H5 _ _ k5 D5 t5 => ?_⟩
        refine ⟨_, rfl, _, _, rfl, rfl, ?_⟩
        dsimp only [gName, List.set, tNext]
        refine seq_if (fun σ' H' => ∃ (ob : Bool) (v7 : Option V), σ' = [some (.ref d), some (.int m), some (.ref fo), some (.int (1 + r0)), some (.int i), some (.int b), some (.bl ob), v7] ∧ LstAt K H' fo (rs.map rdD) ∧ Kp [d, cs] H H' ∧ Deck3 H' d cs (n + 1 + 40 * i + 5 * j + 2)) ?rest (fun rest => ?_)
        case rest =>
          rintro σ' H6 ⟨ob, v7, rfl, ⟨zs, hz, rz⟩, kp6, D6⟩
          have lz := RpL.len _ _ rz
          rw [List.length_map] at lz
          have nx : ∃ (rs : List Rd) (v5 v6 v7' : Option V), [some (V.ref d), some (.int (m : Int)), some (.ref fo), some (.int (1 + r0)), some (.int (i : Int)), some (.int (b : Int)), some (.bl ob), v7] = [some (.ref d), some (.int m), some (.ref fo), some (.int (1 + r0)), some (.int i), v5, v6, v7'] ∧ LstAt K H6 fo (rs.map rdD) ∧ (∀ r ∈ rs, RdOk m r ∧ (r.a < i ∨ (r.a = i ∧ r.b < i + 1 + (j + 1)))) ∧ rs.Pairwise rdLt ∧ rs.length ≤ 14 ∧ Kp [d, cs] H H6 ∧ Deck3 H6 d cs (n + 1 + 40 * i + 5 * ((j + 1 : Nat) : Int)) :=
            ⟨rs, _, _, _, rfl, ⟨zs, hz, rz⟩, (fun r hr => ⟨(ok r hr).1, by have := (ok r hr).2; omega⟩), up, lr, kp6, D6.mono (by omega)⟩
          refine ⟨_, rfl, _, rfl, iteB (fun c => ?_) (fun c => iteF nx)⟩
          refine ⟨_, rfl, _, zs.length, rfl, .inl ⟨_, SqL.of hz, rfl⟩, _, _, rfl, rfl, _, rfl, iteP (fun c2 => ?_) (fun c2 => nx)⟩
          have c2 : rs.length < 14 := by omega
          refine ⟨_, rfl, d, cs, 65, n + 1 + 40 * i + 5 * j + 2, rfl, by decide, by decide, by omega, D6, fun r1 H7 r10 r11 k7 D7 t7 => ?_⟩
          refine ⟨_, _, rfl, rfl, (by show 3 ≤ sizeLine; decide), fun l n_l => ?_⟩
          obtain ⟨H8, e_H8, s8, g8⟩ := new_any n_l
          rw [← e_H8]
          clear e_H8
          obtain ⟨nld, nlc⟩ := D7.new n_l
          refine ⟨_, rfl, d, cs, 3, n + 1 + 40 * i + 5 * j + 2 + 1, rfl, by decide, by decide, by omega, D7.same s8, fun r2 H9 r20 r21 k9 D9 t9 => ?_⟩
          have g9 := k9 _ _ (nin2 nld nlc) g8
          obtain ⟨sz, hat, sz0, sz1⟩ : ∃ sz : Int, atI [V.int 16, .int 80, .int (16 + r1)] r2 = some (.int sz) ∧ 16 ≤ sz ∧ sz ≤ 80 := by
            have h : r2 = 0 ∨ r2 = 1 ∨ r2 = 2 := by omega
            rcases h with rfl | rfl | rfl
            · exact ⟨16, rfl, by decide, by decide⟩
            · exact ⟨80, rfl, by decide, by decide⟩
            · exact ⟨16 + r1, rfl, by omega, by omega⟩
          refine ⟨l, _, _, _, rfl, rfl, SqL.of g9, hat, ?_⟩
          have hz9 : H9 fo = some (.lst zs) := k9 _ _ ff (s8 _ _ (k7 _ _ ff hz))
          refine ⟨_, rfl, .inl ⟨rfl, _, SqL.of hz9⟩, _, rfl, _, rfl, _, rfl, d, cs, 2, n + 1 + 40 * i + 5 * j + 2 + 1 + 1, rfl, by decide, by decide, by omega, D9, fun r3 H10 r30 r31 k10 D10 t10 => ?_⟩
          have hz10 := k10 _ _ ff hz9
          have rz10 : RpL K H10 (rs.map rdD) zs := RpL.tk' rz (show TK H6 H10 from t7.trans ((TK.of s8).trans (t9.trans t10)))
          refine ⟨_, _, rfl, rfl, _, rfl, (by show 4 ≤ sizeLine; decide), fun tp n_tp => ?_⟩
          dsimp only
          rw [show (1 : Int) + r3 = ((1 + r3.toNat : Nat) : Int) by omega, show sz = ((sz.toNat : Nat) : Int) by omega]
          obtain ⟨q1, q2, q3, q4⟩ := push_tup (ds := [.int (i : Int), .int (b : Int), .int ((1 + r3.toNat : Nat) : Int), .int ((sz.toNat : Nat) : Int)]) hz10 rz10 n_tp (RpL.cons Rp.int (RpL.cons Rp.int (RpL.cons Rp.int (RpL.cons Rp.int RpL.nil))))
          refine ⟨fo, _, _, rfl, rfl, q1, Nat.lt_of_le_of_lt (show zs.length ≤ 1000 by omega) (by decide), ?_⟩
          refine ⟨rs ++ [⟨i, b, 1 + r3.toNat, sz.toNat⟩], _, _, _, rfl, by rw [List.map_append]; exact q2, ?_, ?_, by rw [List.length_append, List.length_singleton]; omega, ?_, (D10.kp q4 (nin1 nfd.symm) (nin1 nfc.symm)).mono (by omega)⟩
          · intro x hx
            rcases List.mem_append.mp hx with hx | hx
            · have := ok x hx
              exact ⟨this.1, by have := this.2; omega⟩
            · rw [List.mem_singleton.mp hx]
              refine ⟨⟨?_, ?_, ?_, ?_, ?_, ?_⟩, .inr ⟨rfl, ?_⟩⟩
              all_goals (dsimp only; omega)
          · refine List.pairwise_append.mpr ⟨up, List.pairwise_singleton _ _, fun x hx y hy => ?_⟩
            rw [List.mem_singleton.mp hy]
            have := (ok x hx).2
            unfold rdLt
            dsimp only
            omega
          · exact fun c o hc e => q4 c o (nin1 (ne_of_none e n_fo)) (k10 c o hc (k9 c o hc (s8 c o (k7 c o hc (kp6 c o hc e)))))
        have hL5 := hL.kp k5 t5 ff
        have kp5 : Kp [d, cs] H H5 := kp.trans k5
        refine ⟨_, rfl, _, rfl, _, _, rfl, rfl, rfl, _, rfl, iteI (fun c => ?_) (fun c => iteF (rest _ _ ⟨_, _, rfl, hL5, kp5, D5.mono (by omega)⟩))⟩
        refine ⟨_, rfl, d, cs, 4, n + 1 + 40 * i + 5 * j + 1, rfl, by decide, by decide, by omega, D5, fun r1 H6 _ _ k6 D6 t6 => ?_⟩
        refine ⟨_, _, rfl, rfl, _, rfl, iteP (fun c2 => ?_) (fun c2 => rest _ _ ⟨_, _, rfl, hL5.kp k6 t6 ff, kp5.trans k6, D6.mono (by omega)⟩)⟩
        exact rest _ _ ⟨true, _, rfl, hL5.kp k6 t6 ff, kp5.trans k6, D6.mono (by omega)⟩
      · rintro σ H4 ⟨rs, v5, v6, v7, rfl, hL, ok, up, lr, kp, D4⟩
        exact ⟨rs, _, _, _, _, rfl, hL, (fun r hr => ⟨(ok r hr).1, by have h1 := (ok r hr).1; have h2 := (ok r hr).2; omega⟩), up, lr, kp, D4.mono (by omega)⟩
    · rintro σ H3 ⟨rs, v4, v5, v6, v7, rfl, ⟨zs, hz, rz⟩, ok, up, lr, kp, D3⟩
      refine ⟨_, rfl, fo, zs, rfl, .inl ⟨SqL.of hz, fun t n_t => ?_⟩⟩
      generalize e_H4 : upd _ t _ = H4
      obtain ⟨s4, r4⟩ := new_tup (K := K) n_t e_H4 (by walk_at "rpl")
      clear e_H4
      exact k H4 t rs r4 ⟨m1, m8, lr, fun r hr => (ok r hr).1, up⟩ (by walk_at "kp") ((D3.same s4).mono (by omega))
end
end Wn

set_option maxHeartbeats 800000
namespace Wn
open PySem L2
set_option pp.maxSteps 700
set_option pp.deepTerms false
local macro_rules | `(tactic| walk_at "h") => `(tactic| first | with_reducible assumption | (with_reducible exact upd_same) | (with_reducible apply g_upd; (walk_at "neq"); (walk_at "h")) | (with_reducible apply g_same; (with_reducible assumption); (walk_at "h")) | (with_reducible apply g_kp; (with_reducible assumption); (walk_at "nin"); (walk_at "h")) | (with_reducible apply g_tk; (with_reducible assumption); (walk_at "h")))
local macro_rules | `(tactic| walk_at "neq") => `(tactic| first | with_reducible assumption | (with_reducible apply Ne.symm; with_reducible assumption) | (with_reducible apply ne_upd; (with_reducible assumption)) | (with_reducible apply Ne.symm; with_reducible apply ne_upd; with_reducible assumption) | (with_reducible apply ne_fr; (with_reducible assumption); (walk_at "h")) | (with_reducible apply ne_fr'; (with_reducible assumption); (walk_at "h")) | (with_reducible apply ne_kd; (walk_at "h"); (walk_at "h"); (with_unfolding_all (intro z; cases z))))
local macro_rules | `(tactic| walk_at "nin") => `(tactic| first | (with_reducible exact nin0) | with_reducible assumption | (with_reducible apply ninc; (walk_at "neq"); (walk_at "nin")))
local macro_rules | `(tactic| walk_at "none") => `(tactic| first | with_reducible assumption | (with_reducible apply n_upd; (with_reducible assumption)) | (with_reducible apply n_same; (with_reducible assumption); (walk_at "none")) | (with_reducible apply n_kp; (with_reducible assumption); (walk_at "nin"); (walk_at "none")))
local macro_rules | `(tactic| walk_at "mem") => `(tactic| first | (with_reducible exact List.mem_cons_self) | (with_reducible apply List.mem_cons_of_mem; (walk_at "mem")))
local macro_rules | `(tactic| walk_at "am") => `(tactic| first | (with_reducible exact am0) | (with_reducible apply am1; (first | (apply Or.inl; walk_at "mem") | (apply Or.inr; walk_at "none")); (walk_at "am")))
local macro_rules | `(tactic| walk_at "tk") => `(tactic| first | (with_reducible exact TK.refl _) | with_reducible assumption | (with_reducible apply t_tk; (with_reducible assumption); (walk_at "tk")) | (with_reducible apply t_same; (with_reducible assumption); (walk_at "tk")) | (with_reducible apply t_new; (with_reducible assumption); (walk_at "tk")) | (with_reducible apply t_wr; (walk_at "h"); (with_unfolding_all rfl); (walk_at "tk")))
local macro_rules | `(tactic| walk_at "same") => `(tactic| first | (with_reducible exact L2.Same.refl _) | with_reducible assumption | (with_reducible apply s_same; (with_reducible assumption); (walk_at "same")) | (with_reducible apply s_new; (with_reducible assumption); (walk_at "same")) | (with_reducible apply s_wrn; (walk_at "none"); (walk_at "same")))
local macro_rules | `(tactic| walk_at "kp") => `(tactic| first | (with_reducible exact Kp.refl _ _) | with_reducible assumption | (with_reducible apply k_same; (with_reducible assumption); (walk_at "kp")) | (with_reducible apply k_kp; (with_reducible assumption); (walk_at "kp")) | (with_reducible apply k_kpm; (with_reducible assumption); (walk_at "am"); (walk_at "kp")) | (with_reducible apply k_new; (with_reducible assumption); (walk_at "kp")) | (with_reducible apply k_wr; (walk_at "mem"); (walk_at "kp")) | (with_reducible apply k_wrn; (walk_at "none"); (walk_at "kp")))
local macro_rules | `(tactic| walk_at "rp") => `(tactic| first | with_reducible assumption | (with_reducible exact Rp.int) | (with_reducible exact Rp.str) | (with_reducible exact Rp.none) | (with_reducible exact Rp.bool) | (with_reducible apply Rp.tk'; (with_reducible assumption); (walk_at "tk")) | (with_reducible apply Rp.tup; (walk_at "h"); (walk_at "rpl")))
local macro_rules | `(tactic| walk_at "rpl") => `(tactic| first | with_reducible assumption | (with_reducible exact RpL.nil) | (with_reducible apply RpL.tk'; (with_reducible assumption); (walk_at "tk")) | (with_reducible apply RpL.cons; (walk_at "rp"); (walk_at "rpl")))
local macro_rules | `(tactic| walk_at "g") => `(tactic| repeat (first | refine ⟨_, rfl, ?_⟩ | refine ⟨_, _, rfl, rfl, ?_⟩ | refine ⟨rfl, _, rfl, ?_⟩ | refine ⟨_, _, rfl, rfl, (by first | decide | omega), ?_⟩))
abbrev sLDone : Stmt := top 142
/-- what the classes of refusals say -/
structure TDn (K : PySem.W.Frag) (mg : Str → Option Value) (c : Gc) (u : Wc) (CE CN CS CB : Addr) : Prop where
  cl3 : ∀ i, Cls K (C3 c u i)
  ss : PySem.W.exmOne K (.ref CS) (.ref CS) = some true
  ns : PySem.W.exmOne K (.ref CN) (.ref CS) = some false
  nn : PySem.W.exmOne K (.ref CN) (.ref CN) = some true
  se : PySem.W.kitOne K (.ref CS) (.ref CE) = some true
  ne : PySem.W.kitOne K (.ref CN) (.ref CE) = some true
  so : PySem.W.kitAny K (.ref CS) [.ref CN, .ref CB] = some false
  no : PySem.W.kitAny K (.ref CN) [.ref CS, .ref CB] = some false
  eS : ExcC K CS
  eN : ExcC K CN
  xf : XfC K CN
  na : PySem.W.findIn K (.ref CN) "a" = some none
  nb : PySem.W.findIn K (.ref CN) "b" = some none
  gE : mg "NetError" = some (.ref CE)
  gN : mg "NoRoad" = some (.ref CN)
  gS : mg "Same" = some (.ref CS)
  gB : mg "BadGround" = some (.ref CB)
structure KB2 (mg : Str → Option Value) : Prop where
  isinstance : mg "isinstance" = none
  repr : mg "repr" = none
  int : mg "int" = none
  bool : mg "bool" = none
  range : mg "range" = none
  len : mg "len" = none
  tuple : mg "tuple" = none
  sorted : mg "sorted" = none
def spLDone (K : PySem.W.Frag) (c : Gc) (u : Wc) : Sp := fun vs H Q _ => ∃ (i : Fin 3) (r : Addr) (L : Lan) (k : Nat) (M : List Addr) (b : Bool) (x y : V) (px py : PyData), vs = [.ref r, .bl b, x, y] ∧ NetI K c u r L k H M i ∧ k < 300 ∧ Dp K H x px ∧ Dp K H y py ∧ px ∈ oddL ∧ py ∈ oddL ∧
  ∀ H' M' v, Kp M H H' → NetI K c u r (outc L b px py).2 (k + 1) H' M' i → (∀ a ∈ M', a ∈ M ∨ H a = none) → Rp K H' (outc L b px py).1 v → Q v H'
theorem twoE {Y1 A1 : Hp → Prop} {Y2 A2 : Addr → Hp → Prop} {G : Prop} (h : (∀ H, A1 H → Y1 H) → (∀ d H, A2 d H → Y2 d H) → G) (h1 : ∀ H, A1 H → Y1 H) (h2 : ∀ d H, A2 d H → Y2 d H) : G := h h1 h2
theorem dp_sm {K : PySem.W.Frag} {H H' : Hp} {v : V} {d : PyData} (h : Dp K H v d) (s : Same H H') : Dp K H' v d := Wn.Dp.sm s h

section
variable {P : Program} {w : World} {K : PySem.W.Frag} {mg : Str → Option Value} {base : Heap} {c : Gc} {u : Wc} {CE CN CS CB : Addr}
theorem scLDone : FnScope ["_law_net", "_law_falls", "_law_a", "_law_b", "_law_found", "e"] ["_law_net", "_law_falls", "_law_a", "_law_b"] (defScope sLDone) := ⟨rfl, rfl, rfl, by decide +kernel, rfl, by decide +kernel, by decide +kernel⟩
theorem ok_ldone {f : Addr} {fd : FuncData} (F : Fun K "_law_done" "_law_done" sLDone f fd) (T : TDn K mg c u CE CN CS CB) (B : KB2 mg)
    (cF : MdI P w K mg base 6 (C3 c u) "fall" ["self", "a", "b"] (fall3 K c u CN CS)) (cR : MdI P w K mg base 6 (C3 c u) "rise" ["self", "a", "b"] (rise3 K c u CN CS)) :
    FnG P w K mg base CX0 7 f fd ["_law_net", "_law_falls", "_law_a", "_law_b"] (spLDone K c u) := by
  obtain ⟨fF, fdF, GF, MF, bF⟩ := cF
  obtain ⟨fR, fdR, GR, MR, bR⟩ := cR
  refine Fun.okG F scLDone (fun vs H Q E h => ?_) (fun cdv A outer s H vs Q E hr hg h => ?_)
  · obtain ⟨i, r, L, k, M, b, x, y, px, py, rfl, _⟩ := h
    rfl
  · obtain ⟨i, r, L, k, M, b, x, y, px, py, rfl, N, hk, hx, hy, ox, oy, kk⟩ := h
    have hr6 : Room 6 _ := hr
    refine ⟨_, (pss_cons (ps_set (i := 4) scLDone.nd rfl (Or.inl rfl) (pe_tup (pa_cons pe_str pa_nil)))
       (pss_cons (ps_try_manyA rfl rfl scLDone.nd takes0
       (fun W pn xe tk po => (pss_one (ps_if (pt_val (pv 1))
       (pss_one (ps_expr (pe_methIS (pv 0) T.cl3 MF GF hr6 bF (fun σ => passAt tk σ) (pa_cons (pv 2) (pa_cons (pv 3) pa_nil)))))
       (pss_one (ps_expr (pe_methIS (pv 0) T.cl3 MR GR hr6 bR (fun σ => passAt tk σ) (pa_cons (pv 2) (pa_cons (pv 3) pa_nil))))))))
       (.cons (i := 5) ⟨rfl, by decide, Or.inl T.gS⟩ rfl rfl (fun a oe cls d pn hz hf => (pss_one (ps_set (i := 4) scLDone.nd rfl (Or.inl rfl) (pe_tup (pa_cons pe_str (pa_cons (pe_callB (call_isX hz hf) (by rfl) B.isinstance (by decide +kernel) (pa_cons (pv 5) (pa_cons (pe_glob (v := .ref CE) (by rfl) T.gE rfl) pa_nil))) (pa_cons (pe_callB (call_isX hz hf) (by rfl) B.isinstance (by decide +kernel) (pa_cons (pv 5) (pa_cons (pe_tup (pa_cons (pe_glob (v := .ref CN) (by rfl) T.gN rfl) (pa_cons (pe_glob (v := .ref CB) (by rfl) T.gB rfl) pa_nil))) pa_nil))) pa_nil)))))))
       (.cons (i := 5) ⟨rfl, by decide, Or.inl T.gN⟩ rfl rfl (fun a oe cls d pn hz hf => (pss_one (ps_set (i := 4) scLDone.nd rfl (Or.inl rfl) (pe_tup (pa_cons pe_str (pa_cons (pe_callB (reprDK (K := K) rfl hg hr.units) (by rfl) B.repr (by decide +kernel) (pa_cons (pe_xf T.xf T.na hz hf (pv 5)) pa_nil)) (pa_cons (pe_callB (reprDK (K := K) rfl hg hr.units) (by rfl) B.repr (by decide +kernel) (pa_cons (pe_xf T.xf T.nb hz hf (pv 5)) pa_nil)) (pa_cons (pe_callB (call_isX hz hf) (by rfl) B.isinstance (by decide +kernel) (pa_cons (pv 5) (pa_cons (pe_glob (v := .ref CE) (by rfl) T.gE rfl) pa_nil))) (pa_cons (pe_callB (call_isX hz hf) (by rfl) B.isinstance (by decide +kernel) (pa_cons (pv 5) (pa_cons (pe_tup (pa_cons (pe_glob (v := .ref CS) (by rfl) T.gS rfl) (pa_cons (pe_glob (v := .ref CB) (by rfl) T.gB rfl) pa_nil))) pa_nil))) pa_nil)))))))))
       .nil)))
       (pss_one (ps_ret (pv 4))))), ?_⟩
    have tk0 := N.taken
    refine ⟨(by show 1 ≤ sizeLine; decide), fun t n_t => ?_⟩
    obtain ⟨H1, e_H1, s1, ht1⟩ := new_any n_t
    rw [← e_H1]
    clear e_H1
    have N1 := N.same s1
    dsimp only [gName, List.set, tNext, L2.start]
    refine ⟨_, rfl, _, rfl, ?_⟩
    obtain ⟨dx, fs, hi, lf, lr⟩ := N1.ins
    have k1 : Kp M H H1 := fun b o _ e => s1 b o e
    have nt : t ∉ M := fun z => tk0 t z n_t
    have x1 := dp_sm hx s1
    have y1 := dp_sm hy s1
    have kp' : ∀ {H2 : Hp}, Same H1 H2 → Kp M H H2 := fun {H2} s b o _ e => s b o (s1 b o e)
    apply twoE (A1 := fun H2 => outc L b px py = (sameQ, L) ∧ Same H1 H2) (A2 := fun d H2 => outc L b px py = (noneQ px py, L) ∧ Same H1 H2 ∧ H2 d = some (.xd [("b", y), ("a", x)]))
    · intro same non'
      refine iteB (fun hb => ?_) (fun hb => ?_)
      · refine ⟨_, rfl, i, r, dx, fs, rfl, hi, lf, _, rfl, _, rfl, N1.fall hk x1 y1 (fun p H2 M2 ep np k2 N2 sub => ?_) (fun p H2 ep hp s2 => same H2 ⟨?_, s2⟩) (fun H2 d ep s2 nd hd => non' d H2 ⟨?_, s2, hd⟩)⟩
        · have eo : outc L b px py = (doneQ, movedL L b p) := by
            unfold outc
            rw [ep]
            dsimp only
            rw [if_neg (by rw [hb]; rw [decide_eq_false np]; decide)]
          rw [eo] at kk
          rw [← hb] at N2
          have ht2 := k2 _ _ nt ht1
          exact ⟨_, rfl, kk H2 M2 _ (k1.trans k2) N2 (fun a ha => (sub a ha).imp id fun z => n_same s1 z) (Rp.tup ht2 (RpL.cons Rp.str RpL.nil))⟩
        · unfold outc
          rw [ep]
          dsimp only
          rw [if_pos (by rw [hb]; rw [decide_eq_true hp])]
        · unfold outc
          rw [ep]
      · refine ⟨_, rfl, i, r, dx, fs, rfl, hi, lr, _, rfl, _, rfl, N1.rise hk x1 y1 (fun p H2 M2 ep np k2 N2 sub => ?_) (fun p H2 ep hp s2 => same H2 ⟨?_, s2⟩) (fun H2 d ep s2 nd hd => non' d H2 ⟨?_, s2, hd⟩)⟩
        · have eo : outc L b px py = (doneQ, movedL L b p) := by
            unfold outc
            rw [ep]
            dsimp only
            rw [if_neg (by rw [hb]; rw [decide_eq_true np]; decide)]
          rw [eo] at kk
          rw [← hb] at N2
          have ht2 := k2 _ _ nt ht1
          exact ⟨_, rfl, kk H2 M2 _ (k1.trans k2) N2 (fun a ha => (sub a ha).imp id fun z => n_same s1 z) (Rp.tup ht2 (RpL.cons Rp.str RpL.nil))⟩
        · unfold outc
          rw [ep]
          dsimp only
          rw [if_pos (by rw [hb]; rw [decide_eq_false hp])]
        · unfold outc
          rw [ep]
    · rintro H2 ⟨eo, s2⟩
      have N2 := N1.same s2
      refine ⟨true, T.ss, fun _ a0 ha0 => ?_, fun q => Bool.noConfusion q⟩
      refine ⟨_, rfl, CS, rfl, T.eS, .inl rfl, .inl ⟨_, _, true, rfl, .own CE, T.se, ?_⟩⟩
      refine ⟨_, rfl, (by show 2 ≤ sizeLine; decide), fun tt n_tt => ?_⟩
      obtain ⟨H3, e_H3, s3, h3⟩ := new_any n_tt
      rw [← e_H3]
      clear e_H3
      refine ⟨CS, rfl, T.eS, .inl rfl, .inr ⟨tt, _, _, false, rfl, h3, .cons (.own CN) (.cons (.own CB) .nil), T.so, ?_⟩⟩
      refine ⟨(by show 3 ≤ sizeLine; decide), fun t2 n_t2 => ?_⟩
      generalize e_H4 : upd _ t2 _ = H4
      obtain ⟨s4, r4⟩ := new_tup (K := K) n_t2 e_H4 (by walk_at "rpl")
      clear e_H4
      have s24 := s3.trans s4
      rw [eo] at kk
      exact ⟨_, rfl, kk H4 M _ (kp' (s2.trans s24)) ((N2.same s24).mono (by omega)) (fun a ha => .inl ha) r4⟩
    · rintro d H2 ⟨eo, s2, hd⟩
      have N2 := N1.same s2
      have x2 := dp_sm x1 s2
      have y2 := dp_sm y1 s2
      have qx := odd_ok ox
      have qy := odd_ok oy
      refine ⟨false, T.ns, fun q => Bool.noConfusion q, fun _ => ⟨true, T.nn, fun _ a0 ha0 => ?_, fun q => Bool.noConfusion q⟩⟩
      refine ⟨_, rfl, rfl, rfl, d, _, x, rfl, hd, rfl, x, px, rfl, x2, qx.sh, qx.nd, qx.dp, Nat.le_trans qx.ln (by decide), ?_⟩
      refine ⟨_, rfl, rfl, rfl, d, _, y, rfl, hd, rfl, y, py, rfl, y2, qy.sh, qy.nd, qy.dp, Nat.le_trans qy.ln (by decide), ?_⟩
      refine ⟨_, rfl, CN, rfl, T.eN, .inr ⟨d, _, rfl, hd⟩, .inl ⟨_, _, true, rfl, .own CE, T.ne, ?_⟩⟩
      refine ⟨_, rfl, (by show 2 ≤ sizeLine; decide), fun tt n_tt => ?_⟩
      obtain ⟨H3, e_H3, s3, h3⟩ := new_any n_tt
      rw [← e_H3]
      clear e_H3
      refine ⟨CN, rfl, T.eN, .inr ⟨d, _, rfl, s3 _ _ hd⟩, .inr ⟨tt, _, _, false, rfl, h3, .cons (.own CS) (.cons (.own CB) .nil), T.no, ?_⟩⟩
      refine ⟨(by show 5 ≤ sizeLine; decide), fun t2 n_t2 => ?_⟩
      generalize e_H4 : upd _ t2 _ = H4
      obtain ⟨s4, r4⟩ := new_tup (K := K) n_t2 e_H4 (by walk_at "rpl")
      clear e_H4
      have s24 := s3.trans s4
      rw [eo] at kk
      exact ⟨_, rfl, kk H4 M _ (kp' (s2.trans s24)) ((N2.same s24).mono (by omega)) (fun a ha => .inl ha) r4⟩
end
end Wn

namespace L2
open PySem PySem.Spec PyProof.Rows
/-! ### l != [] of things of any kind -/
section
variable {X : Cx}
theorem op_neL0 (hu : X.A.units < cLine) : OpR X (compareOp .NotEq) (fun x y H Q => ∃ a b xs, x = .ref a ∧ y = .ref b ∧ SqL X.K H a xs ∧ SqL X.K H b [] ∧ Q (.bl (!decide (xs = []))) H) := by
  intro pins s σ H x y v u Q I rx ry h
  obtain ⟨a, b, xs, rfl, rfl, ha, hb, q⟩ := h
  obtain rfl : v = .ref a := rx
  obtain rfl : u = .ref b := ry
  obtain ⟨i1, r1, ⟨o1, n1, ho1, hc1, hz1, hd1⟩, _⟩ := I.list ha
  obtain ⟨i2, r2, ⟨o2, n2, ho2, hc2, hz2, hd2⟩, _⟩ := I.list hb
  cases r2
  have p1 : s.heap.IsList a i1.toArray := ⟨o1, ho1, hc1, n1, hd1⟩
  have p2 : s.heap.IsList b #[] := ⟨o2, ho2, hc2, n2, hd2⟩
  have fin : EP X pins σ Q (.bool (!decide (xs = []))) s := ⟨.bl (!decide (xs = [])), H, I, rfl, q⟩
  have l1 := r1.length
  cases i1 with
  | nil =>
    have e : xs = [] := List.length_eq_zero_iff.mp l1
    subst e
    exact SeqAt.RcNeAt.lists (e := fun _ => true) p1 p2 rfl hu (fun j h1 h2 => absurd h2 (by simp)) X.prog X.w X.xe (EP X pins σ Q) fin
  | cons z zs =>
    have e : xs ≠ [] := fun e => by rw [e] at l1; cases l1
    rw [decide_eq_false e] at fin
    exact SeqAt.RcNeAt.lists_lengths p1 p2 (by simp) hu X.prog X.w X.xe (EP X pins σ Q) fin
theorem op_neL0K {K : PySem.W.Frag} (hK : X.K = K) (hu : X.A.units < cLine) : OpR X (compareOp .NotEq) (fun x y H Q => ∃ a b xs, x = .ref a ∧ y = .ref b ∧ SqL K H a xs ∧ SqL K H b [] ∧ Q (.bl (!decide (xs = []))) H) := hK ▸ op_neL0 hu
end
end L2

namespace Wn
open PySem L2
/-! ### comprehensions whose elements are told values: any walk, any target, a test or none -/
theorem comp_ls {J : It} {G : Hp → Prop} {Y : Nat → Hp → V → Hp → Prop} {β : Type} {g : L2.TG} {tt : TT} {te : TE} {is : List Nat} {σ : L2.St} {H2 : Hp} {D : Addr} {L : List β} {Qd : Hp → Prop} (w : Walk J L.length G Y) (hG : ∀ H', Same H2 H' → G H') (p : β → Bool) (f : β → V) (hD : H2 D = none) (hl : L.length ≤ 1000000)
    (hte : ∀ (j : Nat) (b : β) (x : V) (H' H'' : Hp) (Q : VK) (N : Hp → Prop), L[j]? = some b → Same H2 H' → Y j H' x H'' → (p b = true → ∀ (H3 : Hp), Same H' H3 → Q (f b) H3) → (p b = false → ∀ (H3 : Hp), Same H' H3 → N H3) →
      g x (wipe σ is) H'' fun σ2 H3 => wipe σ2 is = wipe σ is ∧ tt σ2 H3 fun b' H4 => if b' = true then te σ2 H4 Q else N H4)
    (hd : ∀ (H' : Hp), Same H2 H' → H' D = some (.lst ((L.filter p).map f)) → Qd H') :
    ∃ W : Nat → Nat → Hp → Prop, (∃ m, W 0 m (upd H2 D (.lst []))) ∧ ∀ j m H, W j m H →
      (J.stop j H ∧ Qd H) ∨ (J.go j H ∧ ∃ Nx : Hp → Prop, (∀ H', Nx H' → ∃ m', m' < m ∧ W (j + 1) m' H') ∧ ∀ x H', J.yld j H x H' → g x (wipe σ is) H' fun σ2 H2 => wipe σ2 is = wipe σ is ∧ tt σ2 H2 fun b H3 =>
        if b = true then te σ2 H3 fun y H4 => ∃ acc, H4 D = some (.lst acc) ∧ acc.length < sizeLine ∧ Nx (upd H4 D (.lst (acc ++ [y]))) else Nx H3) := by
  refine lc_it w (fun j H => Same H2 H ∧ H D = some (.lst (((L.take j).filter p).map f))) ⟨(L2.Same.refl H2).new hD, upd_same⟩ (fun j H _ ⟨s, _⟩ => hG H s) ?_ ?_
  · rintro j x H3 H3' hj ⟨s3, hD3⟩ hx
    have ej : L[j]? = some L[j] := List.getElem?_eq_getElem hj
    have et : L.take (j + 1) = L.take j ++ [L[j]] := List.take_succ_eq_append_getElem hj
    have ly : (((L.take j).filter p).map f).length < sizeLine := by
      rw [List.length_map]
      have h2 := List.length_filter_le p (L.take j)
      rw [List.length_take] at h2
      exact Nat.lt_of_le_of_lt (show ((L.take j).filter p).length ≤ 1000000 by omega) (by decide)
    refine hte j L[j] x H3 H3' _ _ ej s3 hx (fun hp H4 s4 => ⟨_, s4 _ _ hD3, ly, (s3.trans s4).wrn hD, ?_⟩) (fun hp H4 s4 => ⟨s3.trans s4, ?_⟩)
    · rw [upd_same, et, List.filter_append, List.filter_cons, hp, List.map_append]
      rfl
    · rw [et, List.filter_append, List.filter_cons, hp]
      simp only [Bool.false_eq_true, if_false, List.filter_nil, List.append_nil]
      exact s4 _ _ hD3
  · rintro H3 ⟨s3, hD3⟩
    rw [List.take_length] at hD3
    exact hd H3 s3 hD3
theorem _root_.L2.Walk.cast {J : It} {n m : Nat} {G : Hp → Prop} {Y : Nat → Hp → V → Hp → Prop} (w : Walk J n G Y) (e : n = m) : Walk J m G Y := e ▸ w
theorem filter_all {β : Type} (L : List β) : L.filter (fun _ => true) = L := List.filter_eq_self.mpr fun _ _ => rfl
end Wn

set_option maxHeartbeats 1600000
namespace Wn
open PySem L2
set_option pp.maxSteps 700
set_option pp.deepTerms false
local macro_rules | `(tactic| walk_at "h") => `(tactic| first | with_reducible assumption | (with_reducible exact upd_same) | (with_reducible apply g_upd; (walk_at "neq"); (walk_at "h")) | (with_reducible apply g_same; (with_reducible assumption); (walk_at "h")) | (with_reducible apply g_kp; (with_reducible assumption); (walk_at "nin"); (walk_at "h")) | (with_reducible apply g_tk; (with_reducible assumption); (walk_at "h")))
local macro_rules | `(tactic| walk_at "neq") => `(tactic| first | with_reducible assumption | (with_reducible apply Ne.symm; with_reducible assumption) | (with_reducible apply ne_upd; (with_reducible assumption)) | (with_reducible apply Ne.symm; with_reducible apply ne_upd; with_reducible assumption) | (with_reducible apply ne_fr; (with_reducible assumption); (walk_at "h")) | (with_reducible apply ne_fr'; (with_reducible assumption); (walk_at "h")) | (with_reducible apply ne_kd; (walk_at "h"); (walk_at "h"); (with_unfolding_all (intro z; cases z))))
local macro_rules | `(tactic| walk_at "nin") => `(tactic| first | (with_reducible exact nin0) | with_reducible assumption | (with_reducible apply ninc; (walk_at "neq"); (walk_at "nin")))
local macro_rules | `(tactic| walk_at "none") => `(tactic| first | with_reducible assumption | (with_reducible apply n_upd; (with_reducible assumption)) | (with_reducible apply n_same; (with_reducible assumption); (walk_at "none")) | (with_reducible apply n_kp; (with_reducible assumption); (walk_at "nin"); (walk_at "none")))
local macro_rules | `(tactic| walk_at "mem") => `(tactic| first | (with_reducible exact List.mem_cons_self) | (with_reducible apply List.mem_cons_of_mem; (walk_at "mem")))
local macro_rules | `(tactic| walk_at "am") => `(tactic| first | (with_reducible exact am0) | (with_reducible apply am1; (first | (apply Or.inl; walk_at "mem") | (apply Or.inr; walk_at "none")); (walk_at "am")))
local macro_rules | `(tactic| walk_at "tk") => `(tactic| first | (with_reducible exact TK.refl _) | with_reducible assumption | (with_reducible apply t_tk; (with_reducible assumption); (walk_at "tk")) | (with_reducible apply t_same; (with_reducible assumption); (walk_at "tk")) | (with_reducible apply t_new; (with_reducible assumption); (walk_at "tk")) | (with_reducible apply t_wr; (walk_at "h"); (with_unfolding_all rfl); (walk_at "tk")))
local macro_rules | `(tactic| walk_at "same") => `(tactic| first | (with_reducible exact L2.Same.refl _) | with_reducible assumption | (with_reducible apply s_same; (with_reducible assumption); (walk_at "same")) | (with_reducible apply s_new; (with_reducible assumption); (walk_at "same")) | (with_reducible apply s_wrn; (walk_at "none"); (walk_at "same")))
local macro_rules | `(tactic| walk_at "kp") => `(tactic| first | (with_reducible exact Kp.refl _ _) | with_reducible assumption | (with_reducible apply k_same; (with_reducible assumption); (walk_at "kp")) | (with_reducible apply k_kp; (with_reducible assumption); (walk_at "kp")) | (with_reducible apply k_kpm; (with_reducible assumption); (walk_at "am"); (walk_at "kp")) | (with_reducible apply k_new; (with_reducible assumption); (walk_at "kp")) | (with_reducible apply k_wr; (walk_at "mem"); (walk_at "kp")) | (with_reducible apply k_wrn; (walk_at "none"); (walk_at "kp")))
local macro_rules | `(tactic| walk_at "rp") => `(tactic| first | with_reducible assumption | (with_reducible exact Rp.int) | (with_reducible exact Rp.str) | (with_reducible exact Rp.none) | (with_reducible exact Rp.bool) | (with_reducible apply Rp.tk'; (with_reducible assumption); (walk_at "tk")) | (with_reducible apply Rp.tup; (walk_at "h"); (walk_at "rpl")))
local macro_rules | `(tactic| walk_at "rpl") => `(tactic| first | with_reducible assumption | (with_reducible exact RpL.nil) | (with_reducible apply RpL.tk'; (with_reducible assumption); (walk_at "tk")) | (with_reducible apply RpL.cons; (walk_at "rp"); (walk_at "rpl")))
local macro_rules | `(tactic| walk_at "g") => `(tactic| repeat (first | refine ⟨_, rfl, ?_⟩ | refine ⟨_, _, rfl, rfl, ?_⟩ | refine ⟨rfl, _, rfl, ?_⟩ | refine ⟨_, _, rfl, rfl, (by first | decide | omega), ?_⟩))
abbrev sLPair : Stmt := top 143
abbrev sLRow : Stmt := top 144
abbrev sLNear : Stmt := top 145
theorem rds_shp (rs : List Rd) : SeqAt.shaped (.tuple (rs.map rdD)) = true := Shp.ok (Shp.tup (n := 1) (Shp.map fun p => Shp.tup (n := 0) fun d hd => by
  simp only [List.mem_cons, List.not_mem_nil, or_false] at hd
  rcases hd with rfl | rfl | rfl | rfl <;> exact Shp.int)) (by decide)
theorem rds_nil {rs : List Rd} : PyData.eqv (.tuple (rs.map rdD)) (.tuple []) = decide (rs = []) := by
  cases rs <;> rfl
/-- data of new things: it stays so as long as only what stood before changes -/
def Lies (K : PySem.W.Frag) (H0 H : Hp) (x : V) (px : PyData) : Prop := ∀ M H', (∀ m ∈ M, H0 m ≠ none) → Kp M H H' → Dp K H' x px
theorem Lies.on {K : PySem.W.Frag} {H0 H H1 : Hp} {x : V} {px : PyData} {M : List Addr} (h : Lies K H0 H x px) (k : Kp M H H1) (hM : ∀ m ∈ M, H0 m ≠ none) : Lies K H0 H1 x px := fun M' H' hM' k' => h (M ++ M') H' (fun m hm => (List.mem_append.mp hm).elim (hM m) (hM' m)) fun b o hb e => k' b o (fun z => hb (List.mem_append_right _ z)) (k b o (fun z => hb (List.mem_append_left _ z)) e)
theorem freshD {H H' : Hp} {d cs t : Addr} {n n' : Int} (D0 : Deck3 H d cs n) (k : Kp [d, cs] H H') (D : Deck3 H' d cs n') (h : H' t = none) : H t = none := by
  cases e : H t with
  | none => rfl
  | some o =>
    have := k t o (nin2 (D.new h).1 (D.new h).2) e
    rw [h] at this
    cases this
def notI : PyData → Bool
  | .int _ => false
  | _ => true
theorem notI_ty (d : PyData) : notI d = !decide (tyN d = "int") := by
  cases d <;> rfl
theorem dpAll_sm {K : PySem.W.Frag} {H H' : Hp} : ∀ {vs : List V} {ds : List PyData}, DpAll K H vs ds → Same H H' → DpAll K H' vs ds
  | _, _, .nil, _ => .nil
  | _, _, .cons h r, s => .cons (dp_sm h s) (dpAll_sm r s)
def spLPair (K : PySem.W.Frag) : Sp := fun vs H Q _ => ∃ (d cs ra : Addr) (n : Int) (m : Nat) (rs : List Rd), vs = [.ref d, .int m, .ref ra] ∧ Deck3 H d cs n ∧ n < 2 ^ 47 ∧ TupAt K H ra (rs.map rdD) ∧ RdsOk m rs ∧
  ∀ H' t x y px py, Kp [d, cs] H H' → Deck3 H' d cs (n + 4) → H t = none → H' t = some (.tup [x, y]) → px ∈ oddL → py ∈ oddL → Lies K H H' x px → Lies K H H' y py → Q (.ref t) H'
def spLRow (K : PySem.W.Frag) : Sp := fun vs H Q _ => ∃ (ra t : Addr) (rs : List Rd) (x y : V) (px py : PyData), vs = [.ref ra, .ref t] ∧ TupAt K H ra (rs.map rdD) ∧ rs.length ≤ 14 ∧ H t = some (.tup [x, y]) ∧ px ∈ oddL ∧ py ∈ oddL ∧ Dp K H x px ∧ Dp K H y py ∧ ∀ H', Same H H' → Q (.int (rowNo rs px py)) H'
def spLNear (K : PySem.W.Frag) : Sp := fun vs H Q _ => ∃ (ra ua : Addr) (L : Lan) (h : Nat), vs = [.ref ra, .ref ua, .int h] ∧ TupAt K H ra (L.rs.map rdD) ∧ RdsOk L.m L.rs ∧ H ua = some (.lst ((upOf L).map V.bl)) ∧ ∀ H' a, Same H H' → TupAt K H' a ((nbrs L h).map nbD) → Q (.ref a) H'

section
variable {P : Program} {w : World} {K : PySem.W.Frag} {mg : Str → Option Value} {base : Heap}
theorem scLPair : FnScope ["_law_deck_here", "_law_houses", "_law_roads_here", "_law_odd", "_law_row"] ["_law_deck_here", "_law_houses", "_law_roads_here"] (defScope sLPair) := ⟨rfl, rfl, rfl, by decide +kernel, rfl, by decide +kernel, by decide +kernel⟩
theorem ok_lpair {f : Addr} {fd : FuncData} (F : Fun K "_law_pair" "_law_pair" sLPair f fd) (B : KB2 mg) (cN : Cd P w K mg base 1 "_law_draw" ["_law_deck_here", "_law_many"] spDraw) : FnOk P w K mg base CX0 2 f fd ["_law_deck_here", "_law_houses", "_law_roads_here"] (spLPair K) := by
  obtain ⟨fN, fdN, GN, mN, kN, bN⟩ := cN.tk
  refine F.ok scLPair (fun vs H Q E h => ?_) (fun cdv A outer s H vs Q E hr h => ?_)
  · obtain ⟨d, cs, ra, n, m, rs, rfl, _⟩ := h
    rfl
  · obtain ⟨d, cs, ra, n, m, rs, rfl, D0, hn, hT, R, k⟩ := h
    have hr1 : Room 1 _ := hr
    refine ⟨_, (pss_cons (ps_set (i := 3) scLPair.nd rfl (Or.inl rfl) (pe_lst (pa_cons pe_non (pa_cons pe_bl (pa_cons pe_bl (pa_cons pe_str (pa_cons (pe_lst (pa_cons pe_int pa_nil)) (pa_cons (pe_tup (pa_cons pe_int (pa_cons pe_int pa_nil))) (pa_cons (pe_un un_neg pe_int) (pa_cons pe_int (pa_cons (pe_op op_pow pe_int pe_int) (pa_cons pe_int (pa_cons pe_int pa_nil)))))))))))))
       (pss_cons (ps_if (PW.pt (pw_and (pt_cmpR (neDK (K := K) rfl hr.units) (pv 2) (pe_tup pa_nil) (nomark _)) (pw_and1 (pt_cmpR op_gt (pe_call GN hr1 rfl mN kN bN .nil pass0 (pa_cons (pv 0) (pa_cons pe_int pa_nil))) pe_int (nomark _)))))
       (pss_cons (ps_set (i := 4) scLPair.nd rfl (Or.inl rfl) (pe_ix (ixT (K := K) rfl) (pv 2) (pe_call GN hr1 rfl mN kN bN .nil pass0 (pa_cons (pv 0) (pa_cons (pe_callB (lenK (K := K) rfl) (by rfl) B.len PySem.boot_len (pa_cons (pv 2) pa_nil)) pa_nil))) (fun _ _ => rfl)))
       (pss_one (ps_ret (pe_ix (ixL (K := K) rfl) (pe_lst (pa_cons (pe_slice (slA (K := K) rfl) (pv 4) po_none (po_some pe_int)) (pa_cons (pe_tup (pa_cons (pe_ix (ixT (K := K) rfl) (pv 4) pe_int (fun _ _ => rfl)) (pa_cons (pe_ix (ixT (K := K) rfl) (pv 4) pe_int (fun _ _ => rfl)) pa_nil))) pa_nil))) (pe_call GN hr1 rfl mN kN bN .nil pass0 (pa_cons (pv 0) (pa_cons pe_int pa_nil))) (fun _ _ => rfl)))))
       pss_nil)
       (pss_cons (ps_if (pt_cmpR op_eq (pe_call GN hr1 rfl mN kN bN .nil pass0 (pa_cons (pv 0) (pa_cons pe_int pa_nil))) pe_int (nomark _))
       (pss_one (ps_ret (pe_tup (pa_cons (pe_call GN hr1 rfl mN kN bN .nil pass0 (pa_cons (pv 0) (pa_cons (pv 1) pa_nil))) (pa_cons (pe_call GN hr1 rfl mN kN bN .nil pass0 (pa_cons (pv 0) (pa_cons (pv 1) pa_nil))) pa_nil)))))
       pss_nil)
       (pss_one (ps_ret (pe_tup (pa_cons (pe_ix (ixL (K := K) rfl) (pv 3) (pe_call GN hr1 rfl mN kN bN .nil pass0 (pa_cons (pv 0) (pa_cons pe_int pa_nil))) (fun _ _ => rfl)) (pa_cons (pe_ix (ixL (K := K) rfl) (pv 3) (pe_call GN hr1 rfl mN kN bN .nil pass0 (pa_cons (pv 0) (pa_cons pe_int pa_nil))) (fun _ _ => rfl)) pa_nil)))))))), ?_⟩
    refine ⟨(by show 1 ≤ sizeLine; decide), fun l0 n_l0 => ?_⟩
    obtain ⟨H1, e_H1, s1, h1⟩ := new_any n_l0
    rw [← e_H1]
    clear e_H1
    refine ⟨(by show 2 ≤ sizeLine; decide), fun t0 n_t0 => ?_⟩
    obtain ⟨H2, e_H2, s2, h2⟩ := new_any n_t0
    rw [← e_H2]
    clear e_H2
    refine ⟨_, rfl, _, _, rfl, rfl, ⟨by decide, by decide, by decide⟩, ?_⟩
    refine ⟨(by show 11 ≤ sizeLine; decide), fun lo n_lo => ?_⟩
    obtain ⟨H3, e_H3, s3, h3⟩ := new_any n_lo
    rw [← e_H3]
    clear e_H3
    dsimp only [gName, List.set, tNext, L2.start]
    have s03 : Same H H3 := s1.trans (s2.trans s3)
    have D3 := D0.same s03
    have e20 : ((10 : Int) ^ (20 : Int).toNat) = 100000000000000000000 := by decide
    dsimp only at h3
    rw [e20] at h3
    have l03 : H3 l0 = some (.lst [.int 0]) := s3 _ _ (s2 _ _ h1)
    have t03 : H3 t0 = some (.tup [.int 0, .int 1]) := s3 _ _ h2
    have n_t00 : H t0 = none := n_same s1 n_t0
    have tk0 : ∀ x ∈ [d, cs], H x ≠ none := fun x hx e => by
      simp only [List.mem_cons, List.not_mem_nil, or_false] at hx
      rcases hx with rfl | rfl
      · obtain ⟨zs, z⟩ := D0.l1; rw [z] at e; cases e
      · obtain ⟨zs, z⟩ := D0.l2; rw [z] at e; cases e
    have nl0 : l0 ∉ [d, cs] := fun z => tk0 _ z n_l0
    have nt0 : t0 ∉ [d, cs] := fun z => tk0 _ z n_t00
    have nlo : lo ∉ [d, cs] := fun z => tk0 _ z (n_same (s1.trans s2) n_lo)
    have lint : ∀ (G : Hp) (i : Int), Lies K H G (.int i) (.int i) := fun G i M H' _ _ => .int i
    have pick : ∀ (G : Hp) (r : Int), 0 ≤ r → r < 11 → Kp [d, cs] H3 G → ∃ v pd, atI [V.non, .bl true, .bl false, .str "0", .ref l0, .ref t0, .int (-1), .int 8, .int 100000000000000000000, .int 0, .int 1] r = some v ∧ pd ∈ oddL ∧ Lies K H G v pd := fun G r r0 r1 kG => by
      have : r = 0 ∨ r = 1 ∨ r = 2 ∨ r = 3 ∨ r = 4 ∨ r = 5 ∨ r = 6 ∨ r = 7 ∨ r = 8 ∨ r = 9 ∨ r = 10 := by omega
      rcases this with rfl | rfl | rfl | rfl | rfl | rfl | rfl | rfl | rfl | rfl | rfl
      · exact ⟨_, .none, rfl, by simp [oddL], fun M H' _ _ => .non⟩
      · exact ⟨_, .bool true, rfl, by simp [oddL], fun M H' _ _ => .bl _⟩
      · exact ⟨_, .bool false, rfl, by simp [oddL], fun M H' _ _ => .bl _⟩
      · exact ⟨_, .str "0", rfl, by simp [oddL], fun M H' _ _ => .str _⟩
      · exact ⟨_, .list [.int 0], rfl, by simp [oddL], fun M H' hM k' => .lst (SqL.of (k' _ _ (fun z => hM _ z n_l0) (kG _ _ nl0 l03))) (.cons (.int 0) .nil)⟩
      · exact ⟨_, .tuple [.int 0, .int 1], rfl, by simp [oddL], fun M H' hM k' => .tup (SqT.of (k' _ _ (fun z => hM _ z n_t00) (kG _ _ nt0 t03))) (.cons (.int 0) (.cons (.int 1) .nil))⟩
      · exact ⟨_, .int (-1), rfl, by simp [oddL], lint G _⟩
      · exact ⟨_, .int 8, rfl, by simp [oddL], lint G _⟩
      · exact ⟨_, .int 100000000000000000000, rfl, by simp [oddL], lint G _⟩
      · exact ⟨_, .int 0, rfl, by simp [oddL], lint G _⟩
      · exact ⟨_, .int 1, rfl, by simp [oddL], lint G _⟩
    have hodd : ∀ i : Nat, i < 8 → PyData.int (i : Int) ∈ oddL := fun i h => odd_int h
    refine seq_if (fun σ' G => σ' = [some (.ref d), some (.int m), some (.ref ra), some (.ref lo), none] ∧ Kp [d, cs] H3 G ∧ TK H3 G ∧ Deck3 G d cs (n + 1)) ?rest (fun rest => ?_)
    case rest =>
      rintro σ' G ⟨rfl, k4, t4, D4⟩
      have m1 := R.m1
      have m8 := R.m8
      refine ⟨_, rfl, d, cs, 2, _, rfl, by decide, by decide, by omega, D4, fun q G5 q0 q1 k5 D5 t5 => ?_⟩
      refine ⟨rfl, _, rfl, iteI (fun _ => ?_) fun _ => ?_⟩
      · refine ⟨_, rfl, _, rfl, d, cs, _, _, rfl, by omega, by omega, by omega, D5, fun i G6 i0 i1 k6 D6 t6 => ?_⟩
        refine ⟨_, rfl, _, rfl, d, cs, _, _, rfl, by omega, by omega, by omega, D6, fun j G7 j0 j1 k7 D7 t7 => ?_⟩
        refine ⟨(by show 2 ≤ sizeLine; decide), fun t n_t => ?_⟩
        obtain ⟨G8, e_G8, s8, h8⟩ := new_any n_t
        rw [← e_G8]
        clear e_G8
        obtain ⟨i, rfl⟩ : ∃ i' : Nat, i = (i' : Int) := ⟨i.toNat, by omega⟩
        obtain ⟨j, rfl⟩ : ∃ j' : Nat, j = (j' : Int) := ⟨j.toNat, by omega⟩
        have kk := (Kp.of s03).trans (k4.trans (k5.trans (k6.trans k7)))
        exact k G8 t _ _ _ _ (kk.trans (Kp.of s8)) ((D7.same s8).mono (by omega)) (freshD D0 kk D7 n_t) h8 (hodd i (by omega)) (hodd j (by omega)) (lint _ _) (lint _ _)
      · refine ⟨_, rfl, _, rfl, d, cs, 11, _, rfl, by decide, by decide, by omega, D5, fun i G6 i0 i1 k6 D6 t6 => ?_⟩
        have k36 := k4.trans (k5.trans k6)
        obtain ⟨x, px, ex, ox, lx⟩ := pick G6 i i0 i1 k36
        refine ⟨lo, _, i, x, rfl, rfl, SqL.of (k36 _ _ nlo h3), ex, ?_⟩
        refine ⟨_, rfl, _, rfl, d, cs, 11, _, rfl, by decide, by decide, by omega, D6, fun j G7 j0 j1 k7 D7 t7 => ?_⟩
        have k37 := k36.trans k7
        obtain ⟨y, py, ey, oy, ly⟩ := pick G7 j j0 j1 k37
        refine ⟨lo, _, j, y, rfl, rfl, SqL.of (k37 _ _ nlo h3), ey, ?_⟩
        refine ⟨(by show 2 ≤ sizeLine; decide), fun t n_t => ?_⟩
        obtain ⟨G8, e_G8, s8, h8⟩ := new_any n_t
        rw [← e_G8]
        clear e_G8
        have kk := (Kp.of s03).trans (k37.trans (Kp.of s8))
        exact k G8 t x y px py kk ((D7.same s8).mono (by omega)) (freshD D0 ((Kp.of s03).trans k37) D7 n_t) h8 ox oy (lx.on (k7.trans (Kp.of s8)) tk0) (ly.on (Kp.of s8) tk0)
    have hT3 := hT.tk (TK.of s03)
    obtain ⟨xs, hxs, rx⟩ := hT3.inv
    have lx := RpL.len _ _ rx
    rw [List.length_map] at lx
    have lr := R.few
    refine ⟨_, rfl, Nat.zero_le _, fun p n_p => ?_⟩
    generalize e_H4 : upd _ p _ = H4
    obtain ⟨s4, r4⟩ := new_tup (K := K) n_p e_H4 (by walk_at "rpl")
    clear e_H4
    refine ⟨_, _, Rp.dp _ _ (hT3.tk (TK.of s4)), Rp.dp _ _ r4, rds_shp rs, rfl, _, rfl, ?_⟩
    rw [rds_nil]
    have D4 := D3.same s4
    refine iteNP (fun ne => ?_) (fun _ => rest _ _ ⟨rfl, Kp.of s4, TK.of s4, D4.mono (by omega)⟩)
    have lr0 : 0 < rs.length := List.length_pos_iff.mpr ne
    refine ⟨_, rfl, d, cs, 4, _, rfl, by decide, by decide, by omega, D4, fun q G5 q0 q1 k5 D5 t5 => ⟨_, _, rfl, rfl, _, rfl, iteP (fun _ => ?_) (fun _ => rest _ _ ⟨rfl, (Kp.of s4).trans k5, (TK.of s4).trans t5, D5⟩)⟩⟩
    have hx5 := SqT.tk hxs ((TK.of s4).trans t5)
    refine ⟨_, rfl, _, rfl, _, rfl, _, xs.length, rfl, .inr ⟨_, hx5, rfl⟩, d, cs, _, _, rfl, by omega, by omega, by omega, D5, fun i G6 i0 i1 k6 D6 t6 => ?_⟩
    obtain ⟨i, rfl⟩ : ∃ i' : Nat, i = (i' : Int) := ⟨i.toNat, by omega⟩
    have hi : i < rs.length := by omega
    have t36 := (TK.of s4).trans (t5.trans t6)
    obtain ⟨v, ev, rv⟩ := RpL.get _ _ (RpL.tk t36 _ _ rx) i (rdD rs[i]) (by rw [List.getElem?_map, List.getElem?_eq_getElem hi]; rfl)
    obtain ⟨tr, rfl, ht⟩ := Rp.rd rv
    have okr := R.ok _ (List.getElem_mem hi)
    have m8 := R.m8
    generalize rs[i] = r at ht okr
    unfold RdOk at okr
    refine ⟨ra, _, _, _, rfl, rfl, SqT.tk hxs t36, atI_nat ev, ?_⟩
    dsimp only [gName, List.set]
    refine ⟨_, rfl, ?_⟩
    dsimp only [tNoPart]
    refine ⟨_, rfl, slA_2of4 ht fun G7 y1 s7 n7 g7 => ?_⟩
    have ht7 := SqT.sm ht s7
    refine ⟨_, rfl, tr, _, 1, _, rfl, rfl, ht7, rfl, _, rfl, tr, _, 0, _, rfl, rfl, ht7, rfl, (by show 2 ≤ sizeLine; decide), fun p2 n_p2 => ?_⟩
    obtain ⟨G8, e_G8, s8, h8⟩ := new_any n_p2
    rw [← e_G8]
    clear e_G8
    refine ⟨(by show 2 ≤ sizeLine; decide), fun ll n_ll => ?_⟩
    obtain ⟨G9, e_G9, s9, h9⟩ := new_any n_ll
    rw [← e_G9]
    clear e_G9
    have D9 := ((D6.same s7).same s8).same s9
    refine ⟨_, rfl, d, cs, 2, _, rfl, by decide, by decide, by omega, D9, fun z GA z0 z1 kA DA tA => ?_⟩
    have g7A : GA y1 = some (.tup [.int r.a, .int r.b]) := tA.1 _ _ (s9 _ _ (s8 _ _ g7))
    have h8A : GA p2 = some (.tup [.int r.b, .int r.a]) := tA.1 _ _ (s9 _ _ h8)
    have k06 := (Kp.of s03).trans ((Kp.of s4).trans (k5.trans k6))
    have k09 := k06.trans (Kp.of (s7.trans (s8.trans s9)))
    have n_p20 : H p2 = none := freshD D0 (k06.trans (Kp.of s7)) (D6.same s7) n_p2
    have n_y1 : H y1 = none := freshD D0 k06 D6 n7
    have h9A : GA ll = some (.lst [.ref y1, .ref p2]) := kA _ _ (nin2 (((D6.same s7).same s8).new n_ll).1 (((D6.same s7).same s8).new n_ll).2) h9
    have zc : z = 0 ∨ z = 1 := by omega
    rcases zc with rfl | rfl
    · exact ⟨ll, _, 0, .ref y1, rfl, rfl, SqL.of h9A, rfl, k GA y1 _ _ _ _ (k09.trans kA) (DA.mono (by omega)) n_y1 g7A (hodd _ (by omega)) (hodd _ (by omega)) (lint _ _) (lint _ _)⟩
    · exact ⟨ll, _, 1, .ref p2, rfl, rfl, SqL.of h9A, rfl, k GA p2 _ _ _ _ (k09.trans kA) (DA.mono (by omega)) n_p20 h8A (hodd _ (by omega)) (hodd _ (by omega)) (lint _ _) (lint _ _)⟩
theorem scLRow : FnScope ["_law_roads_here", "_law_pair_here", "_law_found", "_law_one", "_law_at"] ["_law_roads_here", "_law_pair_here"] (defScope sLRow) := ⟨rfl, rfl, rfl, by decide +kernel, rfl, by decide +kernel, by decide +kernel⟩
theorem ok_lrow {f : Addr} {fd : FuncData} (F : Fun K "_law_row_of" "_law_row_of" sLRow f fd) (B : KB2 mg) : FnOk P w K mg base CX0 1 f fd ["_law_roads_here", "_law_pair_here"] (spLRow K) := by
  refine F.ok scLRow (fun vs H Q E h => ?_) (fun cdv A outer s H vs Q E hr h => ?_)
  · obtain ⟨ra, t, rs, x, y, px, py, rfl, _⟩ := h
    rfl
  · obtain ⟨ra, t, rs, x, y, px, py, rfl, hT, lr, ht, ox, oy, hx, hy, k⟩ := h
    have hu := hu_of hr
    refine ⟨_, (pss_cons (ps_if (pt_cmpR (neDK (K := K) rfl hr.units) (pe_lc (own := [("_law_one", 3)]) (g := (gName 3)) (tt := _) rfl scLRow.nd (pi_tup (pv 1)) (blkOk_by (N := ["_law_roads_here", "_law_pair_here", "_law_found", "_law_one", "_law_at"]) (sc := defScope sLRow) (by decide +kernel))
       (fun _ _ _ _ _ => (pg_name (i := 3) scLRow.nd rfl (Or.inl rfl))) (fun _ _ _ _ _ => (pts_one (PW.pt (pw_or (pt_not (pt_val (pe_callB (isiK (K := K) rfl) (by rfl) B.isinstance (by decide +kernel) (pa_cons (pv 3) (pa_cons (pe_bltn (v := .ty "int") (by rfl) B.int PyProof.Rows.boot_int rfl) pa_nil))))) (pw_or1 (pt_val (pe_callB (isiK (K := K) rfl) (by rfl) B.isinstance (by decide +kernel) (pa_cons (pv 3) (pa_cons (pe_bltn (v := .ty "bool") (by rfl) B.bool PyProof.Rows.boot_bool rfl) pa_nil))))))))) (fun _ _ _ _ _ => (pv 3))) (pe_lst pa_nil) (nomark _))
       (pss_one (ps_ret (pe_un un_neg pe_int)))
       pss_nil)
       (pss_cons (ps_setLc (i := 2) (own := [("_law_at", 4)]) (g := (gName 4)) (tt := _) rfl scLRow.nd rfl rfl (sw_true rfl rfl rfl (by decide +kernel)) (pi_range1 rfl B.range (pa_cons (pe_callB (lenK (K := K) rfl) (by rfl) B.len PySem.boot_len (pa_cons (pv 0) pa_nil)) pa_nil)) (blkOk_by (N := ["_law_roads_here", "_law_pair_here", "_law_found", "_law_one", "_law_at"]) (sc := defScope sLRow) (by decide +kernel))
       (fun _ _ _ _ _ => (pg_name (i := 4) scLRow.nd rfl (Or.inl rfl))) (fun _ _ _ _ _ => (pts_one (pt_cmpR (inDK (K := K) rfl (room65 hr)) (pe_slice (slA (K := K) rfl) (pe_ix (ixT (K := K) rfl) (pv 0) (pv 4) (fun _ _ => rfl)) po_none (po_some pe_int)) (pe_lst (pa_cons (pv 1) (pa_cons (pe_tup (pa_cons (pe_ix (ixT (K := K) rfl) (pv 1) pe_int (fun _ _ => rfl)) (pa_cons (pe_ix (ixT (K := K) rfl) (pv 1) pe_int (fun _ _ => rfl)) pa_nil))) pa_nil))) (by rfl)))) (fun _ _ _ _ _ => (pv 4)))
       (pss_one (ps_ret (pe_ix (ixL (K := K) rfl) (pe_op op_cat (pv 2) (pe_lst (pa_cons (pe_un un_neg pe_int) pa_nil))) pe_int (fun _ _ => rfl)))))), ?_⟩
    have htT := SqT.of (K := K) ht
    refine ⟨_, rfl, t, rfl, ⟨_, htT⟩, fun D n_D => ?_⟩
    refine comp_ls (L := [(x, px), (y, py)]) (walk_tup (K := K) (a := t) (xs := [x, y])) (fun H' s' => SqT.sm htT s') (fun q => notI q.2) (fun q => q.1) n_D (by show 2 ≤ 1000000; decide) ?_ ?_
    · rintro j ⟨z, pz⟩ z' H' H'' Q' N ej s' ⟨rfl, ez⟩ hQ hN
      have hz : z' = z ∧ Dp K H'' z pz := by
        match j with
        | 0 => cases ej; cases ez; exact ⟨rfl, dp_sm hx s'⟩
        | 1 => cases ej; cases ez; exact ⟨rfl, dp_sm hy s'⟩
        | j + 2 => cases ej
      obtain ⟨rfl, hd⟩ := hz
      refine ⟨rfl, _, rfl, _, _, _, _, _, rfl, .ty _, Wn.Dp.ty hd, kit_int pz, _, rfl, iteNP (fun c => ?_) (fun c => ?_)⟩
      · refine iteT ⟨_, rfl, hQ ?_ _ (L2.Same.refl _)⟩
        show notI pz = true
        rw [notI_ty, decide_eq_false (fun z => c (.inl z))]
        rfl
      · refine ⟨_, rfl, _, _, _, _, _, rfl, .ty _, Wn.Dp.ty hd, kit_bool pz, _, rfl, iteP (fun c2 => ?_) (fun c2 => ?_)⟩
        · refine ⟨_, rfl, hQ ?_ _ (L2.Same.refl _)⟩
          show notI pz = true
          rw [notI_ty, c2]
          rfl
        · refine hN ?_ _ (L2.Same.refl _)
          show notI pz = false
          rw [notI_ty, decide_eq_true (c.resolve_right c2)]
          rfl
    · intro H1 s1 hD
      have hdp : ∃ vs ds, ([(x, px), (y, py)].filter fun q => notI q.2).map (fun q => q.1) = vs ∧ ([(x, px), (y, py)].filter fun q => notI q.2).map (fun q => q.2) = ds ∧ DpAll K H1 vs ds := ⟨_, _, rfl, rfl, by
        have h1 := dp_sm hx s1
        have h2 := dp_sm hy s1
        cases e1 : notI px <;> cases e2 : notI py <;> simp only [List.filter_cons, e1, e2, List.filter_nil, List.map_cons, List.map_nil, Bool.false_eq_true, if_false, if_true]
        · exact .nil
        · exact .cons h2 .nil
        · exact .cons h1 .nil
        · exact .cons h1 (.cons h2 .nil)⟩
      obtain ⟨vs, ds, ev, ed, hA⟩ := hdp
      rw [ev] at hD
      have hsh : SeqAt.shaped (.list ds) = true := by
        rw [← ed]
        have h0 : (oddL.all fun a => oddL.all fun b => SeqAt.shaped (.list [a, b]) && (SeqAt.shaped (.list [a]) && SeqAt.shaped (.list []))) = true := by decide +kernel
        have h1 := List.all_eq_true.mp (List.all_eq_true.mp h0 px ox) py oy
        have h2 := List.all_eq_true.mp (List.all_eq_true.mp h0 py oy) py oy
        simp only [Bool.and_eq_true] at h1 h2
        cases e1 : notI px <;> cases e2 : notI py <;> simp only [List.filter_cons, e1, e2, List.filter_nil, List.map_cons, List.map_nil, Bool.false_eq_true, if_false, if_true]
        · exact h1.2.2
        · exact h2.2.1
        · exact h1.2.1
        · exact h1.1
      refine ⟨Nat.zero_le _, fun l2 n_l2 => ?_⟩
      obtain ⟨H2, e_H2, s2, h2⟩ := new_any n_l2
      rw [← e_H2]
      clear e_H2
      refine ⟨.list ds, .list [], .lst (SqL.of (s2 _ _ hD)) (dpAll_sm hA s2), .lst (SqL.of h2) .nil, hsh, rfl, _, rfl, ?_⟩
      have e0 : (!PyData.eqv (.list ds) (.list [])) = !decide (ds = []) := by cases ds <;> rfl
      rw [e0]
      have s02 := s1.trans s2
      refine iteNP (fun ne => ?_) (fun e => ?_)
      · have er : rowNo rs px py = -1 := by
          unfold rowNo
          split
          · exact absurd (by rw [← ed]; rfl) ne
          · rfl
        refine ⟨_, rfl, ?_⟩
        have := k H2 s02
        rw [er] at this
        exact this
      · rw [← ed] at e
        obtain ⟨i, j2, rfl, rfl⟩ : ∃ i j2, px = .int i ∧ py = .int j2 := by
          cases e1 : notI px <;> cases e2 : notI py <;> simp only [List.filter_cons, e1, e2, List.filter_nil, List.map_cons, List.map_nil, Bool.false_eq_true, if_false, if_true] at e
          · cases px <;> cases py <;> first | exact ⟨_, _, rfl, rfl⟩ | exact Bool.noConfusion e1 | exact Bool.noConfusion e2
          · cases e
          · cases e
          · cases e
        cases hx
        cases hy
        obtain ⟨xs, hxs, rx⟩ := (hT.tk (TK.of s02)).inv
        have lx := RpL.len _ _ rx
        rw [List.length_map] at lx
        refine ⟨_, rfl, _, xs.length, rfl, .inr ⟨_, hxs, rfl⟩, xs.length, rfl, by omega, by omega, fun D2 n_D2 => ?_⟩
        rw [show ((xs.length : Int)).toNat = rs.length by omega]
        have ht2 := s02 _ _ ht
        refine comp_ls (L := List.range rs.length) (walk_range.cast (List.length_range).symm) (fun _ _ => trivial) (fun q => (rs[q]?.map (hitR i j2)).getD false) (fun q => .int q) n_D2 (by rw [List.length_range]; omega) ?_ ?_
        · rintro j b' z' H3 H3' Q' N ej s3 ⟨rfl, rfl⟩ hQ hN
          have hj : j < rs.length := by
            have := (List.getElem?_eq_some_iff.mp ej).1
            rwa [List.length_range] at this
          have ej : b' = j := by
            rw [List.getElem?_range hj] at ej
            exact (Option.some.inj ej).symm
          subst ej
          obtain ⟨v, ev, rv⟩ := RpL.get _ _ (RpL.tk' rx (TK.of s3)) b' (rdD rs[b']) (by rw [List.getElem?_map, List.getElem?_eq_getElem hj]; rfl)
          have ep : (rs[b']?.map (hitR i j2)).getD false = hitR i j2 rs[b'] := by rw [List.getElem?_eq_getElem hj]; rfl
          rw [ep] at hQ hN
          obtain ⟨tr, rfl, htr⟩ := Rp.rd rv
          generalize rs[b'] = r at htr hQ hN
          refine ⟨rfl, _, rfl, _, rfl, ra, _, _, _, rfl, rfl, SqT.sm hxs s3, by rw [show (0 : Int) + (b' : Int) = (b' : Int) by omega]; exact atI_nat ev, ?_⟩
          dsimp only [tNoPart]
          refine ⟨_, rfl, slA_2of4 htr fun H4 y1 s4 n4 g4 => ?_⟩
          have ht4 := SqT.of (K := K) (s4 _ _ (s3 _ _ ht2))
          refine ⟨_, rfl, _, rfl, t, _, 1, _, rfl, rfl, ht4, rfl, _, rfl, t, _, 0, _, rfl, rfl, ht4, rfl, (by show 2 ≤ sizeLine; decide), fun p1 n_p1 => ?_⟩
          obtain ⟨H5, e_H5, s5, h5⟩ := new_any n_p1
          rw [← e_H5]
          clear e_H5
          refine ⟨(by show 2 ≤ sizeLine; decide), fun l3 n_l3 => ?_⟩
          obtain ⟨H6, e_H6, s6, h6⟩ := new_any n_l3
          rw [← e_H6]
          clear e_H6
          have s46 := s5.trans s6
          refine ⟨.tuple [.int r.a, .int r.b], [.tuple [.int i, .int j2], .tuple [.int j2, .int i]], .tup (SqT.of (s46 _ _ g4)) (.cons (.int _) (.cons (.int _) .nil)), .lst (SqL.of h6) (.cons (.tup (SqT.sm ht4 s46) (.cons (.int _) (.cons (.int _) .nil))) (.cons (.tup (SqT.of (s6 _ _ h5)) (.cons (.int _) (.cons (.int _) .nil))) .nil)), rfl, rfl, _, rfl, ?_⟩
          have e : (List.any [PyData.tuple [.int i, .int j2], .tuple [.int j2, .int i]] fun z => PyData.eqv z (.tuple [.int r.a, .int r.b])) = hitR i j2 r := by
            unfold hitR
            rw [Bool.eq_iff_iff]
            simp [PyData.eqv, PyData.eqvAll]
            omega
          rw [e]
          refine iteB (fun c => ?_) (fun c => hN c _ (s4.trans s46))
          have := hQ c _ (s4.trans s46)
          exact ⟨_, rfl, by rw [show (0 : Int) + (b' : Int) = (b' : Int) by omega]; exact this⟩
        · intro H3 s3 hD3
          dsimp only [gName, List.set, tNext, L2.start]
          refine ⟨_, rfl, _, rfl, (by show 1 ≤ sizeLine; decide), fun l4 n_l4 => ?_⟩
          obtain ⟨H4, e_H4, s4, h4⟩ := new_any n_l4
          rw [← e_H4]
          clear e_H4
          have hl : ((List.range rs.length).filter fun q => (rs[q]?.map (hitR i j2)).getD false).length ≤ 14 := by
            have := List.length_filter_le (fun q => (rs[q]?.map (hitR i j2)).getD false) (List.range rs.length)
            rw [List.length_range] at this
            omega
          refine ⟨D2, l4, _, _, rfl, rfl, s4 _ _ hD3, h4, Nat.le_trans (by show _ ≤ 15; rw [List.length_map, List.length_singleton]; omega) (by decide), fun p5 n_p5 => ?_⟩
          obtain ⟨H5, e_H5, s5, h5⟩ := new_any n_p5
          rw [← e_H5]
          clear e_H5
          refine ⟨p5, _, 0, .int (rowNo rs (.int i) (.int j2)), rfl, rfl, SqL.of h5, ?_, k H5 (s02.trans (s3.trans (s4.trans s5)))⟩
          unfold rowNo
          dsimp only
          cases (List.range rs.length).filter fun q => (rs[q]?.map (hitR i j2)).getD false with
          | nil => rfl
          | cons a b => exact atI_nat (xs := List.map (fun q : Nat => V.int (q : Int)) (a :: b) ++ [V.int (-1)]) (j := 0) rfl
theorem scLNear : FnScope ["_law_roads_here", "_law_up", "_law_house", "_law_found", "_law_at", "_law_a", "_law_b", "_law_delay", "_law_size"] ["_law_roads_here", "_law_up", "_law_house"] (defScope sLNear) := ⟨rfl, rfl, rfl, by decide +kernel, rfl, by decide +kernel, by decide +kernel⟩
theorem ok_lnear {f : Addr} {fd : FuncData} (F : Fun K "_law_near" "_law_near" sLNear f fd) (B : KB2 mg) : FnOk P w K mg base CX0 1 f fd ["_law_roads_here", "_law_up", "_law_house"] (spLNear K) := by
  refine F.ok scLNear (fun vs H Q E h => ?_) (fun cdv A outer s H vs Q E hr h => ?_)
  · obtain ⟨ra, ua, L, hh, rfl, _⟩ := h
    rfl
  · obtain ⟨ra, ua, L, hh, rfl, hT, R, hU, k⟩ := h
    have hu := hu_of hr
    refine ⟨_, (pss_cons (ps_set (i := 3) scLNear.nd rfl (Or.inl rfl) (pe_lst pa_nil))
       (pss_cons (ps_for PassesOwn.never rfl (pi_range1 rfl B.range (pa_cons (pe_callB (lenK (K := K) rfl) (by rfl) B.len PySem.boot_len (pa_cons (pv 0) pa_nil)) pa_nil)) (pg_name (i := 4) scLNear.nd rfl (Or.inl rfl))
       (pss_cons (ps_asg (pe_ix (ixT (K := K) rfl) (pv 0) (pv 4) (fun _ _ => rfl)) (pg_tup rfl (pgs_cons (pg_name (i := 5) scLNear.nd rfl (Or.inl rfl)) (pgs_cons (pg_name (i := 6) scLNear.nd rfl (Or.inl rfl)) (pgs_cons (pg_name (i := 7) scLNear.nd rfl (Or.inl rfl)) (pgs_cons (pg_name (i := 8) scLNear.nd rfl (Or.inl rfl)) pgs_nil))))))
       (pss_cons (ps_if (PW.pt (pw_and (pt_val (pe_ix (ixL (K := K) rfl) (pv 1) (pv 4) (fun _ _ => rfl))) (pw_and1 (pt_cmpR op_eq (pv 5) (pv 2) (nomark _)))))
       (pss_one (ps_expr (pe_bm PySem.F.plainAttrs_list PySem.F.slot_list_append PySem.F.type_list_append mt_append (pv 3) (pa_cons (pe_tup (pa_cons (pv 6) (pa_cons (pv 7) (pa_cons (pv 8) pa_nil)))) pa_nil))))
       pss_nil)
       (pss_one (ps_if (PW.pt (pw_and (pt_val (pe_ix (ixL (K := K) rfl) (pv 1) (pv 4) (fun _ _ => rfl))) (pw_and1 (pt_cmpR op_eq (pv 6) (pv 2) (nomark _)))))
       (pss_one (ps_expr (pe_bm PySem.F.plainAttrs_list PySem.F.slot_list_append PySem.F.type_list_append mt_append (pv 3) (pa_cons (pe_tup (pa_cons (pv 5) (pa_cons (pv 7) (pa_cons (pv 8) pa_nil)))) pa_nil))))
       pss_nil)))))
       (pss_one (ps_ret (pe_callTy (tupOfK (K := K) rfl) (by rfl) B.tuple PyProof.Rows.boot_tuple (pa_cons (pe_callB (sortUK (K := K) (d := 3) (B := 100) rfl (by decide)) (by rfl) B.sorted (by decide +kernel) (pa_cons (pv 3) pa_nil)) pa_nil)))))), ?_⟩
    obtain ⟨xs, hxs, rx⟩ := hT.inv
    have lx := RpL.len _ _ rx
    rw [List.length_map] at lx
    have lr := R.few
    refine ⟨Nat.zero_le _, fun fo n_fo => ?_⟩
    obtain ⟨H1, e_H1, s1, g1⟩ := new_any n_fo
    rw [← e_H1]
    clear e_H1
    have hxs1 := SqT.sm hxs s1
    refine ⟨_, rfl, _, xs.length, rfl, .inr ⟨_, hxs1, rfl⟩, xs.length, rfl, by omega, by omega, ?_⟩
    rw [show ((xs.length : Int)).toNat = xs.length by omega]
    refine for_it walk_range (fun i σ H' => ∃ v4 v5 v6 v7 v8 : Option V, σ = [some (.ref ra), some (.ref ua), some (.int hh), some (.ref fo), v4, v5, v6, v7, v8] ∧ Same H H' ∧ LstAt K H' fo (((L.rs.take i).filterMap (nbr1 L hh)).map nbD)) ⟨_, _, _, _, _, rfl, s1, ⟨[], g1, RpL.nil⟩⟩ (fun _ _ _ _ _ => trivial) ?_ ?_
    · rintro i z σ H2 H2' hi0 ⟨v4, v5, v6, v7, v8, rfl, s2, zs, hz2, rz2⟩ ⟨rfl, rfl⟩
      have hi : i < L.rs.length := by omega
      obtain ⟨v, ev, rv⟩ := RpL.get _ _ rx i (rdD L.rs[i]) (by rw [List.getElem?_map, List.getElem?_eq_getElem hi]; rfl)
      have et : L.rs.take (i + 1) = L.rs.take i ++ [L.rs[i]] := List.take_succ_eq_append_getElem hi
      obtain ⟨t, rfl, ht⟩ := Rp.rd (Rp.tk' rv (TK.of s2))
      have okr := R.ok _ (List.getElem_mem hi)
      have ll : ((L.rs.take i).filterMap (nbr1 L hh)).length ≤ 14 := by
        have h1 := List.length_filterMap_le (nbr1 L hh) (L.rs.take i)
        rw [List.length_take] at h1
        omega
      have lz := RpL.len _ _ rz2
      rw [List.length_map] at lz
      have eup : ((upOf L).map V.bl)[i]? = some (.bl (!decide ((L.rs[i].a, L.rs[i].b) ∈ L.fallen))) := by
        unfold upOf
        rw [List.getElem?_map, List.getElem?_map, List.getElem?_eq_getElem hi]
        rfl
      rw [et]
      generalize L.rs[i] = r at ht okr eup
      rw [List.filterMap_append]
      unfold RdOk at okr
      refine ⟨_, rfl, _, rfl, ra, _, _, _, rfl, rfl, SqT.sm hxs s2, by rw [show (0 : Int) + (i : Int) = (i : Int) by omega]; exact atI_nat ev, ?_⟩
      refine ⟨t, _, rfl, ht, rfl, _, _, rfl, _, _, rfl, _, _, rfl, _, _, rfl, rfl, ?_⟩
      dsimp only [gName, List.set]
      refine seq_if (fun σ' H' => σ' = [some (.ref ra), some (.ref ua), some (.int hh), some (.ref fo), some (.int (0 + (i : Int))), some (.int r.a), some (.int r.b), some (.int r.delay), some (.int r.size)] ∧ Same H H' ∧ LstAt K H' fo (((L.rs.take i).filterMap (nbr1 L hh) ++ (if (r.a, r.b) ∉ L.fallen ∧ hh = r.a then [(r.b, r.delay, r.size)] else [])).map nbD)) ?rest (fun rest => ?_)
      case rest =>
        rintro σ' H3 ⟨rfl, s3, zs3, hz3, rz3⟩
        have lz3 := RpL.len _ _ rz3
        have l1 : (if (r.a, r.b) ∉ L.fallen ∧ hh = r.a then [(r.b, r.delay, r.size)] else []).length ≤ 1 := by split <;> simp
        rw [List.length_map, List.length_append] at lz3
        have no : (r.a, r.b) ∈ L.fallen ∨ hh ≠ r.b → [r].filterMap (nbr1 L hh) = (if (r.a, r.b) ∉ L.fallen ∧ hh = r.a then [(r.b, r.delay, r.size)] else []) := fun h => by
          rw [List.filterMap_cons]
          unfold nbr1
          by_cases c1 : (r.a, r.b) ∈ L.fallen
          · rw [if_neg (fun z => z.2 c1), if_neg (fun z => z.1 c1)]
            rfl
          · have hb := h.resolve_left c1
            by_cases c2 : hh = r.a
            · rw [if_pos ⟨.inl c2, c1⟩, if_pos ⟨c1, c2⟩, show r.a + r.b - hh = r.b by omega]
              rfl
            · rw [if_neg (fun z => z.1.elim c2 hb), if_neg (fun z => c2 z.2)]
              rfl
        refine ⟨_, rfl, _, rfl, ua, _, _, _, rfl, rfl, SqL.of (s3 _ _ hU), by rw [show (0 : Int) + (i : Int) = (i : Int) by omega]; exact atI_nat eup, _, rfl, iteNP (fun c1 => ?_) (fun c1 => ?_)⟩
        · refine ⟨_, rfl, _, rfl, rfl, _, rfl, iteI (fun c2 => ?_) (fun c2 => ?_)⟩
          · refine ⟨_, rfl, .inl ⟨rfl, _, SqL.of hz3⟩, _, rfl, _, rfl, _, rfl, (by show 3 ≤ sizeLine; decide), fun p3 n_p3 => ?_⟩
            obtain ⟨q1, q2, q3, q4⟩ := push_tup (ds := [.int (r.a : Int), .int r.delay, .int r.size]) hz3 rz3 n_p3 (RpL.cons Rp.int (RpL.cons Rp.int (RpL.cons Rp.int RpL.nil)))
            refine ⟨fo, _, _, rfl, rfl, q1, Nat.lt_of_le_of_lt (show zs3.length ≤ 1000 by omega) (by decide), ?_⟩
            refine ⟨_, _, _, _, _, rfl, fun b o e => q4 b o (nin1 (ne_of_none e n_fo)) (s3 _ _ e), ?_⟩
            have e1 : [r].filterMap (nbr1 L hh) = [(r.a, r.delay, r.size)] := by
              rw [List.filterMap_cons]
              unfold nbr1
              rw [if_pos ⟨.inr (by omega), c1⟩, show r.a + r.b - hh = r.a by omega]
              rfl
            rw [if_neg (fun z => by have := z.2; omega), List.append_nil] at q2
            rw [e1, List.map_append]
            exact q2
          · refine ⟨_, _, _, _, _, rfl, s3, ⟨zs3, hz3, ?_⟩⟩
            rw [no (.inr (by omega))]
            exact rz3
        · refine ⟨_, _, _, _, _, rfl, s3, ⟨zs3, hz3, ?_⟩⟩
          rw [no (.inl c1)]
          exact rz3
      refine ⟨_, rfl, _, rfl, ua, _, _, _, rfl, rfl, SqL.of (s2 _ _ hU), by rw [show (0 : Int) + (i : Int) = (i : Int) by omega]; exact atI_nat eup, _, rfl, iteNP (fun c1 => ?_) (fun c1 => ?_)⟩
      · refine ⟨_, rfl, _, rfl, rfl, _, rfl, iteI (fun c2 => ?_) (fun c2 => ?_)⟩
        · refine ⟨_, rfl, .inl ⟨rfl, _, SqL.of hz2⟩, _, rfl, _, rfl, _, rfl, (by show 3 ≤ sizeLine; decide), fun p3 n_p3 => ?_⟩
          obtain ⟨q1, q2, q3, q4⟩ := push_tup (ds := [.int (r.b : Int), .int r.delay, .int r.size]) hz2 rz2 n_p3 (RpL.cons Rp.int (RpL.cons Rp.int (RpL.cons Rp.int RpL.nil)))
          refine ⟨fo, _, _, rfl, rfl, q1, Nat.lt_of_le_of_lt (show zs.length ≤ 1000 by omega) (by decide), ?_⟩
          refine rest _ _ ⟨rfl, fun b o e => q4 b o (nin1 (ne_of_none e n_fo)) (s2 _ _ e), ?_⟩
          rw [if_pos ⟨c1, by omega⟩, List.map_append]
          exact q2
        · refine rest _ _ ⟨rfl, s2, ⟨zs, hz2, ?_⟩⟩
          rw [if_neg (fun z => by have := z.2; omega), List.append_nil]
          exact rz2
      · refine rest _ _ ⟨rfl, s2, ⟨zs, hz2, ?_⟩⟩
        rw [if_neg (fun z => z.1 c1), List.append_nil]
        exact rz2
    · rintro σ H2 ⟨v4, v5, v6, v7, v8, rfl, s2, zs, hz2, rz2⟩
      rw [lx, List.take_length] at rz2
      have rz2 : RpL K H2 ((nbrs L hh).map nbD) zs := rz2
      have lz := RpL.len _ _ rz2
      rw [List.length_map] at lz
      have ll : (nbrs L hh).length ≤ 14 := by
        have h1 := List.length_filterMap_le (nbr1 L hh) L.rs
        unfold nbrs
        omega
      have inv : ∀ (i : Nat) (x : V), zs[i]? = some x → ∃ (q : Nat × Nat × Nat) (u : Addr), (nbrs L hh)[i]? = some q ∧ x = .ref u ∧ SqT K H2 u ([(q.1 : Int), q.2.1, q.2.2].map V.int) := fun i x e => by
        have hi : i < (nbrs L hh).length := by
          have := (List.getElem?_eq_some_iff.mp e).1
          omega
        obtain ⟨v, ev, rv⟩ := RpL.get _ _ rz2 i (nbD (nbrs L hh)[i]) (by rw [List.getElem?_map, List.getElem?_eq_getElem hi]; rfl)
        have ex : v = x := Option.some.inj (ev.symm.trans e)
        subst ex
        refine ⟨(nbrs L hh)[i], ?_⟩
        unfold nbD Rp at rv
        obtain ⟨u, ys, rfl, hu', ry⟩ := rv
        unfold RpL at ry
        obtain ⟨v0, r0, rfl, h0, ry⟩ := ry
        unfold RpL at ry
        obtain ⟨v1, r1, rfl, h1, ry⟩ := ry
        unfold RpL at ry
        obtain ⟨v2, r2, rfl, h2, ry⟩ := ry
        unfold RpL at ry
        subst ry
        rw [Rp.int_eq h0, Rp.int_eq h1, Rp.int_eq h2] at hu'
        exact ⟨u, List.getElem?_eq_getElem hi, rfl, hu'⟩
      refine ⟨_, rfl, fo, zs, rfl, SqL.of hz2, by omega, fun x hx => ?_, fun ys p perm srt n_p => ?_⟩
      · obtain ⟨i, hi, e⟩ := List.mem_iff_getElem.mp hx
        obtain ⟨q, u, eq, rfl, hq⟩ := inv i x (by rw [List.getElem?_eq_getElem hi, e])
        have bd := nbr_bd R (List.mem_of_getElem? eq)
        refine ⟨[(q.1 : Int), q.2.1, q.2.2], ⟨u, rfl, hq⟩, rfl, fun m hm => ?_⟩
        simp only [List.mem_cons, List.not_mem_nil, or_false] at hm
        omega
      have same : ys = zs := by
        refine sorted_self (lt := fun x y => ∃ n m, TupI K H2 x n ∧ TupI K H2 y m ∧ TS.code 100 n < TS.code 100 m) ?_ perm srt ?_
        · rintro x y ⟨n, m, h1, h2, h3⟩ h4
          have := h4 m n h2 h1
          omega
        · rw [List.pairwise_iff_getElem]
          intro i j hi hj hij
          obtain ⟨q, u, eq, e1, hq⟩ := inv i zs[i] (List.getElem?_eq_getElem hi)
          obtain ⟨q', u', eq', e1', hq'⟩ := inv j zs[j] (List.getElem?_eq_getElem hj)
          rw [e1, e1']
          refine ⟨_, _, ⟨u, rfl, hq⟩, ⟨u', rfl, hq'⟩, ?_⟩
          have bd := nbr_bd R (List.mem_of_getElem? eq)
          have bd' := nbr_bd R (List.mem_of_getElem? eq')
          have up := nbrs_up R hh
          rw [List.pairwise_map, List.pairwise_iff_getElem] at up
          have hi' := (List.getElem?_eq_some_iff.mp eq).1
          have hj' := (List.getElem?_eq_some_iff.mp eq').1
          have lt := up i j hi' hj' hij
          rw [(List.getElem?_eq_some_iff.mp eq).2, (List.getElem?_eq_some_iff.mp eq').2] at lt
          rw [code3, code3]
          omega
      subst same
      obtain ⟨H3, e_H3, s3, g3⟩ := new_any n_p
      rw [← e_H3]
      clear e_H3
      refine ⟨p, ys, rfl, .inl ⟨SqL.of g3, fun t n_t => ?_⟩⟩
      generalize e_H4 : upd _ t _ = H4
      obtain ⟨s4, r4⟩ := new_tup (K := K) n_t e_H4 (by walk_at "rpl")
      clear e_H4
      exact k H4 t (by walk_at "same") r4
end
end Wn

set_option maxHeartbeats 1600000
namespace Wn
open PySem L2
set_option pp.maxSteps 700
set_option pp.deepTerms false
local macro_rules | `(tactic| walk_at "h") => `(tactic| first | with_reducible assumption | (with_reducible exact upd_same) | (with_reducible apply g_upd; (walk_at "neq"); (walk_at "h")) | (with_reducible apply g_same; (with_reducible assumption); (walk_at "h")) | (with_reducible apply g_kp; (with_reducible assumption); (walk_at "nin"); (walk_at "h")) | (with_reducible apply g_tk; (with_reducible assumption); (walk_at "h")))
local macro_rules | `(tactic| walk_at "neq") => `(tactic| first | with_reducible assumption | (with_reducible apply Ne.symm; with_reducible assumption) | (with_reducible apply ne_upd; (with_reducible assumption)) | (with_reducible apply Ne.symm; with_reducible apply ne_upd; with_reducible assumption) | (with_reducible apply ne_fr; (with_reducible assumption); (walk_at "h")) | (with_reducible apply ne_fr'; (with_reducible assumption); (walk_at "h")) | (with_reducible apply ne_kd; (walk_at "h"); (walk_at "h"); (with_unfolding_all (intro z; cases z))))
local macro_rules | `(tactic| walk_at "nin") => `(tactic| first | (with_reducible exact nin0) | with_reducible assumption | (with_reducible apply ninc; (walk_at "neq"); (walk_at "nin")))
local macro_rules | `(tactic| walk_at "none") => `(tactic| first | with_reducible assumption | (with_reducible apply n_upd; (with_reducible assumption)) | (with_reducible apply n_same; (with_reducible assumption); (walk_at "none")) | (with_reducible apply n_kp; (with_reducible assumption); (walk_at "nin"); (walk_at "none")))
local macro_rules | `(tactic| walk_at "mem") => `(tactic| first | (with_reducible exact List.mem_cons_self) | (with_reducible apply List.mem_cons_of_mem; (walk_at "mem")))
local macro_rules | `(tactic| walk_at "am") => `(tactic| first | (with_reducible exact am0) | (with_reducible apply am1; (first | (apply Or.inl; walk_at "mem") | (apply Or.inr; walk_at "none")); (walk_at "am")))
local macro_rules | `(tactic| walk_at "tk") => `(tactic| first | (with_reducible exact TK.refl _) | with_reducible assumption | (with_reducible apply t_tk; (with_reducible assumption); (walk_at "tk")) | (with_reducible apply t_same; (with_reducible assumption); (walk_at "tk")) | (with_reducible apply t_new; (with_reducible assumption); (walk_at "tk")) | (with_reducible apply t_wr; (walk_at "h"); (with_unfolding_all rfl); (walk_at "tk")))
local macro_rules | `(tactic| walk_at "same") => `(tactic| first | (with_reducible exact L2.Same.refl _) | with_reducible assumption | (with_reducible apply s_same; (with_reducible assumption); (walk_at "same")) | (with_reducible apply s_new; (with_reducible assumption); (walk_at "same")) | (with_reducible apply s_wrn; (walk_at "none"); (walk_at "same")))
local macro_rules | `(tactic| walk_at "kp") => `(tactic| first | (with_reducible exact Kp.refl _ _) | with_reducible assumption | (with_reducible apply k_same; (with_reducible assumption); (walk_at "kp")) | (with_reducible apply k_kp; (with_reducible assumption); (walk_at "kp")) | (with_reducible apply k_kpm; (with_reducible assumption); (walk_at "am"); (walk_at "kp")) | (with_reducible apply k_new; (with_reducible assumption); (walk_at "kp")) | (with_reducible apply k_wr; (walk_at "mem"); (walk_at "kp")) | (with_reducible apply k_wrn; (walk_at "none"); (walk_at "kp")))
local macro_rules | `(tactic| walk_at "rp") => `(tactic| first | with_reducible assumption | (with_reducible exact Rp.int) | (with_reducible exact Rp.str) | (with_reducible exact Rp.none) | (with_reducible exact Rp.bool) | (with_reducible apply Rp.tk'; (with_reducible assumption); (walk_at "tk")) | (with_reducible apply Rp.tup; (walk_at "h"); (walk_at "rpl")))
local macro_rules | `(tactic| walk_at "rpl") => `(tactic| first | with_reducible assumption | (with_reducible exact RpL.nil) | (with_reducible apply RpL.tk'; (with_reducible assumption); (walk_at "tk")) | (with_reducible apply RpL.cons; (walk_at "rp"); (walk_at "rpl")))
local macro_rules | `(tactic| walk_at "g") => `(tactic| repeat (first | refine ⟨_, rfl, ?_⟩ | refine ⟨_, _, rfl, rfl, ?_⟩ | refine ⟨rfl, _, rfl, ?_⟩ | refine ⟨_, _, rfl, rfl, (by first | decide | omega), ?_⟩))
abbrev sLaw : Stmt := top 146
theorem up_true {m : Nat} {rs : List Rd} {n : Nat} (h : n = rs.length) : (List.replicate (n : Int).toNat [V.bl true]).flatten = (upOf ⟨m, rs, []⟩).map V.bl := by
  rw [up_all, Int.toNat_natCast, h]
  generalize rs.length = q
  induction q with
  | zero => rfl
  | succ q ih => rw [List.replicate_succ, List.flatten_cons, ih, List.replicate_succ]; rfl
theorem toldGD_inv {K : PySem.W.Frag} {H : Hp} {G : Gd} {v : V} (h : Rp K H (toldGD G) v) : ∃ t a b g, v = .ref t ∧ SqT K H t [.int G.L.m, .ref a, .ref b, .ref g] ∧ TupAt K H a (G.L.rs.map rdD) ∧ TupAt K H b ((upOf G.L).map PyData.bool) := by
  unfold toldGD Rp at h
  obtain ⟨t, xs, rfl, ht, hl⟩ := h
  unfold RpL at hl
  obtain ⟨v0, r0, rfl, h0, hl⟩ := hl
  unfold RpL at hl
  obtain ⟨v1, r1, rfl, h1, hl⟩ := hl
  unfold RpL at hl
  obtain ⟨v2, r2, rfl, h2, hl⟩ := hl
  unfold RpL at hl
  obtain ⟨v3, r3, rfl, h3, hl⟩ := hl
  unfold RpL at hl
  subst hl
  unfold Rp at h0
  subst h0
  obtain ⟨a, rfl⟩ : ∃ a, v1 = .ref a := by unfold Rp at h1; obtain ⟨a, _, e, _⟩ := h1; exact ⟨a, e⟩
  obtain ⟨b, rfl⟩ : ∃ a, v2 = .ref a := by unfold Rp at h2; obtain ⟨a, _, e, _⟩ := h2; exact ⟨a, e⟩
  obtain ⟨g, rfl⟩ : ∃ a, v3 = .ref a := by unfold Rp at h3; obtain ⟨a, _, e, _⟩ := h3; exact ⟨a, e⟩
  exact ⟨t, a, b, g, rfl, ht, h1, h2⟩
theorem rpl_bls {K : PySem.W.Frag} {H : Hp} : ∀ bs : List Bool, RpL K H (bs.map PyData.bool) (bs.map V.bl)
  | [] => RpL.nil
  | b :: bs => RpL.cons Rp.bool (rpl_bls bs)
theorem outc_shp {L : Lan} {b : Bool} {px py : PyData} (ox : px ∈ oddL) (oy : py ∈ oddL) : SeqAt.shaped (outc L b px py).1 = true := by
  unfold outc
  split
  · have h0 : (oddL.all fun a => oddL.all fun b => SeqAt.shaped (noneQ a b)) = true := by decide +kernel
    exact List.all_eq_true.mp (List.all_eq_true.mp h0 px ox) py oy
  · split
    · exact (by decide +kernel : SeqAt.shaped sameQ = true)
    · exact (by decide +kernel : SeqAt.shaped doneQ = true)
theorem shp_eqv {d : PyData} (h : SeqAt.shaped d = true) : (!PyData.eqv d d) = false := by
  unfold SeqAt.shaped at h
  rw [Bool.and_eq_true] at h
  rw [SeqAt.eqv_refl d h.1]
  rfl
theorem bls_shp (bs : List Bool) : SeqAt.shaped (.tuple (bs.map PyData.bool)) = true := Shp.ok (Shp.tup (n := 0) (Shp.map fun b => Shp.bool)) (by decide)
theorem nbs_shp (l : List (Nat × Nat × Nat)) : SeqAt.shaped (.tuple (l.map nbD)) = true := Shp.ok (Shp.tup (n := 1) (Shp.map fun p => Shp.tup (n := 0) fun d hd => by
  simp only [List.mem_cons, List.not_mem_nil, or_false] at hd
  rcases hd with rfl | rfl | rfl <;> exact Shp.int)) (by decide)
/-- the law's state -/
structure LS2 (K : PySem.W.Frag) (c : Gc) (u : Wc) (H : Hp) (d cs nl ua : Addr) (n : Int) (L : Lan) (k : Nat) (r : Fin 3 → Addr) (M : Fin 3 → List Addr) : Prop where
  dk : Deck3 H d cs n
  nets : ∀ i, NetI K c u (r i) L k H (M i) i
  nlA : H nl = some (.lst [.ref (r 0), .ref (r 1), .ref (r 2)])
  upA : H ua = some (.lst ((upOf L).map V.bl))
  dis : ∀ i j, i ≠ j → ∀ x ∈ M i, x ∉ M j
  nf : ∀ x ∈ [d, cs, nl, ua], ∀ i, x ∉ M i
  nu : ua ∉ [d, cs]
  nn : nl ∉ [d, cs, ua]
section
variable {K : PySem.W.Frag} {c : Gc} {u : Wc} {H H' : Hp} {d cs nl ua : Addr} {n n' : Int} {L L' : Lan} {k : Nat} {r : Fin 3 → Addr} {M : Fin 3 → List Addr}
theorem LS2.same (l : LS2 K c u H d cs nl ua n L k r M) (s : Same H H') : LS2 K c u H' d cs nl ua n L k r M := ⟨l.dk.same s, fun i => (l.nets i).same s, s _ _ l.nlA, s _ _ l.upA, l.dis, l.nf, l.nu, l.nn⟩
theorem LS2.draw (l : LS2 K c u H d cs nl ua n L k r M) (q : Kp [d, cs] H H') (t : TK H H') (D : Deck3 H' d cs n') : LS2 K c u H' d cs nl ua n' L k r M :=
  ⟨D, fun i => (l.nets i).kp q t fun x hx z => by
    simp only [List.mem_cons, List.not_mem_nil, or_false] at z
    rcases z with rfl | rfl
    · exact l.nf x (by simp) i hx
    · exact l.nf x (by simp) i hx, q _ _ (fun z => l.nn (by simp only [List.mem_cons, List.not_mem_nil, or_false] at z ⊢; rcases z with z | z <;> simp [z])) l.nlA, q _ _ l.nu l.upA, l.dis, l.nf, l.nu, l.nn⟩
theorem LS2.mono (l : LS2 K c u H d cs nl ua n L k r M) (h : n ≤ n') : LS2 K c u H d cs nl ua n' L k r M := ⟨l.dk.mono h, l.nets, l.nlA, l.upA, l.dis, l.nf, l.nu, l.nn⟩
theorem LS2.taken (l : LS2 K c u H d cs nl ua n L k r M) : ∀ x ∈ [d, cs, nl, ua], H x ≠ none := fun x hx e => by
  simp only [List.mem_cons, List.not_mem_nil, or_false] at hx
  rcases hx with rfl | rfl | rfl | rfl
  · obtain ⟨zs, z⟩ := l.dk.l1
    rw [z] at e; cases e
  · obtain ⟨zs, z⟩ := l.dk.l2
    rw [z] at e; cases e
  · rw [l.nlA] at e; cases e
  · rw [l.upA] at e; cases e
end

section
variable {P : Program} {w : World} {K : PySem.W.Frag} {mg : Str → Option Value} {base : Heap} {c : Gc} {u : Wc}
theorem scLaw : FnScope ["_law_script", "_law_deck_here", "_law_houses", "_law_roads_here", "_law_nets", "_law_up", "_law_k", "_law_pair_here", "_law_falls", "_law_at", "_law_due", "_law_which", "_law_house"] ["_law_script"] (defScope sLaw) := ⟨rfl, rfl, rfl, by decide +kernel, rfl, by decide +kernel, by decide +kernel⟩
theorem ok_law {f : Addr} {fd : FuncData} (F : Fun K "law" "law" sLaw f fd) (T : TG K c) (Tw : TWd K c u) (B : KB2 mg)
    (cR : Cd P w K mg base 1 "_law_draw" ["_law_deck_here", "_law_many"] spDraw) (cD : Cd P w K mg base 1 "_law_deck" ["_law_script"] (spDeck3 K))
    (cL : Cd P w K mg base 2 "_law_roads" ["_law_deck_here", "_law_houses"] (spLRoads K)) (cP : Cd P w K mg base 2 "_law_pair" ["_law_deck_here", "_law_houses", "_law_roads_here"] (spLPair K)) (cO : Cd P w K mg base 1 "_law_row_of" ["_law_roads_here", "_law_pair_here"] (spLRow K)) (cA : Cd P w K mg base 1 "_law_near" ["_law_roads_here", "_law_up", "_law_house"] (spLNear K))
    (cN : CdG P w K mg base 7 "_law_done" ["_law_net", "_law_falls", "_law_a", "_law_b"] (spLDone K c u))
    (cJ : Nw P w K mg base 5 c.R "Roads" ["self", "houses", "roads"] (spRoadsInit K c.R)) (cI : Nw P w K mg base 7 c.G "Ground" ["self", "houses", "roads"] (spGInit K c)) (cW : Nw P w K mg base 11 u.W "World" ["self", "houses", "roads"] (spWInit K c u))
    (cU : Md P w K mg base 1 c.R "up" ["self"] (spUp K c.R)) (cT : Md P w K mg base 2 c.G "told" ["self"] (spGTold K c)) (cG : Md P w K mg base 3 u.W "ground" ["self"] (spWGround K c u)) (cB : Md P w K mg base 1 c.R "neighbours" ["self", "house"] (spNbr K c.R)) :
    LawOk P w K mg base f fd ["_law_script"] (spLaw K) := by
  obtain ⟨fR, fdR, GR, mR, kR, bR⟩ := cR.tk
  obtain ⟨fD, fdD, GD, mD, kD, bD⟩ := cD
  obtain ⟨fL, fdL, GL, mL, kL, bL⟩ := cL.tk
  obtain ⟨fP, fdP, GP, mP, kP, bP⟩ := cP.tk
  obtain ⟨fO, fdO, GO, mO, kO, bO⟩ := cO
  obtain ⟨fA, fdA, GA, mA, kA, bA⟩ := cA
  obtain ⟨fN, fdN, GN, mN, kN, bN⟩ := cN.tk
  obtain ⟨fJ, fdJ, GJ, MJ, mgJ, bJ⟩ := cJ
  obtain ⟨fI, fdI, GI, MI, mgI, bI⟩ := cI
  obtain ⟨fW, fdW, GW, MW, mgW, bW⟩ := cW
  obtain ⟨fU, fdU, GU, MU, bU⟩ := cU
  obtain ⟨fT, fdT, GT, MT, bT⟩ := cT
  obtain ⟨fG, fdG, GG, MG, bG⟩ := cG
  obtain ⟨fB, fdB, GB, MB, bB⟩ := cB
  refine law_ok (k := 12) F scLaw (fun vs H Q E h => ?_) ⟨rfl, by decide, by decide⟩ (fun cdv A s H vs Q hA hr h => ?_)
  · obtain ⟨a, ns, rfl, _⟩ := h
    rfl
  · obtain ⟨a, ns, rfl, hS, hl, k⟩ := h
    subst hA
    have hr1 : Room 1 _ := hr.mono (by decide)
    have hr2 : Room 2 _ := hr.mono (by decide)
    have hr3 : Room 3 _ := hr.mono (by decide)
    have hr6 : Room 6 _ := hr.mono (by decide)
    have hr7 : Room 7 _ := hr.mono (by decide)
    have hr8 : Room 8 _ := hr.mono (by decide)
    have hr12 : Room 12 _ := hr
    refine ⟨_, (pss_cons (ps_set (i := 1) scLaw.nd rfl (Or.inl rfl) (pe_call GD hr1 rfl mD kD bD .nil pass0 (pa_cons (pv 0) pa_nil)))
       (pss_cons (ps_set (i := 2) scLaw.nd rfl (Or.inl rfl) (pe_op op_add pe_int (pe_call GR hr1 rfl mR kR bR .nil pass0 (pa_cons (pv 1) (pa_cons pe_int pa_nil)))))
       (pss_cons (ps_set (i := 3) scLaw.nd rfl (Or.inr rfl) (pe_call GL hr2 rfl mL kL bL .nil pass0 (pa_cons (pv 1) (pa_cons (pv 2) pa_nil))))
       (pss_cons (ps_set (i := 4) scLaw.nd rfl (Or.inr rfl) (pe_lst (pa_cons (pe_make MJ GJ hr6 rfl mgJ bJ .nil pass0 (pa_cons (pv 2) (pa_cons (pv 3) pa_nil))) (pa_cons (pe_make MI GI hr8 rfl mgI bI .nil pass0 (pa_cons (pv 2) (pa_cons (pv 3) pa_nil))) (pa_cons (pe_make MW GW hr12 rfl mgW bW .nil pass0 (pa_cons (pv 2) (pa_cons (pv 3) pa_nil))) pa_nil)))))
       (pss_cons (ps_set (i := 5) scLaw.nd rfl (Or.inr rfl) (pe_op op_rep (pe_lst (pa_cons pe_bl pa_nil)) (pe_callB (lenK (K := K) rfl) (by rfl) B.len PySem.boot_len (pa_cons (pv 3) pa_nil))))
       (pss_cons (ps_for PassesOwn.never rfl (pi_range1 rfl B.range (pa_cons (pe_call GR hr1 rfl mR kR bR .nil pass0 (pa_cons (pv 1) (pa_cons pe_int pa_nil))) pa_nil)) (pg_name (i := 6) scLaw.nd rfl (Or.inl rfl))
       (pss_cons (ps_set (i := 7) scLaw.nd rfl (Or.inr rfl) (pe_call GP hr2 rfl mP kP bP .nil pass0 (pa_cons (pv 1) (pa_cons (pv 2) (pa_cons (pv 3) pa_nil)))))
       (pss_cons (ps_set (i := 8) scLaw.nd rfl (Or.inr rfl) (pe_cmpR op_eq (pe_call GR hr1 rfl mR kR bR .nil pass0 (pa_cons (pv 1) (pa_cons pe_int pa_nil))) pe_int (nomark _)))
       (pss_cons (ps_set (i := 9) scLaw.nd rfl (Or.inl rfl) (pe_call GO hr1 rfl mO kO bO .nil pass0 (pa_cons (pv 3) (pa_cons (pv 7) pa_nil))))
       (pss_cons (ps_set (i := 10) scLaw.nd rfl (Or.inr rfl) (pe_tup (pa_cons pe_str pa_nil)))
       (pss_cons (ps_if (pt_cmpR op_eq (pv 9) (pe_un un_neg pe_int) (nomark _))
       (pss_one (ps_set (i := 10) scLaw.nd rfl (Or.inr rfl) (pe_tup (pa_cons pe_str (pa_cons (pe_callB (reprDK (K := K) rfl rfl hr.units) (by rfl) B.repr (by decide +kernel) (pa_cons (pe_ix (ixT (K := K) rfl) (pv 7) pe_int (fun _ _ => rfl)) pa_nil)) (pa_cons (pe_callB (reprDK (K := K) rfl rfl hr.units) (by rfl) B.repr (by decide +kernel) (pa_cons (pe_ix (ixT (K := K) rfl) (pv 7) pe_int (fun _ _ => rfl)) pa_nil)) (pa_cons pe_bl (pa_cons pe_bl pa_nil))))))))
       (pss_one (ps_if (pt_cmpR op_ne (pe_ix (ixL (K := K) rfl) (pv 5) (pv 9) (fun _ _ => rfl)) (pv 8) (nomark _))
       (pss_one (ps_set (i := 10) scLaw.nd rfl (Or.inr rfl) (pe_tup (pa_cons pe_str (pa_cons pe_bl (pa_cons pe_bl pa_nil))))))
       (pss_one (ps_asg (pe_not (pv 8)) (pg_sub (pv 5) (pv 9) set_list))))))
       (pss_cons (ps_if (pt_cmpR (neDK (K := K) rfl hr.units) (pe_lc (own := [("_law_which", 11)]) (g := (gName 11)) (tt := _) rfl scLaw.nd (pi_range1 rfl B.range (pa_cons pe_int pa_nil)) (blkOk_by (N := ["_law_script", "_law_deck_here", "_law_houses", "_law_roads_here", "_law_nets", "_law_up", "_law_k", "_law_pair_here", "_law_falls", "_law_at", "_law_due", "_law_which", "_law_house"]) (sc := defScope sLaw) (by decide +kernel))
       (fun _ _ _ _ _ => (pg_name (i := 11) scLaw.nd rfl (Or.inl rfl))) (fun _ _ _ _ _ => (pts_one (pt_cmpR (neDK (K := K) rfl hr.units) (pe_callG GN rfl hr7 rfl mN kN bN .nil pass0 (pa_cons (pe_ix (ixL (K := K) rfl) (pv 4) (pv 11) (fun _ _ => rfl)) (pa_cons (pv 8) (pa_cons (pe_ix (ixT (K := K) rfl) (pv 7) pe_int (fun _ _ => rfl)) (pa_cons (pe_ix (ixT (K := K) rfl) (pv 7) pe_int (fun _ _ => rfl)) pa_nil))))) (pv 10) (nomark _)))) (fun _ _ _ _ _ => (pv 11))) (pe_lst pa_nil) (nomark _))
       (pss_one (ps_ret pe_bl))
       pss_nil)
       (pss_cons (ps_if (PW.pt (pw_or (pt_cmpR (neDK (K := K) rfl hr.units) (pe_meth0 (pe_ix (ixL (K := K) rfl) (pv 4) pe_int (fun _ _ => rfl)) T.R.cl MU GU hr1 bU .nil pass0) (pe_callTy (tupOfK (K := K) rfl) (by rfl) B.tuple PyProof.Rows.boot_tuple (pa_cons (pv 5) pa_nil)) (nomark _)) (pw_or (pt_cmpR (neDK (K := K) rfl hr.units) (pe_ix (ixT (K := K) rfl) (pe_meth0 (pe_ix (ixL (K := K) rfl) (pv 4) pe_int (fun _ _ => rfl)) T.cl MT GT hr2 bT .nil pass0) pe_int (fun _ _ => rfl)) (pe_callTy (tupOfK (K := K) rfl) (by rfl) B.tuple PyProof.Rows.boot_tuple (pa_cons (pv 5) pa_nil)) (nomark _)) (pw_or1 (pt_cmpR (neDK (K := K) rfl hr.units) (pe_ix (ixT (K := K) rfl) (pe_meth0 (pe_ix (ixL (K := K) rfl) (pv 4) pe_int (fun _ _ => rfl)) Tw.cl MG GG hr3 bG .nil pass0) pe_int (fun _ _ => rfl)) (pe_callTy (tupOfK (K := K) rfl) (by rfl) B.tuple PyProof.Rows.boot_tuple (pa_cons (pv 5) pa_nil)) (nomark _))))))
       (pss_one (ps_ret pe_bl))
       pss_nil)
       (pss_one (ps_if (pt_cmpR (neDK (K := K) rfl hr.units) (pe_lc (own := [("_law_house", 12)]) (g := (gName 12)) (tt := _) rfl scLaw.nd (pi_range1 rfl B.range (pa_cons (pv 2) pa_nil)) (blkOk_by (N := ["_law_script", "_law_deck_here", "_law_houses", "_law_roads_here", "_law_nets", "_law_up", "_law_k", "_law_pair_here", "_law_falls", "_law_at", "_law_due", "_law_which", "_law_house"]) (sc := defScope sLaw) (by decide +kernel))
       (fun _ _ _ _ _ => (pg_name (i := 12) scLaw.nd rfl (Or.inl rfl))) (fun _ _ _ _ _ => (pts_one (pt_cmpR (neDK (K := K) rfl hr.units) (pe_meth (pe_ix (ixL (K := K) rfl) (pv 4) pe_int (fun _ _ => rfl)) T.R.cl MB GB hr1 bB .nil pass0 (pa_cons (pv 12) pa_nil)) (pe_call GA hr1 rfl mA kA bA .nil pass0 (pa_cons (pv 3) (pa_cons (pv 5) (pa_cons (pv 12) pa_nil)))) (nomark _)))) (fun _ _ _ _ _ => (pv 12))) (pe_lst pa_nil) (nomark _))
       (pss_one (ps_ret pe_bl))
       pss_nil))))))))))
       (pss_one (ps_ret pe_bl)))))))), ?_⟩
    refine ⟨_, rfl, a, ns, rfl, hS, hl, fun H1 d cs nd ncs s1 D1 => ?_⟩
    refine ⟨_, rfl, d, cs, 8, 0, rfl, by decide, by decide, by decide, D1, fun r H2 r0 r1 k2 D2 t2 => ?_⟩
    refine ⟨_, _, rfl, rfl, ?_⟩
    obtain ⟨m, em, m1, m8⟩ : ∃ m : Nat, (1 : Int) + r = (m : Int) ∧ 1 ≤ m ∧ m ≤ 8 := ⟨(1 + r).toNat, by omega, by omega, by omega⟩
    dsimp only [gName, List.set, tNext]
    rw [em]
    clear em
    refine ⟨_, rfl, _, rfl, d, cs, 1, m, rfl, D2.mono (by omega), by decide, by omega, m8, fun H3 la rs hla R k3 D3 t3 => ?_⟩
    obtain ⟨xs, hxs, rx⟩ := hla.inv
    have lx := RpL.len _ _ rx
    rw [List.length_map] at lx
    have lr := R.few
    -- roads
    refine ⟨_, rfl, _, rfl, fun y0 dy0 n_y0 n_dy0 ne0 => ?_⟩
    obtain ⟨H4, e4, s4, h4⟩ := make_any (C := c.R) n_y0 n_dy0 ne0
    rw [e4]
    clear e4
    refine ⟨y0, dy0, m, rs, la, rfl, h4, hla.tk (TK.of s4), R, fun H5 fa k5 n_fa R5 => ⟨rfl, ?_⟩⟩
    have s35 : Same H3 H5 := make_same n_y0 s4 k5
    have f0 : ∀ x ∈ [y0, fa], H3 x = none := fun x hx => by
      simp only [List.mem_cons, List.not_mem_nil, or_false] at hx
      rcases hx with rfl | rfl
      · exact n_y0
      · exact n_same s4 n_fa
    have N0 : NetI K c u y0 ⟨m, rs, []⟩ 0 H5 [y0, fa] 0 := ⟨fa, rfl, R5⟩
    -- the ground
    refine ⟨_, rfl, _, rfl, fun y1 dy1 n_y1 n_dy1 ne1 => ?_⟩
    obtain ⟨H6, e6, s6, h6⟩ := make_any (C := c.G) n_y1 n_dy1 ne1
    rw [e6]
    clear e6
    refine ⟨y1, dy1, m, rs, la, rfl, h6, hla.tk (TK.of (s35.trans s6)), R, fun H7 A7 X7 hA7 k7 fx7 g7 fr7 => ⟨rfl, ?_⟩⟩
    have s57 : Same H5 H7 := make_same n_y1 s6 k7
    have f1 : ∀ x ∈ A7.foot (newG m rs X7), H5 x = none := fun x hx => by
      rcases fr7 x hx with rfl | z
      · exact n_y1
      · exact n_same s6 z
    have N1 : NetI K c u y1 ⟨m, rs, []⟩ 0 H7 (A7.foot (newG m rs X7)) 1 := ⟨A7, _, hA7, rfl, g7, ⟨rfl, rfl, rfl, rfl⟩, rfl⟩
    -- the world
    have s37 := s35.trans s57
    refine ⟨_, rfl, _, rfl, fun y2 dy2 n_y2 n_dy2 ne2 => ?_⟩
    obtain ⟨H8, e8, s8, h8⟩ := make_any (C := u.W) n_y2 n_dy2 ne2
    rw [e8]
    clear e8
    refine ⟨y2, dy2, m, rs, la, rfl, h8, hla.tk (TK.of (s37.trans s8)), R, fun H9 wa A9 X9 hw9 k9 fx9 w9 fr9 fA9 _ _ _ _ => ⟨rfl, ?_⟩⟩
    have s79 : Same H7 H9 := make_same n_y2 s8 k9
    have f2 : ∀ x ∈ wfeet wa A9 (newG m rs X9), H7 x = none := fun x hx => by
      rcases List.mem_append.mp hx with z | z
      · rcases List.mem_cons.mp z with z | z
        · rw [z, hw9]; exact n_y2
        · exact n_same s8 (fr9 x z)
      · exact n_same s8 (fA9 x z)
    have N2 : NetI K c u y2 ⟨m, rs, []⟩ 0 H9 (wfeet wa A9 (newG m rs X9)) 2 := ⟨wa, A9, _, 0, hw9, rfl, w9, ⟨rfl, rfl, rfl, rfl⟩, rfl, Nat.le_refl _⟩
    have s39 := s37.trans s79
    refine ⟨(by show 3 ≤ sizeLine; decide), fun nl n_nl => ?_⟩
    obtain ⟨H10, e_H10, s10, h10⟩ := new_any n_nl
    rw [← e_H10]
    clear e_H10
    dsimp only [gName, List.set, tNext]
    refine ⟨(by show 1 ≤ sizeLine; decide), fun l0 n_l0 => ?_⟩
    obtain ⟨H11, e_H11, s11, h11⟩ := new_any n_l0
    rw [← e_H11]
    clear e_H11
    have s311 := s39.trans (s10.trans s11)
    refine ⟨_, rfl, _, xs.length, rfl, .inr ⟨_, SqT.sm hxs s311, rfl⟩, l0, xs.length, _, rfl, rfl, h11, by omega, by omega, Nat.le_trans (show _ ≤ 1000 by rw [Int.toNat_natCast, List.length_singleton]; omega) (by decide), fun ua n_ua => ?_⟩
    rw [up_true (m := m) lx]
    obtain ⟨H12, e_H12, s12, h12⟩ := new_any n_ua
    rw [← e_H12]
    clear e_H12
    have s312 := s311.trans s12
    have s912 := s10.trans (s11.trans s12)
    have hla12 := hla.tk (TK.of s312)
    have D12 := D3.same s312
    have t9 : ∀ (i : Fin 3) x, x ∈ (match i with | 0 => [y0, fa] | 1 => A7.foot (newG m rs X7) | 2 => wfeet wa A9 (newG m rs X9)) → H3 x = none ∧ H9 x ≠ none := fun i x hx => by
      match i with
      | 0 => exact ⟨f0 x hx, (N0.same (s57.trans s79)).taken x hx⟩
      | 1 => exact ⟨n_same s35 (f1 x hx), (N1.same s79).taken x hx⟩
      | 2 => exact ⟨n_same s37 (f2 x hx), N2.taken x hx⟩
    have L12 : LS2 K c u H12 d cs nl ua 1000 ⟨m, rs, []⟩ 0 (fun i => match i with | 0 => y0 | 1 => y1 | 2 => y2) (fun i => match i with | 0 => [y0, fa] | 1 => A7.foot (newG m rs X7) | 2 => wfeet wa A9 (newG m rs X9)) := by
      refine ⟨D12.mono (by omega), fun i => ?_, s12 _ _ (s11 _ _ h10), h12, fun i j ij x hi hj => ?_, fun x hx i hi => ?_, ?_, ?_⟩
      · match i with
        | 0 => exact N0.same (s57.trans (s79.trans s912))
        | 1 => exact N1.same (s79.trans s912)
        | 2 => exact N2.same s912
      · have z5 : ∀ x ∈ [y0, fa], H5 x ≠ none := N0.taken
        have z7 := N1.taken
        have z57 : ∀ x, H5 x ≠ none → H7 x ≠ none := fun x h e => h (n_same s57 e)
        match i, j with
        | 0, 1 => exact z5 x hi (f1 x hj)
        | 0, 2 => exact z57 x (z5 x hi) (f2 x hj)
        | 1, 0 => exact z5 x hj (f1 x hi)
        | 1, 2 => exact z7 x hi (f2 x hj)
        | 2, 0 => exact z57 x (z5 x hj) (f2 x hi)
        | 2, 1 => exact z7 x hj (f2 x hi)
        | 0, 0 => exact ij rfl
        | 1, 1 => exact ij rfl
        | 2, 2 => exact ij rfl
      · obtain ⟨z1, z2⟩ := t9 i x hi
        simp only [List.mem_cons, List.not_mem_nil, or_false] at hx
        rcases hx with rfl | rfl | rfl | rfl
        · obtain ⟨zs, z⟩ := D3.l1
          rw [z] at z1; cases z1
        · obtain ⟨zs, z⟩ := D3.l2
          rw [z] at z1; cases z1
        · exact z2 n_nl
        · exact z2 (n_same (s10.trans s11) n_ua)
      · obtain ⟨q1, q2⟩ := D3.new (n_same s311 n_ua)
        exact nin2 q1 q2
      · obtain ⟨q1, q2⟩ := D3.new (n_same s39 n_nl)
        intro z
        simp only [List.mem_cons, List.not_mem_nil, or_false] at z
        rcases z with z | z | z
        · exact q1 z
        · exact q2 z
        · rw [z] at h10
          rw [s11 _ _ h10] at n_ua
          cases n_ua
    clear t9 N0 N1 N2 f0 f1 f2 w9 g7 R5 fr7 fr9 fA9
    generalize (fun i : Fin 3 => match i with | 0 => y0 | 1 => y1 | 2 => y2) = rr at L12
    dsimp only [gName, List.set, tNext, L2.start]
    refine ⟨_, rfl, d, cs, 41, 1000, rfl, by decide, by decide, by decide, L12.dk, fun q G q0 q1 kG DG tG => ?_⟩
    have LG := L12.draw kG tG DG
    have tkG : TK H12 G := tG
    refine ⟨q, rfl, by omega, by omega, ?_⟩
    obtain ⟨q, rfl⟩ : ∃ q' : Nat, q = (q' : Int) := ⟨q.toNat, by omega⟩
    rw [Int.toNat_natCast]
    refine for_range (lo := 0) (n := q) (fun i σ H' => ∃ (L : Lan) (M : Fin 3 → List Addr) (v6 v7 v8 v9 v10 v11 v12 : Option V), σ = [some (.ref a), some (.ref d), some (.int m), some (.ref la), some (.ref nl), some (.ref ua), v6, v7, v8, v9, v10, v11, v12] ∧ LS2 K c u H' d cs nl ua (1001 + 5 * i) L i rr M ∧ L.rs = rs ∧ L.m = m ∧ TK H12 H')
      ⟨_, _, _, _, _, _, _, _, _, rfl, LG.mono (by omega), rfl, rfl, tkG⟩ ?_ ?_
    · clear LG L12 DG kG tG D12
      rintro i σ G0 hi ⟨L, M, v6, v7, v8, v9, v10, v11, v12, rfl, l, eL, em, tk0⟩
      have la0 := hla12.tk tk0
      dsimp only [gName, List.set]
      refine ⟨_, rfl, _, rfl, _, rfl, d, cs, la, _, m, rs, rfl, l.dk, by omega, la0, R, fun G1 t x y px py k1 D1' n_t h1 ox oy lx ly t1 => ?_⟩
      have l1 := l.draw k1 t1 D1'
      refine ⟨_, rfl, d, cs, 2, _, rfl, by decide, by decide, by omega, l1.dk, fun q2 G2 z0 z1 k2' D2' t2' => ⟨rfl, ?_⟩⟩
      have l2 := l1.draw k2' t2' D2'
      generalize decide (V.int q2 = V.int 0) = b
      have tk02 := tk0.trans (t1.trans t2')
      have tkn : ∀ x ∈ [d, cs], G0 x ≠ none := fun x hx => l.taken x (by simp only [List.mem_cons, List.not_mem_nil, or_false] at hx ⊢; rcases hx with z | z <;> simp [z])
      have lx2 := lx.on k2' tkn
      have ly2 := ly.on k2' tkn
      have dx2 : Dp K G2 x px := lx2 [] G2 (by simp) (Kp.refl _ _)
      have dy2 : Dp K G2 y py := ly2 [] G2 (by simp) (Kp.refl _ _)
      have h2 : G2 t = some (.tup [x, y]) := t2'.1 _ _ h1
      dsimp only [gName, List.set]
      refine ⟨_, rfl, _, rfl, la, t, rs, x, y, px, py, rfl, hla12.tk tk02, lr, h2, ox, oy, dx2, dy2, fun G3 s3' => ?_⟩
      dsimp only [gName, List.set]
      refine ⟨(by show 1 ≤ sizeLine; decide), fun t0 n_t0 => ?_⟩
      obtain ⟨G4, e_G4, s4', g4⟩ := new_any n_t0
      rw [← e_G4]
      clear e_G4
      have s24 := s3'.trans s4'
      have l4 := l2.same s24
      have h4 := s24 _ _ h2
      have dx4 := dp_sm dx2 s24
      have dy4 := dp_sm dy2 s24
      have qx := odd_ok ox
      have qy := odd_ok oy
      dsimp only [gName, List.set]
      refine seq_if (fun σ' H' => ∃ vd, σ' = [some (.ref a), some (.ref d), some (.int m), some (.ref la), some (.ref nl), some (.ref ua), some (.int (0 + (i : Nat))), some (.ref t), some (.bl b), some (.int (rowNo rs px py)), some vd, v11, v12] ∧ Kp [ua] G4 H' ∧ TK G4 H' ∧ H' ua = some (.lst ((upOf (outc L b px py).2).map V.bl)) ∧ Rp K H' (outc L b px py).1 vd) ?rest (fun rest => ?_)
      case rest =>
        rintro σ' G5 ⟨vd, rfl, k5', t5', u5, r5⟩
        have nets5 : ∀ i', NetI K c u (rr i') L i G5 (M i') i' := fun i' => (l4.nets i').kp k5' t5' fun x hx => nin1 fun e => l4.nf ua (by simp) i' (e ▸ hx)
        have nua : ua ∉ [d, cs] := l4.nu
        have dk5 : Deck3 G5 d cs (1001 + 5 * (i : Int) + 4 + 1) := l4.dk.kp k5' (nin1 fun e => nua (by simp [e])) (nin1 fun e => nua (by simp [e]))
        have nl5 : G5 nl = some (.lst [.ref (rr 0), .ref (rr 1), .ref (rr 2)]) := k5' _ _ (nin1 fun e => l4.nn (by simp [e])) l4.nlA
        have k15 : Kp [d, cs, ua] G1 G5 := fun z o hz e => k5' _ _ (nin1 fun e' => hz (by simp [e'])) (s4' _ _ (s3' _ _ (k2' _ _ (fun z' => hz (by simp only [List.mem_cons, List.not_mem_nil, or_false] at z' ⊢; rcases z' with z' | z' <;> simp [z'])) e)))
        have tkn3 : ∀ x ∈ [d, cs, ua], G0 x ≠ none := fun x hx => l.taken x (by simp only [List.mem_cons, List.not_mem_nil, or_false] at hx ⊢; rcases hx with z | z | z <;> simp [z])
        have lx5 := lx.on k15 tkn3
        have ly5 := ly.on k15 tkn3
        have h5 : G5 t = some (.tup [x, y]) := t5'.1 _ _ h4
        have osh := outc_shp (L := L) (b := b) ox oy
        have oeq := shp_eqv osh
        have hL' := outc_rs (L := L) (b := b) (px := px) (py := py)
        generalize hoc : outc L b px py = oc at u5 r5 osh oeq hL' ⊢
        refine ⟨3, rfl, by decide, by decide, fun D n_D => ?_⟩
        have sD : Same G5 (upd G5 D (.lst [])) := (L2.Same.refl _).new n_D
        have hDD : upd G5 D (.lst []) D = some (.lst []) := upd_same
        refine lc_it walk_range (fun j H => ∃ M' : Fin 3 → List Addr, (∀ i', NetI K c u (rr i') (if i'.val < j then oc.2 else L) (if i'.val < j then i + 1 else i) H (M' i') i') ∧ (∀ i' : Fin 3, j ≤ i'.val → M' i' = M i') ∧ (∀ i1 i2, i1 ≠ i2 → ∀ x ∈ M' i1, x ∉ M' i2) ∧ (∀ x ∈ [d, cs, nl, ua, D], ∀ i', x ∉ M' i') ∧ H D = some (.lst []) ∧ Kp (M 0 ++ M 1 ++ M 2) G5 H ∧ TK G5 H)
          ⟨M, fun i' => by rw [if_neg (by omega), if_neg (by omega)]; exact (nets5 i').same sD, fun _ _ => rfl, l4.dis, fun x hx i' => ?_, hDD, fun z o _ e => sD z o e, TK.of sD⟩ (fun _ _ _ _ => trivial) ?_ ?_
        · simp only [List.mem_cons, List.not_mem_nil, or_false] at hx
          rcases hx with rfl | rfl | rfl | rfl | rfl
          · exact l4.nf _ (by simp) i'
          · exact l4.nf _ (by simp) i'
          · exact l4.nf _ (by simp) i'
          · exact l4.nf _ (by simp) i'
          · exact fun z => (nets5 i').taken _ z n_D
        · rintro j xj H6 H6' hj ⟨M', nets, hM, dis, nf, hD, kp6, t6⟩ ⟨rfl, rfl⟩
          have hj3 : j < 3 := hj
          obtain ⟨iF, eF⟩ : ∃ iF : Fin 3, iF.val = j := ⟨⟨j, hj3⟩, rfl⟩
          have N : NetI K c u (rr iF) L i H6' (M' iF) iF := by
            have := nets iF
            rwa [if_neg (by omega), if_neg (by omega)] at this
          have nlM : nl ∉ M 0 ++ M 1 ++ M 2 := fun z => by
            rcases List.mem_append.mp z with z | z
            · rcases List.mem_append.mp z with z | z
              · exact l4.nf nl (by simp) 0 z
              · exact l4.nf nl (by simp) 1 z
            · exact l4.nf nl (by simp) 2 z
          have M0k : ∀ m ∈ M 0 ++ M 1 ++ M 2, G0 m ≠ none := fun x hx => by
            rcases List.mem_append.mp hx with z | z
            · rcases List.mem_append.mp z with z | z
              · exact (l.nets 0).taken x z
              · exact (l.nets 1).taken x z
            · exact (l.nets 2).taken x z
          have hnl := kp6 _ _ nlM nl5
          have ht6 := SqT.of (K := K) (t6.1 _ _ h5)
          refine ⟨rfl, _, rfl, _, rfl, nl, _, (j : Int), .ref (rr iF), rfl, congrArg V.int (by omega), SqL.of hnl, ?_, _, rfl, _, rfl, t, _, 0, x, rfl, rfl, ht6, rfl, _, rfl, t, _, 1, y, rfl, rfl, ht6, rfl, ?_⟩
          · refine atI_nat ?_
            match iF, eF with
            | 0, eF => subst eF; rfl
            | 1, eF => subst eF; rfl
            | 2, eF => subst eF; rfl
          refine ⟨iF, rr iF, L, i, M' iF, b, x, y, px, py, rfl, N, by omega, lx5 _ _ M0k kp6, ly5 _ _ M0k kp6, ox, oy, fun H7 M7 v k7 N7 sub7 r7 t7 => ?_⟩
          rw [hoc] at N7 r7
          have rv := Rp.tk (t6.trans t7) _ _ r5
          refine ⟨_, rfl, oc.1, oc.1, Rp.dp _ _ r7, Rp.dp _ _ rv, osh, osh, _, rfl, ?_⟩
          rw [oeq]
          refine iteF ⟨fun i' => if i' = iF then M7 else M' i', fun i' => ?_, fun i' h => ?_, fun i1 i2 hi x h1 h2 => ?_, fun x hx i' => ?_, ?_, ?_, t6.trans t7⟩
          · dsimp only
            by_cases e : i' = iF
            · subst e
              rw [if_pos rfl, if_pos (by omega), if_pos (by omega)]
              exact N7
            · have hne : i'.val ≠ j := fun z => e (Fin.ext (by omega))
              have := (nets i').kp k7 t7 (fun x hx => dis i' iF e x hx)
              rw [if_neg e]
              by_cases lt : i'.val < j
              · rw [if_pos (by omega), if_pos (by omega)]
                rwa [if_pos lt, if_pos lt] at this
              · rw [if_neg (by omega), if_neg (by omega)]
                rwa [if_neg lt, if_neg lt] at this
          · show (if i' = iF then M7 else M' i') = M i'
            rw [if_neg (fun e => by rw [e] at h; omega)]
            exact hM i' (by omega)
          · have tk' := fun i => (nets i).taken
            dsimp only at h1 h2
            by_cases e1 : i1 = iF
            · have e2 : i2 ≠ iF := fun z => hi (e1.trans z.symm)
              rw [if_pos e1] at h1
              rw [if_neg e2] at h2
              rcases sub7 x h1 with z | z
              · exact dis iF i2 (Ne.symm e2) x z h2
              · exact tk' i2 x h2 z
            · rw [if_neg e1] at h1
              by_cases e2 : i2 = iF
              · rw [if_pos e2] at h2
                rcases sub7 x h2 with z | z
                · exact dis i1 iF e1 x h1 z
                · exact tk' i1 x h1 z
              · rw [if_neg e2] at h2
                exact dis i1 i2 hi x h1 h2
          · dsimp only
            by_cases e : i' = iF
            · rw [if_pos e]
              intro z
              rcases sub7 x z with z | z
              · exact nf x hx iF z
              · have : x ∈ [d, cs, nl, ua] ∨ x = D := by
                  simp only [List.mem_cons, List.not_mem_nil, or_false] at hx ⊢
                  rcases hx with h | h | h | h | h <;> simp [h]
                rcases this with q | q
                · have tq := l4.taken x q
                  have nM : x ∉ M 0 ++ M 1 ++ M 2 := fun z => by
                    rcases List.mem_append.mp z with z | z
                    · rcases List.mem_append.mp z with z | z
                      · exact l4.nf x q 0 z
                      · exact l4.nf x q 1 z
                    · exact l4.nf x q 2 z
                  have tq5 : G5 x ≠ none := fun e => by
                    by_cases eu : x = ua
                    · rw [eu, u5] at e; cases e
                    · cases e4 : G4 x with
                      | none => exact tq e4
                      | some o => rw [k5' _ _ (nin1 eu) e4] at e; cases e
                  cases e5 : G5 x with
                  | none => exact tq5 e5
                  | some o => rw [kp6 _ _ nM e5] at z; cases z
                · rw [q, hD] at z; cases z
            · rw [if_neg e]
              exact nf x hx i'
          · exact k7 _ _ (nf D (by simp) iF) hD
          · intro z o hz e
            refine k7 z o (fun h => hz ?_) (kp6 z o hz e)
            rw [hM iF (by omega)] at h
            match iF, h with
            | 0, h => exact List.mem_append_left _ (List.mem_append_left _ h)
            | 1, h => exact List.mem_append_left _ (List.mem_append_right _ h)
            | 2, h => exact List.mem_append_right _ h
        · rintro H6 ⟨M', nets, _, dis, nf, hD, kp6, t6⟩
          refine ⟨Nat.zero_le _, fun e0 n_e0 => ?_⟩
          obtain ⟨H7, e_H7, s7', h7⟩ := new_any n_e0
          rw [← e_H7]
          clear e_H7
          refine ⟨.list [], .list [], .lst (SqL.of (s7' _ _ hD)) .nil, .lst (SqL.of h7) .nil, rfl, rfl, _, rfl, ?_⟩
          rw [show (!PyData.eqv (.list []) (.list [])) = false from shp_eqv rfl]
          refine iteF ?_
          have outM : ∀ x ∈ [d, cs, nl, ua], x ∉ M 0 ++ M 1 ++ M 2 := fun x q z => by
            rcases List.mem_append.mp z with z | z
            · rcases List.mem_append.mp z with z | z
              · exact l4.nf x q 0 z
              · exact l4.nf x q 1 z
            · exact l4.nf x q 2 z
          have l7 : LS2 K c u H7 d cs nl ua (1001 + 5 * ((i + 1 : Nat) : Int)) oc.2 (i + 1) rr M' := by
            refine LS2.same (H := H6) ⟨(dk5.kp kp6 (outM d (by simp)) (outM cs (by simp))).mono (by omega), fun i' => ?_, kp6 _ _ (outM nl (by simp)) nl5, kp6 _ _ (outM ua (by simp)) u5, dis, fun x hx i' => nf x (by simp only [List.mem_cons, List.not_mem_nil, or_false] at hx ⊢; rcases hx with h | h | h | h <;> simp [h]) i', l4.nu, l4.nn⟩ s7'
            have := nets i'
            have h3 : i'.val < Int.toNat 3 := i'.isLt
            rwa [if_pos h3, if_pos h3] at this
          have tk07 : TK G0 H7 := t1.trans (t2'.trans ((TK.of s24).trans (t5'.trans (t6.trans (TK.of s7')))))
          have la7 := (la0.tk tk07)
          generalize oc.2 = L' at l7 hL'
          obtain ⟨eL', em'⟩ := hL'
          clear nets dis nf hD kp6 t6 nets5 dk5 nl5 k15 tkn3 lx5 ly5 h5 osh oeq r5 u5 lx ly lx2 ly2 dx2 dy2 dx4 dy4 qx qy
          dsimp only [tNext]
          -- what the three tell
          obtain ⟨fa7, _, RA⟩ : ∃ fa, M' 0 = [rr 0, fa] ∧ RoadsAt K c.R H7 (rr 0) fa L' := l7.nets 0
          obtain ⟨A7', G7', eg, _, g7, _, eL7⟩ : ∃ (A : Ga) (G : Gd), A.g = rr 1 ∧ M' 1 = A.foot G ∧ GroundAt K c H7 A G ∧ Emp G ∧ G.L = L' := l7.nets 1
          obtain ⟨wa7, A8', G8', s8', ew, _, w7, _, eL8, _⟩ : ∃ (a : Wa) (A : Ga) (G : Gd) (s : Nat), a.w = rr 2 ∧ M' 2 = wfeet a A G ∧ W0At K c u H7 a A G s 0 ∧ Emp G ∧ G.L = L' ∧ s ≤ i + 1 := l7.nets 2
          have R7 : RdsOk L'.m L'.rs := (l7.nets 0).ok
          obtain ⟨⟨dxr, lar, hr0, _⟩, _⟩ := id RA
          refine ⟨_, rfl, nl, _, 0, _, rfl, rfl, SqL.of l7.nlA, rfl, rr 0, dxr, _, rfl, hr0, rfl, rr 0, fa7, L', rfl, RA, fun H8 ta s8 r8 => ?_⟩
          have s78 := s8
          refine ⟨_, rfl, ua, _, rfl, .inl ⟨SqL.of (s78 _ _ l7.upA), fun tp n_tp => ?_⟩⟩
          obtain ⟨H9', e_H9', s9', h9'⟩ := new_any n_tp
          rw [← e_H9']
          clear e_H9'
          have rb : RpL K H9' ((upOf L').map PyData.bool) ((upOf L').map V.bl) := rpl_bls _
          refine ⟨_, _, Rp.dp _ _ (TupAt.tk r8 (TK.of s9')), Rp.dp _ _ (Rp.tup h9' rb), bls_shp _, bls_shp _, _, rfl, ?_⟩
          rw [shp_eqv (bls_shp _)]
          refine iteF ?_
          have s79' := s78.trans s9'
          refine ⟨_, rfl, nl, _, 1, _, rfl, rfl, SqL.of (s79' _ _ l7.nlA), rfl, rr 1, A7'.dx, _, rfl, eg ▸ s79' _ _ g7.o, rfl, A7', G7', by rw [eg]; rfl, g7.same s79', fun HA vA sA rA => ?_⟩
          obtain ⟨tt, ta', tb', tg', rfl, htt, _, htb⟩ := toldGD_inv rA
          refine ⟨tt, _, 2, _, rfl, rfl, htt, rfl, ?_⟩
          have s7A := s79'.trans sA
          refine ⟨_, rfl, ua, _, rfl, .inl ⟨SqL.of (s7A _ _ l7.upA), fun tp2 n_tp2 => ?_⟩⟩
          obtain ⟨HB, e_HB, sB, hB⟩ := new_any n_tp2
          rw [← e_HB]
          clear e_HB
          rw [eL7] at htb
          refine ⟨_, _, Rp.dp _ _ (TupAt.tk htb (TK.of sB)), Rp.dp _ _ (Rp.tup hB (rpl_bls _)), bls_shp _, bls_shp _, _, rfl, ?_⟩
          rw [shp_eqv (bls_shp _)]
          refine iteF ?_
          have s7B := s7A.trans sB
          refine ⟨_, rfl, nl, _, 2, _, rfl, rfl, SqL.of (s7B _ _ l7.nlA), rfl, rr 2, wa7.wd, _, rfl, ew ▸ s7B _ _ w7.w, rfl, wa7, A8', G8', s8', 0, by rw [ew]; rfl, w7.same s7B, fun HC vC sC rC => ?_⟩
          obtain ⟨tt2, ta2, tb2, tg2, rfl, htt2, _, htb2⟩ := toldGD_inv rC
          refine ⟨tt2, _, 2, _, rfl, rfl, htt2, rfl, ?_⟩
          have s7C := s7B.trans sC
          refine ⟨_, rfl, ua, _, rfl, .inl ⟨SqL.of (s7C _ _ l7.upA), fun tp3 n_tp3 => ?_⟩⟩
          obtain ⟨HD, e_HD, sD', hD'⟩ := new_any n_tp3
          rw [← e_HD]
          clear e_HD
          rw [eL8] at htb2
          refine ⟨_, _, Rp.dp _ _ (TupAt.tk htb2 (TK.of sD')), Rp.dp _ _ (Rp.tup hD' (rpl_bls _)), bls_shp _, bls_shp _, _, rfl, ?_⟩
          rw [shp_eqv (bls_shp _)]
          refine iteF ?_
          have s7D := s7C.trans sD'
          -- the neighbours
          refine ⟨_, rfl, m, rfl, by omega, by omega, fun D2 n_D2 => ?_⟩
          rw [Int.toNat_natCast]
          refine comp_ls (L := List.range m) (walk_range.cast (List.length_range).symm) (fun _ _ => trivial) (fun _ => false) (fun q => .int q) n_D2 (by rw [List.length_range]; omega) ?_ ?_
          · rintro j b' z' HE HE' Q' N ej sE ⟨rfl, rfl⟩ _ hN
            have s7E := s7D.trans sE
            refine ⟨rfl, _, rfl, nl, _, 0, _, rfl, rfl, SqL.of (s7E _ _ l7.nlA), rfl, rr 0, dxr, _, rfl, s7E _ _ hr0, rfl, _, rfl, rr 0, fa7, L', j, congrArg (fun z => [V.ref (rr 0), V.int z]) (by omega : (0 : Int) + (j : Int) = (j : Int)), RA.same s7E, fun HF tn sF rF => ?_⟩
            have s7F := s7E.trans sF
            refine ⟨_, rfl, _, rfl, _, rfl, la, ua, L', j, congrArg (fun z => [V.ref la, V.ref ua, V.int z]) (by omega : (0 : Int) + (j : Int) = (j : Int)), by rw [eL', eL]; exact la7.tk (TK.of s7F), R7, s7F _ _ l7.upA, fun HG tn2 sG rG => ?_⟩
            refine ⟨_, _, Rp.dp _ _ (TupAt.tk rF (TK.of sG)), Rp.dp _ _ rG, nbs_shp _, nbs_shp _, _, rfl, ?_⟩
            rw [shp_eqv (nbs_shp _)]
            exact iteF (hN rfl _ (sF.trans sG))
          · intro HE sE hDE
            have e0 : ((List.range m).filter fun _ => false).map (fun q : Nat => V.int (q : Int)) = [] := by simp
            rw [e0] at hDE
            refine ⟨Nat.zero_le _, fun p2 n_p2 => ?_⟩
            obtain ⟨HF, e_HF, sF, hF⟩ := new_any n_p2
            rw [← e_HF]
            clear e_HF
            refine ⟨.list [], .list [], .lst (SqL.of (sF _ _ hDE)) .nil, .lst (SqL.of hF) .nil, rfl, rfl, _, rfl, ?_⟩
            rw [show (!PyData.eqv (.list []) (.list [])) = false from shp_eqv rfl]
            have s7F := s7D.trans (sE.trans sF)
            exact iteF ⟨L', M', _, _, _, _, _, _, _, rfl, l7.same s7F, eL'.trans eL, em'.trans em, tk0.trans (tk07.trans (TK.of s7F))⟩
      have ht4 := SqT.of (K := K) h4
      rcases rowNo_spec (rs := rs) (px := px) (py := py) with ⟨e1, e2⟩ | ⟨j, hj, e1, e2⟩
      · rw [e1] at rest ⊢
        have eo : outc L b px py = (noneQ px py, L) := by
          unfold outc
          rw [eL, e2]
        rw [eo] at rest
        refine ⟨_, rfl, _, rfl, rfl, _, rfl, iteI (fun _ => ?_) (fun z => absurd rfl z)⟩
        refine ⟨_, rfl, t, _, 0, x, rfl, rfl, ht4, rfl, x, px, rfl, dx4, qx.sh, qx.nd, qx.dp, Nat.le_trans qx.ln (by decide), ?_⟩
        refine ⟨_, rfl, t, _, 1, y, rfl, rfl, ht4, rfl, y, py, rfl, dy4, qy.sh, qy.nd, qy.dp, Nat.le_trans qy.ln (by decide), ?_⟩
        refine ⟨(by show 5 ≤ sizeLine; decide), fun t5 n_t5 => ?_⟩
        generalize e_G5 : upd _ t5 _ = G5
        obtain ⟨s5, r5⟩ := new_tup (K := K) n_t5 e_G5 (by walk_at "rpl")
        clear e_G5
        exact rest _ _ ⟨_, rfl, Kp.of s5, TK.of s5, s5 _ _ l4.upA, r5⟩
      · rw [e1] at rest ⊢
        subst eL
        refine ⟨_, rfl, _, rfl, rfl, _, rfl, iteI (fun z => absurd z (by omega)) (fun _ => ?_)⟩
        have eup : ((upOf L).map V.bl)[j]? = some (.bl (!decide ((L.rs[j].a, L.rs[j].b) ∈ L.fallen))) := by
          unfold upOf
          rw [List.getElem?_map, List.getElem?_map, List.getElem?_eq_getElem hj]
          rfl
        refine ⟨_, rfl, _, rfl, ua, _, _, _, rfl, rfl, SqL.of l4.upA, atI_nat eup, _, rfl, rfl, _, rfl, ?_⟩
        generalize hx : decide ((L.rs[j].a, L.rs[j].b) ∈ L.fallen) = X at *
        refine iteNP (fun hne => ?_) (fun he => ?_)
        · have hb : decide ((L.rs[j].a, L.rs[j].b) ∈ L.fallen) = b := by
            rw [hx]
            cases X <;> cases b <;> first | rfl | exact absurd rfl hne
          have eo : outc L b px py = (sameQ, L) := by
            unfold outc
            rw [e2]
            dsimp only
            rw [if_pos hb]
          rw [eo] at rest
          refine ⟨(by show 3 ≤ sizeLine; decide), fun t5 n_t5 => ?_⟩
          generalize e_G5 : upd _ t5 _ = G5
          obtain ⟨s5, r5⟩ := new_tup (K := K) n_t5 e_G5 (by walk_at "rpl")
          clear e_G5
          exact rest _ _ ⟨_, rfl, Kp.of s5, TK.of s5, s5 _ _ l4.upA, r5⟩
        · have hb : ¬ decide ((L.rs[j].a, L.rs[j].b) ∈ L.fallen) = b := by
            rw [hx]
            injection he with he
            rw [← he]
            cases X <;> decide
          have eo : outc L b px py = (doneQ, movedL L b (L.rs[j].a, L.rs[j].b)) := by
            unfold outc
            rw [e2]
            dsimp only
            rw [if_neg hb]
          rw [eo] at rest
          have u4 := l4.upA
          have e0 : ixN ((upOf L).map V.bl).length (j : Int) = some j := by
            have := ixN_at (n := ((upOf L).map V.bl).length) (r := (j : Int)) (by omega) (by rw [List.length_map, up_len]; omega)
            rwa [Int.toNat_natCast] at this
          refine ⟨_, rfl, b, rfl, _, rfl, _, rfl, ua, _, j, j, rfl, rfl, u4, e0, ?_⟩
          obtain ⟨G5, e_G5, k5, t5, g5⟩ := wr_any u4 rfl
          rw [← e_G5]
          clear e_G5
          refine rest _ _ ⟨_, rfl, k5, t5, ?_, Rp.tup (t5.1 _ _ g4) (RpL.cons Rp.str RpL.nil)⟩
          have RL : RdsOk m L.rs := R
          rw [g5, up_moved RL hj hb, List.map_set]
    · rintro σ G1 ⟨L, M, v6, v7, v8, v9, v10, v11, v12, rfl, l, eL, em, tk0⟩
      exact k _
end
end Wn

set_option maxHeartbeats 4000000
namespace Wn
open PySem L2
theorem all_mk {l : PySem.W.OpenLaw} {w : World} {K : PySem.W.Frag} {h : Heap} {mg : Str → Option Value} {fa C_NetError C_BadGround C_NoRoad f_NoRoad_init C_Same f_Same_init C_Roads f_Roads_init f_Roads_up f_Roads_pair_of f_Roads_fall f_Roads_rise f_Roads_neighbours C_Fars f_Fars_init f_Fars_rows C_Frame C_Heap C_Ground f_Ground_init f_Ground_told f_Ground_drops f_Ground_forget f_Ground_fall f_Ground_rise C_Wraps f_Wraps_init f_Wraps_tell_drops C_World f_World_init f_World_ground f_World_look_open f_World_done f_World_fall f_World_rise f_is_whole f_is_from f_is_road f_bad_rows f_near_rows f_turned_row f_turned_all f_far_paper f_law_deck f_law_draw f_law_roads f_law_done f_law_pair f_law_row_of f_law_near f_law : Addr} (X : K.In h) (G : h.Ns mainGlobals mg) (hfa : mg "law" = some (.ref fa))
    {od_NoRoad_init an_NoRoad_init od_Same_init an_Same_init od_Roads_init an_Roads_init od_Roads_up an_Roads_up od_Roads_pair_of an_Roads_pair_of od_Roads_fall an_Roads_fall od_Roads_rise an_Roads_rise od_Roads_neighbours an_Roads_neighbours od_Fars_init an_Fars_init od_Fars_rows an_Fars_rows od_Ground_init an_Ground_init od_Ground_told an_Ground_told od_Ground_drops an_Ground_drops od_Ground_forget an_Ground_forget od_Ground_fall an_Ground_fall od_Ground_rise an_Ground_rise od_Wraps_init an_Wraps_init od_Wraps_tell_drops an_Wraps_tell_drops od_World_init an_World_init od_World_ground an_World_ground od_World_look_open an_World_look_open od_World_done an_World_done od_World_fall an_World_fall od_World_rise an_World_rise od_is_whole an_is_whole od_is_from an_is_from od_is_road an_is_road od_bad_rows an_bad_rows od_near_rows an_near_rows od_turned_row an_turned_row od_turned_all an_turned_all od_far_paper an_far_paper od_law_deck an_law_deck od_law_draw an_law_draw od_law_roads an_law_roads od_law_done an_law_done od_law_pair an_law_pair od_law_row_of an_law_row_of od_law_near an_law_near od_law an_law : Option Addr} {sl_NoRoad_init sl_Same_init sl_Roads_init sl_Roads_up sl_Roads_pair_of sl_Roads_fall sl_Roads_rise sl_Roads_neighbours sl_Fars_init sl_Fars_rows sl_Ground_init sl_Ground_told sl_Ground_drops sl_Ground_forget sl_Ground_fall sl_Ground_rise sl_Wraps_init sl_Wraps_tell_drops sl_World_init sl_World_ground sl_World_look_open sl_World_done sl_World_fall sl_World_rise sl_is_whole sl_is_from sl_is_road sl_bad_rows sl_near_rows sl_turned_row sl_turned_all sl_far_paper sl_law_deck sl_law_draw sl_law_roads sl_law_done sl_law_pair sl_law_row_of sl_law_near sl_law : Array (Option Value)} {oc_NoRoad_init kV_NoRoad_init dc_NoRoad_init pm_NoRoad_init cd_NoRoad_init ct_NoRoad_init oc_Same_init kV_Same_init dc_Same_init pm_Same_init cd_Same_init ct_Same_init oc_Roads_init kV_Roads_init dc_Roads_init pm_Roads_init cd_Roads_init ct_Roads_init oc_Roads_up kV_Roads_up dc_Roads_up pm_Roads_up cd_Roads_up ct_Roads_up oc_Roads_pair_of kV_Roads_pair_of dc_Roads_pair_of pm_Roads_pair_of cd_Roads_pair_of ct_Roads_pair_of oc_Roads_fall kV_Roads_fall dc_Roads_fall pm_Roads_fall cd_Roads_fall ct_Roads_fall oc_Roads_rise kV_Roads_rise dc_Roads_rise pm_Roads_rise cd_Roads_rise ct_Roads_rise oc_Roads_neighbours kV_Roads_neighbours dc_Roads_neighbours pm_Roads_neighbours cd_Roads_neighbours ct_Roads_neighbours oc_Fars_init kV_Fars_init dc_Fars_init pm_Fars_init cd_Fars_init ct_Fars_init oc_Fars_rows kV_Fars_rows dc_Fars_rows pm_Fars_rows cd_Fars_rows ct_Fars_rows oc_Ground_init kV_Ground_init dc_Ground_init pm_Ground_init cd_Ground_init ct_Ground_init oc_Ground_told kV_Ground_told dc_Ground_told pm_Ground_told cd_Ground_told ct_Ground_told oc_Ground_drops kV_Ground_drops dc_Ground_drops pm_Ground_drops cd_Ground_drops ct_Ground_drops oc_Ground_forget kV_Ground_forget dc_Ground_forget pm_Ground_forget cd_Ground_forget ct_Ground_forget oc_Ground_fall kV_Ground_fall dc_Ground_fall pm_Ground_fall cd_Ground_fall ct_Ground_fall oc_Ground_rise kV_Ground_rise dc_Ground_rise pm_Ground_rise cd_Ground_rise ct_Ground_rise oc_Wraps_init kV_Wraps_init dc_Wraps_init pm_Wraps_init cd_Wraps_init ct_Wraps_init oc_Wraps_tell_drops kV_Wraps_tell_drops dc_Wraps_tell_drops pm_Wraps_tell_drops cd_Wraps_tell_drops ct_Wraps_tell_drops oc_World_init kV_World_init dc_World_init pm_World_init cd_World_init ct_World_init oc_World_ground kV_World_ground dc_World_ground pm_World_ground cd_World_ground ct_World_ground oc_World_look_open kV_World_look_open dc_World_look_open pm_World_look_open cd_World_look_open ct_World_look_open oc_World_done kV_World_done dc_World_done pm_World_done cd_World_done ct_World_done oc_World_fall kV_World_fall dc_World_fall pm_World_fall cd_World_fall ct_World_fall oc_World_rise kV_World_rise dc_World_rise pm_World_rise cd_World_rise ct_World_rise oc_is_whole kV_is_whole dc_is_whole pm_is_whole cd_is_whole ct_is_whole oc_is_from kV_is_from dc_is_from pm_is_from cd_is_from ct_is_from oc_is_road kV_is_road dc_is_road pm_is_road cd_is_road ct_is_road oc_bad_rows kV_bad_rows dc_bad_rows pm_bad_rows cd_bad_rows ct_bad_rows oc_near_rows kV_near_rows dc_near_rows pm_near_rows cd_near_rows ct_near_rows oc_turned_row kV_turned_row dc_turned_row pm_turned_row cd_turned_row ct_turned_row oc_turned_all kV_turned_all dc_turned_all pm_turned_all cd_turned_all ct_turned_all oc_far_paper kV_far_paper dc_far_paper pm_far_paper cd_far_paper ct_far_paper oc_law_deck kV_law_deck dc_law_deck pm_law_deck cd_law_deck ct_law_deck oc_law_draw kV_law_draw dc_law_draw pm_law_draw cd_law_draw ct_law_draw oc_law_roads kV_law_roads dc_law_roads pm_law_roads cd_law_roads ct_law_roads oc_law_done kV_law_done dc_law_done pm_law_done cd_law_done ct_law_done oc_law_pair kV_law_pair dc_law_pair pm_law_pair cd_law_pair ct_law_pair oc_law_row_of kV_law_row_of dc_law_row_of pm_law_row_of cd_law_row_of ct_law_row_of oc_law_near kV_law_near dc_law_near pm_law_near cd_law_near ct_law_near oc_law kV_law dc_law pm_law cd_law ct_law : Value} {t_HOUSES t_ROADS t_DELAY t_NARROW t_WIDE t_FAR t_DEEDS_bounds : Tok}
    {nm_C_NoRoad q_C_NoRoad : Str} {N_C_NoRoad : Addr} {bs_C_NoRoad : List Value} {sn_C_NoRoad : List Str} {sub_C_NoRoad : List Value} {ab_C_NoRoad : Bool} {col_C_NoRoad : Option Bool} {dd_C_NoRoad : Option Addr} {m0_C_NoRoad m1_C_NoRoad m2_C_NoRoad m3_C_NoRoad m5_C_NoRoad : Option Value}
    {nm_C_Same q_C_Same : Str} {N_C_Same : Addr} {bs_C_Same : List Value} {sn_C_Same : List Str} {sub_C_Same : List Value} {ab_C_Same : Bool} {col_C_Same : Option Bool} {dd_C_Same : Option Addr} {m0_C_Same m1_C_Same m2_C_Same m3_C_Same m5_C_Same : Option Value}
    (a_HOUSES : PySem.W.nsIn K mainGlobals "HOUSES" = some (some (.int 8 t_HOUSES)))
    (a_ROADS : PySem.W.nsIn K mainGlobals "ROADS" = some (some (.int 14 t_ROADS)))
    (a_DELAY : PySem.W.nsIn K mainGlobals "DELAY" = some (some (.int 2 t_DELAY)))
    (a_NARROW : PySem.W.nsIn K mainGlobals "NARROW" = some (some (.int 16 t_NARROW)))
    (a_WIDE : PySem.W.nsIn K mainGlobals "WIDE" = some (some (.int 80 t_WIDE)))
    (a_FAR : PySem.W.nsIn K mainGlobals "FAR" = some (some (.int 24 t_FAR)))
    (a_DEEDS_bounds : PySem.W.nsIn K mainGlobals "DEEDS_bounds" = some (some (.int 300 t_DEEDS_bounds)))
    (a_C_NetError : PySem.W.nsIn K mainGlobals "NetError" = some (some (.ref C_NetError)))
    (sp_C_NetError : PySem.W.specialIn K (.ref C_NetError) "__getattribute__" = some (some (.builtin "type.__getattribute__")))
    (rd_C_NetError : PySem.W.readsIn K C_NetError (.type "type") = true)
    (v_C_NetError : PySem.W.findCls K (.ref C_NetError) (.type "type") "__init__" = some (.val (.builtin "ValueError.__init__")))
    (ex_C_NetError : PySem.W.subIn K (.ref C_NetError) (.type "BaseException") = some true)
    (hd_C_NetError : PySem.W.hasDictIn K C_NetError = true)
    (ty_C_NetError : PySem.W.typeIn K (.ref C_NetError) = some (.type "type"))
    (a_C_BadGround : PySem.W.nsIn K mainGlobals "BadGround" = some (some (.ref C_BadGround)))
    (a_C_NoRoad : PySem.W.nsIn K mainGlobals "NoRoad" = some (some (.ref C_NoRoad)))
    (ex_C_NoRoad : PySem.W.subIn K (.ref C_NoRoad) (.type "BaseException") = some true)
    (ty_C_NoRoad : PySem.W.typeIn K (.ref C_NoRoad) = some (.type "type"))
    (no_C_NoRoad_a : PySem.W.findIn K (.ref C_NoRoad) "a" = some none)
    (no_C_NoRoad_b : PySem.W.findIn K (.ref C_NoRoad) "b" = some none)
    (xL_C_NoRoad : K.lookup C_NoRoad = some (excClassObj nm_C_NoRoad q_C_NoRoad C_NoRoad N_C_NoRoad bs_C_NoRoad [.ref C_NetError, .type "ValueError", .type "Exception", .type "BaseException", .type "object"] true sn_C_NoRoad sub_C_NoRoad ab_C_NoRoad col_C_NoRoad dd_C_NoRoad m0_C_NoRoad m1_C_NoRoad m2_C_NoRoad m3_C_NoRoad m5_C_NoRoad "ValueError.__new__"))
    (sa_C_NoRoad : PySem.W.findIn K (.ref C_NoRoad) "__setattr__" = some (some (.builtin "object.__setattr__")))
    (kc_C_NoRoad : PySem.W.keepIn K (.ref C_NoRoad) = true)
    (a_NoRoad_init : PySem.W.findIn K (.ref C_NoRoad) "__init__" = some (some (.ref f_NoRoad_init)))
    (i_NoRoad_init : PySem.W.isFn K (.ref f_NoRoad_init) = true)
    (l_NoRoad_init : K.lookup f_NoRoad_init = some ⟨oc_NoRoad_init, od_NoRoad_init, .func (PySem.W.fnOf "__init__" "NoRoad.__init__" (defArgs sE_NoRoad) (defBody sE_NoRoad) (defScope sE_NoRoad) .none kV_NoRoad_init dc_NoRoad_init pm_NoRoad_init an_NoRoad_init cd_NoRoad_init ct_NoRoad_init), sl_NoRoad_init⟩)
    (c_NoRoad_init : PySem.W.codeIn K cd_NoRoad_init "NoRoad.__init__" = true)
    (k_NoRoad_init : PySem.W.keepIn K (.ref f_NoRoad_init) = true)
    (tf_C_NoRoad : PySem.W.typeIn K (.ref f_NoRoad_init) = some (.type "function"))
    (ga_C_NoRoad : PySem.W.findIn K (.ref C_NoRoad) "__getattribute__" = some (some (.builtin "BaseException.__getattribute__")))
    (gg_C_NoRoad : PySem.W.findIn K (.ref C_NoRoad) "__getattr__" = some none)
    (hd_C_NoRoad : PySem.W.hasDictIn K C_NoRoad = true)
    (hc_C_NoRoad : PySem.W.findIn K (.ref C_NoRoad) "__class__" = some (some (.builtin "object.__class__")))
    (mo_C_NoRoad : PySem.W.mroIn K C_NoRoad (.type "object") = some true)
    (sn_C_NoRoad_b : PySem.W.subIn K (.ref C_NoRoad) (.ref C_NetError) = some true)
    (a_C_Same : PySem.W.nsIn K mainGlobals "Same" = some (some (.ref C_Same)))
    (ex_C_Same : PySem.W.subIn K (.ref C_Same) (.type "BaseException") = some true)
    (ty_C_Same : PySem.W.typeIn K (.ref C_Same) = some (.type "type"))
    (xL_C_Same : K.lookup C_Same = some (excClassObj nm_C_Same q_C_Same C_Same N_C_Same bs_C_Same [.ref C_NetError, .type "ValueError", .type "Exception", .type "BaseException", .type "object"] true sn_C_Same sub_C_Same ab_C_Same col_C_Same dd_C_Same m0_C_Same m1_C_Same m2_C_Same m3_C_Same m5_C_Same "ValueError.__new__"))
    (sa_C_Same : PySem.W.findIn K (.ref C_Same) "__setattr__" = some (some (.builtin "object.__setattr__")))
    (kc_C_Same : PySem.W.keepIn K (.ref C_Same) = true)
    (a_Same_init : PySem.W.findIn K (.ref C_Same) "__init__" = some (some (.ref f_Same_init)))
    (i_Same_init : PySem.W.isFn K (.ref f_Same_init) = true)
    (l_Same_init : K.lookup f_Same_init = some ⟨oc_Same_init, od_Same_init, .func (PySem.W.fnOf "__init__" "Same.__init__" (defArgs sE_Same) (defBody sE_Same) (defScope sE_Same) .none kV_Same_init dc_Same_init pm_Same_init an_Same_init cd_Same_init ct_Same_init), sl_Same_init⟩)
    (c_Same_init : PySem.W.codeIn K cd_Same_init "Same.__init__" = true)
    (k_Same_init : PySem.W.keepIn K (.ref f_Same_init) = true)
    (tf_C_Same : PySem.W.typeIn K (.ref f_Same_init) = some (.type "function"))
    (ga_C_Same : PySem.W.findIn K (.ref C_Same) "__getattribute__" = some (some (.builtin "BaseException.__getattribute__")))
    (gg_C_Same : PySem.W.findIn K (.ref C_Same) "__getattr__" = some none)
    (hd_C_Same : PySem.W.hasDictIn K C_Same = true)
    (hc_C_Same : PySem.W.findIn K (.ref C_Same) "__class__" = some (some (.builtin "object.__class__")))
    (mo_C_Same : PySem.W.mroIn K C_Same (.type "object") = some true)
    (sn_C_Same_b : PySem.W.subIn K (.ref C_Same) (.ref C_NetError) = some true)
    (cg_all : PySem.W.specialIn K (.builtin "object.__class__") "__get__" = some (some (.builtin "getset_descriptor.__get__")))
    (tk_all : PySem.W.takesIn K (.builtin "object.__class__") = some true)
    (a_C_Roads : PySem.W.nsIn K mainGlobals "Roads" = some (some (.ref C_Roads)))
    (pg_C_Roads : PySem.W.plainGet K C_Roads Str.empty = true)
    (hd_C_Roads : PySem.W.hasDictIn K C_Roads = true)
    (po_C_Roads : PySem.W.plainOver K C_Roads = true)
    (sa_C_Roads : PySem.W.findIn K (.ref C_Roads) "__setattr__" = some (some (.builtin "object.__setattr__")))
    (mk_C_Roads : PySem.W.makesIn K C_Roads = true)
    (kc_C_Roads : PySem.W.keepIn K (.ref C_Roads) = true)
    (n_C_Roads_many : PySem.W.findIn K (.ref C_Roads) "many" = some none)
    (n_C_Roads_lines : PySem.W.findIn K (.ref C_Roads) "lines" = some none)
    (n_C_Roads_fallen : PySem.W.findIn K (.ref C_Roads) "fallen" = some none)
    (a_Roads_init : PySem.W.findIn K (.ref C_Roads) "__init__" = some (some (.ref f_Roads_init)))
    (i_Roads_init : PySem.W.isFn K (.ref f_Roads_init) = true)
    (l_Roads_init : K.lookup f_Roads_init = some ⟨oc_Roads_init, od_Roads_init, .func (PySem.W.fnOf "__init__" "Roads.__init__" (defArgs sRoadsInit) (defBody sRoadsInit) (defScope sRoadsInit) .none kV_Roads_init dc_Roads_init pm_Roads_init an_Roads_init cd_Roads_init ct_Roads_init), sl_Roads_init⟩)
    (c_Roads_init : PySem.W.codeIn K cd_Roads_init "Roads.__init__" = true)
    (k_Roads_init : PySem.W.keepIn K (.ref f_Roads_init) = true)
    (a_Roads_up : PySem.W.findIn K (.ref C_Roads) "up" = some (some (.ref f_Roads_up)))
    (i_Roads_up : PySem.W.isFn K (.ref f_Roads_up) = true)
    (l_Roads_up : K.lookup f_Roads_up = some ⟨oc_Roads_up, od_Roads_up, .func (PySem.W.fnOf "up" "Roads.up" (defArgs sRoadsUp) (defBody sRoadsUp) (defScope sRoadsUp) .none kV_Roads_up dc_Roads_up pm_Roads_up an_Roads_up cd_Roads_up ct_Roads_up), sl_Roads_up⟩)
    (c_Roads_up : PySem.W.codeIn K cd_Roads_up "Roads.up" = true)
    (k_Roads_up : PySem.W.keepIn K (.ref f_Roads_up) = true)
    (a_Roads_pair_of : PySem.W.findIn K (.ref C_Roads) "pair_of" = some (some (.ref f_Roads_pair_of)))
    (i_Roads_pair_of : PySem.W.isFn K (.ref f_Roads_pair_of) = true)
    (l_Roads_pair_of : K.lookup f_Roads_pair_of = some ⟨oc_Roads_pair_of, od_Roads_pair_of, .func (PySem.W.fnOf "pair_of" "Roads.pair_of" (defArgs sRoadsPair) (defBody sRoadsPair) (defScope sRoadsPair) .none kV_Roads_pair_of dc_Roads_pair_of pm_Roads_pair_of an_Roads_pair_of cd_Roads_pair_of ct_Roads_pair_of), sl_Roads_pair_of⟩)
    (c_Roads_pair_of : PySem.W.codeIn K cd_Roads_pair_of "Roads.pair_of" = true)
    (k_Roads_pair_of : PySem.W.keepIn K (.ref f_Roads_pair_of) = true)
    (a_Roads_fall : PySem.W.findIn K (.ref C_Roads) "fall" = some (some (.ref f_Roads_fall)))
    (i_Roads_fall : PySem.W.isFn K (.ref f_Roads_fall) = true)
    (l_Roads_fall : K.lookup f_Roads_fall = some ⟨oc_Roads_fall, od_Roads_fall, .func (PySem.W.fnOf "fall" "Roads.fall" (defArgs sRoadsFall) (defBody sRoadsFall) (defScope sRoadsFall) .none kV_Roads_fall dc_Roads_fall pm_Roads_fall an_Roads_fall cd_Roads_fall ct_Roads_fall), sl_Roads_fall⟩)
    (c_Roads_fall : PySem.W.codeIn K cd_Roads_fall "Roads.fall" = true)
    (k_Roads_fall : PySem.W.keepIn K (.ref f_Roads_fall) = true)
    (a_Roads_rise : PySem.W.findIn K (.ref C_Roads) "rise" = some (some (.ref f_Roads_rise)))
    (i_Roads_rise : PySem.W.isFn K (.ref f_Roads_rise) = true)
    (l_Roads_rise : K.lookup f_Roads_rise = some ⟨oc_Roads_rise, od_Roads_rise, .func (PySem.W.fnOf "rise" "Roads.rise" (defArgs sRoadsRise) (defBody sRoadsRise) (defScope sRoadsRise) .none kV_Roads_rise dc_Roads_rise pm_Roads_rise an_Roads_rise cd_Roads_rise ct_Roads_rise), sl_Roads_rise⟩)
    (c_Roads_rise : PySem.W.codeIn K cd_Roads_rise "Roads.rise" = true)
    (k_Roads_rise : PySem.W.keepIn K (.ref f_Roads_rise) = true)
    (a_Roads_neighbours : PySem.W.findIn K (.ref C_Roads) "neighbours" = some (some (.ref f_Roads_neighbours)))
    (i_Roads_neighbours : PySem.W.isFn K (.ref f_Roads_neighbours) = true)
    (l_Roads_neighbours : K.lookup f_Roads_neighbours = some ⟨oc_Roads_neighbours, od_Roads_neighbours, .func (PySem.W.fnOf "neighbours" "Roads.neighbours" (defArgs sRoadsNbr) (defBody sRoadsNbr) (defScope sRoadsNbr) .none kV_Roads_neighbours dc_Roads_neighbours pm_Roads_neighbours an_Roads_neighbours cd_Roads_neighbours ct_Roads_neighbours), sl_Roads_neighbours⟩)
    (c_Roads_neighbours : PySem.W.codeIn K cd_Roads_neighbours "Roads.neighbours" = true)
    (k_Roads_neighbours : PySem.W.keepIn K (.ref f_Roads_neighbours) = true)
    (a_C_Fars : PySem.W.nsIn K mainGlobals "Fars" = some (some (.ref C_Fars)))
    (pg_C_Fars : PySem.W.plainGet K C_Fars Str.empty = true)
    (hd_C_Fars : PySem.W.hasDictIn K C_Fars = true)
    (po_C_Fars : PySem.W.plainOver K C_Fars = true)
    (sa_C_Fars : PySem.W.findIn K (.ref C_Fars) "__setattr__" = some (some (.builtin "object.__setattr__")))
    (mk_C_Fars : PySem.W.makesIn K C_Fars = true)
    (kc_C_Fars : PySem.W.keepIn K (.ref C_Fars) = true)
    (n_C_Fars_lanes : PySem.W.findIn K (.ref C_Fars) "lanes" = some none)
    (n_C_Fars_grid : PySem.W.findIn K (.ref C_Fars) "grid" = some none)
    (a_Fars_init : PySem.W.findIn K (.ref C_Fars) "__init__" = some (some (.ref f_Fars_init)))
    (i_Fars_init : PySem.W.isFn K (.ref f_Fars_init) = true)
    (l_Fars_init : K.lookup f_Fars_init = some ⟨oc_Fars_init, od_Fars_init, .func (PySem.W.fnOf "__init__" "Fars.__init__" (defArgs sFarsInit) (defBody sFarsInit) (defScope sFarsInit) .none kV_Fars_init dc_Fars_init pm_Fars_init an_Fars_init cd_Fars_init ct_Fars_init), sl_Fars_init⟩)
    (c_Fars_init : PySem.W.codeIn K cd_Fars_init "Fars.__init__" = true)
    (k_Fars_init : PySem.W.keepIn K (.ref f_Fars_init) = true)
    (a_Fars_rows : PySem.W.findIn K (.ref C_Fars) "rows" = some (some (.ref f_Fars_rows)))
    (i_Fars_rows : PySem.W.isFn K (.ref f_Fars_rows) = true)
    (l_Fars_rows : K.lookup f_Fars_rows = some ⟨oc_Fars_rows, od_Fars_rows, .func (PySem.W.fnOf "rows" "Fars.rows" (defArgs sFarsRows) (defBody sFarsRows) (defScope sFarsRows) .none kV_Fars_rows dc_Fars_rows pm_Fars_rows an_Fars_rows cd_Fars_rows ct_Fars_rows), sl_Fars_rows⟩)
    (c_Fars_rows : PySem.W.codeIn K cd_Fars_rows "Fars.rows" = true)
    (k_Fars_rows : PySem.W.keepIn K (.ref f_Fars_rows) = true)
    (a_C_Frame : PySem.W.nsIn K mainGlobals "Frame" = some (some (.ref C_Frame)))
    (pg_C_Frame : PySem.W.plainGet K C_Frame Str.empty = true)
    (hd_C_Frame : PySem.W.hasDictIn K C_Frame = true)
    (po_C_Frame : PySem.W.plainOver K C_Frame = true)
    (sa_C_Frame : PySem.W.findIn K (.ref C_Frame) "__setattr__" = some (some (.builtin "object.__setattr__")))
    (mk_C_Frame : PySem.W.makesIn K C_Frame = true)
    (kc_C_Frame : PySem.W.keepIn K (.ref C_Frame) = true)
    (n_C_Frame_number : PySem.W.findIn K (.ref C_Frame) "number" = some none)
    (n_C_Frame_letter : PySem.W.findIn K (.ref C_Frame) "letter" = some none)
    (n_C_Frame_first : PySem.W.findIn K (.ref C_Frame) "first" = some none)
    (n_C_Frame_signs : PySem.W.findIn K (.ref C_Frame) "signs" = some none)
    (n_C_Frame_hops : PySem.W.findIn K (.ref C_Frame) "hops" = some none)
    (n_C_Frame_start : PySem.W.findIn K (.ref C_Frame) "start" = some none)
    (n_C_Frame_end : PySem.W.findIn K (.ref C_Frame) "end" = some none)
    (n_C_Frame_left : PySem.W.findIn K (.ref C_Frame) "left" = some none)
    (a_C_Heap : PySem.W.nsIn K mainGlobals "Heap" = some (some (.ref C_Heap)))
    (pg_C_Heap : PySem.W.plainGet K C_Heap Str.empty = true)
    (hd_C_Heap : PySem.W.hasDictIn K C_Heap = true)
    (po_C_Heap : PySem.W.plainOver K C_Heap = true)
    (sa_C_Heap : PySem.W.findIn K (.ref C_Heap) "__setattr__" = some (some (.builtin "object.__setattr__")))
    (mk_C_Heap : PySem.W.makesIn K C_Heap = true)
    (kc_C_Heap : PySem.W.keepIn K (.ref C_Heap) = true)
    (a_C_Ground : PySem.W.nsIn K mainGlobals "Ground" = some (some (.ref C_Ground)))
    (pg_C_Ground : PySem.W.plainGet K C_Ground Str.empty = true)
    (hd_C_Ground : PySem.W.hasDictIn K C_Ground = true)
    (po_C_Ground : PySem.W.plainOver K C_Ground = true)
    (sa_C_Ground : PySem.W.findIn K (.ref C_Ground) "__setattr__" = some (some (.builtin "object.__setattr__")))
    (mk_C_Ground : PySem.W.makesIn K C_Ground = true)
    (kc_C_Ground : PySem.W.keepIn K (.ref C_Ground) = true)
    (n_C_Ground_lanes : PySem.W.findIn K (.ref C_Ground) "lanes" = some none)
    (n_C_Ground_known : PySem.W.findIn K (.ref C_Ground) "known" = some none)
    (n_C_Ground_clock : PySem.W.findIn K (.ref C_Ground) "clock" = some none)
    (n_C_Ground_running : PySem.W.findIn K (.ref C_Ground) "running" = some none)
    (n_C_Ground_moving : PySem.W.findIn K (.ref C_Ground) "moving" = some none)
    (n_C_Ground_piles : PySem.W.findIn K (.ref C_Ground) "piles" = some none)
    (n_C_Ground_made_letters : PySem.W.findIn K (.ref C_Ground) "made_letters" = some none)
    (n_C_Ground_made_frames : PySem.W.findIn K (.ref C_Ground) "made_frames" = some none)
    (n_C_Ground_lost : PySem.W.findIn K (.ref C_Ground) "lost" = some none)
    (a_Ground_init : PySem.W.findIn K (.ref C_Ground) "__init__" = some (some (.ref f_Ground_init)))
    (i_Ground_init : PySem.W.isFn K (.ref f_Ground_init) = true)
    (l_Ground_init : K.lookup f_Ground_init = some ⟨oc_Ground_init, od_Ground_init, .func (PySem.W.fnOf "__init__" "Ground.__init__" (defArgs sGInit) (defBody sGInit) (defScope sGInit) .none kV_Ground_init dc_Ground_init pm_Ground_init an_Ground_init cd_Ground_init ct_Ground_init), sl_Ground_init⟩)
    (c_Ground_init : PySem.W.codeIn K cd_Ground_init "Ground.__init__" = true)
    (k_Ground_init : PySem.W.keepIn K (.ref f_Ground_init) = true)
    (a_Ground_told : PySem.W.findIn K (.ref C_Ground) "told" = some (some (.ref f_Ground_told)))
    (i_Ground_told : PySem.W.isFn K (.ref f_Ground_told) = true)
    (l_Ground_told : K.lookup f_Ground_told = some ⟨oc_Ground_told, od_Ground_told, .func (PySem.W.fnOf "told" "Ground.told" (defArgs sGTold) (defBody sGTold) (defScope sGTold) .none kV_Ground_told dc_Ground_told pm_Ground_told an_Ground_told cd_Ground_told ct_Ground_told), sl_Ground_told⟩)
    (c_Ground_told : PySem.W.codeIn K cd_Ground_told "Ground.told" = true)
    (k_Ground_told : PySem.W.keepIn K (.ref f_Ground_told) = true)
    (a_Ground_drops : PySem.W.findIn K (.ref C_Ground) "drops" = some (some (.ref f_Ground_drops)))
    (i_Ground_drops : PySem.W.isFn K (.ref f_Ground_drops) = true)
    (l_Ground_drops : K.lookup f_Ground_drops = some ⟨oc_Ground_drops, od_Ground_drops, .func (PySem.W.fnOf "drops" "Ground.drops" (defArgs sGDrops) (defBody sGDrops) (defScope sGDrops) .none kV_Ground_drops dc_Ground_drops pm_Ground_drops an_Ground_drops cd_Ground_drops ct_Ground_drops), sl_Ground_drops⟩)
    (c_Ground_drops : PySem.W.codeIn K cd_Ground_drops "Ground.drops" = true)
    (k_Ground_drops : PySem.W.keepIn K (.ref f_Ground_drops) = true)
    (a_Ground_forget : PySem.W.findIn K (.ref C_Ground) "forget" = some (some (.ref f_Ground_forget)))
    (i_Ground_forget : PySem.W.isFn K (.ref f_Ground_forget) = true)
    (l_Ground_forget : K.lookup f_Ground_forget = some ⟨oc_Ground_forget, od_Ground_forget, .func (PySem.W.fnOf "forget" "Ground.forget" (defArgs sGForget) (defBody sGForget) (defScope sGForget) .none kV_Ground_forget dc_Ground_forget pm_Ground_forget an_Ground_forget cd_Ground_forget ct_Ground_forget), sl_Ground_forget⟩)
    (c_Ground_forget : PySem.W.codeIn K cd_Ground_forget "Ground.forget" = true)
    (k_Ground_forget : PySem.W.keepIn K (.ref f_Ground_forget) = true)
    (a_Ground_fall : PySem.W.findIn K (.ref C_Ground) "fall" = some (some (.ref f_Ground_fall)))
    (i_Ground_fall : PySem.W.isFn K (.ref f_Ground_fall) = true)
    (l_Ground_fall : K.lookup f_Ground_fall = some ⟨oc_Ground_fall, od_Ground_fall, .func (PySem.W.fnOf "fall" "Ground.fall" (defArgs sGFall) (defBody sGFall) (defScope sGFall) .none kV_Ground_fall dc_Ground_fall pm_Ground_fall an_Ground_fall cd_Ground_fall ct_Ground_fall), sl_Ground_fall⟩)
    (c_Ground_fall : PySem.W.codeIn K cd_Ground_fall "Ground.fall" = true)
    (k_Ground_fall : PySem.W.keepIn K (.ref f_Ground_fall) = true)
    (a_Ground_rise : PySem.W.findIn K (.ref C_Ground) "rise" = some (some (.ref f_Ground_rise)))
    (i_Ground_rise : PySem.W.isFn K (.ref f_Ground_rise) = true)
    (l_Ground_rise : K.lookup f_Ground_rise = some ⟨oc_Ground_rise, od_Ground_rise, .func (PySem.W.fnOf "rise" "Ground.rise" (defArgs sGRise) (defBody sGRise) (defScope sGRise) .none kV_Ground_rise dc_Ground_rise pm_Ground_rise an_Ground_rise cd_Ground_rise ct_Ground_rise), sl_Ground_rise⟩)
    (c_Ground_rise : PySem.W.codeIn K cd_Ground_rise "Ground.rise" = true)
    (k_Ground_rise : PySem.W.keepIn K (.ref f_Ground_rise) = true)
    (a_C_Wraps : PySem.W.nsIn K mainGlobals "Wraps" = some (some (.ref C_Wraps)))
    (pg_C_Wraps : PySem.W.plainGet K C_Wraps Str.empty = true)
    (hd_C_Wraps : PySem.W.hasDictIn K C_Wraps = true)
    (po_C_Wraps : PySem.W.plainOver K C_Wraps = true)
    (sa_C_Wraps : PySem.W.findIn K (.ref C_Wraps) "__setattr__" = some (some (.builtin "object.__setattr__")))
    (mk_C_Wraps : PySem.W.makesIn K C_Wraps = true)
    (kc_C_Wraps : PySem.W.keepIn K (.ref C_Wraps) = true)
    (n_C_Wraps_below : PySem.W.findIn K (.ref C_Wraps) "below" = some none)
    (n_C_Wraps_kept_rooms : PySem.W.findIn K (.ref C_Wraps) "kept_rooms" = some none)
    (n_C_Wraps_kept_gates : PySem.W.findIn K (.ref C_Wraps) "kept_gates" = some none)
    (n_C_Wraps_made_rooms : PySem.W.findIn K (.ref C_Wraps) "made_rooms" = some none)
    (n_C_Wraps_made_gates : PySem.W.findIn K (.ref C_Wraps) "made_gates" = some none)
    (n_C_Wraps_log_rows : PySem.W.findIn K (.ref C_Wraps) "log_rows" = some none)
    (n_C_Wraps_borne : PySem.W.findIn K (.ref C_Wraps) "borne" = some none)
    (n_C_Wraps_told_drops : PySem.W.findIn K (.ref C_Wraps) "told_drops" = some none)
    (a_Wraps_init : PySem.W.findIn K (.ref C_Wraps) "__init__" = some (some (.ref f_Wraps_init)))
    (i_Wraps_init : PySem.W.isFn K (.ref f_Wraps_init) = true)
    (l_Wraps_init : K.lookup f_Wraps_init = some ⟨oc_Wraps_init, od_Wraps_init, .func (PySem.W.fnOf "__init__" "Wraps.__init__" (defArgs sNInit) (defBody sNInit) (defScope sNInit) .none kV_Wraps_init dc_Wraps_init pm_Wraps_init an_Wraps_init cd_Wraps_init ct_Wraps_init), sl_Wraps_init⟩)
    (c_Wraps_init : PySem.W.codeIn K cd_Wraps_init "Wraps.__init__" = true)
    (k_Wraps_init : PySem.W.keepIn K (.ref f_Wraps_init) = true)
    (a_Wraps_tell_drops : PySem.W.findIn K (.ref C_Wraps) "tell_drops" = some (some (.ref f_Wraps_tell_drops)))
    (i_Wraps_tell_drops : PySem.W.isFn K (.ref f_Wraps_tell_drops) = true)
    (l_Wraps_tell_drops : K.lookup f_Wraps_tell_drops = some ⟨oc_Wraps_tell_drops, od_Wraps_tell_drops, .func (PySem.W.fnOf "tell_drops" "Wraps.tell_drops" (defArgs sNTell) (defBody sNTell) (defScope sNTell) .none kV_Wraps_tell_drops dc_Wraps_tell_drops pm_Wraps_tell_drops an_Wraps_tell_drops cd_Wraps_tell_drops ct_Wraps_tell_drops), sl_Wraps_tell_drops⟩)
    (c_Wraps_tell_drops : PySem.W.codeIn K cd_Wraps_tell_drops "Wraps.tell_drops" = true)
    (k_Wraps_tell_drops : PySem.W.keepIn K (.ref f_Wraps_tell_drops) = true)
    (a_C_World : PySem.W.nsIn K mainGlobals "World" = some (some (.ref C_World)))
    (pg_C_World : PySem.W.plainGet K C_World Str.empty = true)
    (hd_C_World : PySem.W.hasDictIn K C_World = true)
    (po_C_World : PySem.W.plainOver K C_World = true)
    (sa_C_World : PySem.W.findIn K (.ref C_World) "__setattr__" = some (some (.builtin "object.__setattr__")))
    (mk_C_World : PySem.W.makesIn K C_World = true)
    (kc_C_World : PySem.W.keepIn K (.ref C_World) = true)
    (n_C_World_net : PySem.W.findIn K (.ref C_World) "net" = some none)
    (n_C_World_stood : PySem.W.findIn K (.ref C_World) "stood" = some none)
    (n_C_World_telling : PySem.W.findIn K (.ref C_World) "telling" = some none)
    (n_C_World_batch_rows : PySem.W.findIn K (.ref C_World) "batch_rows" = some none)
    (a_World_init : PySem.W.findIn K (.ref C_World) "__init__" = some (some (.ref f_World_init)))
    (i_World_init : PySem.W.isFn K (.ref f_World_init) = true)
    (l_World_init : K.lookup f_World_init = some ⟨oc_World_init, od_World_init, .func (PySem.W.fnOf "__init__" "World.__init__" (defArgs sWInit) (defBody sWInit) (defScope sWInit) .none kV_World_init dc_World_init pm_World_init an_World_init cd_World_init ct_World_init), sl_World_init⟩)
    (c_World_init : PySem.W.codeIn K cd_World_init "World.__init__" = true)
    (k_World_init : PySem.W.keepIn K (.ref f_World_init) = true)
    (a_World_ground : PySem.W.findIn K (.ref C_World) "ground" = some (some (.ref f_World_ground)))
    (i_World_ground : PySem.W.isFn K (.ref f_World_ground) = true)
    (l_World_ground : K.lookup f_World_ground = some ⟨oc_World_ground, od_World_ground, .func (PySem.W.fnOf "ground" "World.ground" (defArgs sWGround) (defBody sWGround) (defScope sWGround) .none kV_World_ground dc_World_ground pm_World_ground an_World_ground cd_World_ground ct_World_ground), sl_World_ground⟩)
    (c_World_ground : PySem.W.codeIn K cd_World_ground "World.ground" = true)
    (k_World_ground : PySem.W.keepIn K (.ref f_World_ground) = true)
    (a_World_look_open : PySem.W.findIn K (.ref C_World) "look_open" = some (some (.ref f_World_look_open)))
    (i_World_look_open : PySem.W.isFn K (.ref f_World_look_open) = true)
    (l_World_look_open : K.lookup f_World_look_open = some ⟨oc_World_look_open, od_World_look_open, .func (PySem.W.fnOf "look_open" "World.look_open" (defArgs sWOpen) (defBody sWOpen) (defScope sWOpen) .none kV_World_look_open dc_World_look_open pm_World_look_open an_World_look_open cd_World_look_open ct_World_look_open), sl_World_look_open⟩)
    (c_World_look_open : PySem.W.codeIn K cd_World_look_open "World.look_open" = true)
    (k_World_look_open : PySem.W.keepIn K (.ref f_World_look_open) = true)
    (a_World_done : PySem.W.findIn K (.ref C_World) "done" = some (some (.ref f_World_done)))
    (i_World_done : PySem.W.isFn K (.ref f_World_done) = true)
    (l_World_done : K.lookup f_World_done = some ⟨oc_World_done, od_World_done, .func (PySem.W.fnOf "done" "World.done" (defArgs sWDone) (defBody sWDone) (defScope sWDone) .none kV_World_done dc_World_done pm_World_done an_World_done cd_World_done ct_World_done), sl_World_done⟩)
    (c_World_done : PySem.W.codeIn K cd_World_done "World.done" = true)
    (k_World_done : PySem.W.keepIn K (.ref f_World_done) = true)
    (a_World_fall : PySem.W.findIn K (.ref C_World) "fall" = some (some (.ref f_World_fall)))
    (i_World_fall : PySem.W.isFn K (.ref f_World_fall) = true)
    (l_World_fall : K.lookup f_World_fall = some ⟨oc_World_fall, od_World_fall, .func (PySem.W.fnOf "fall" "World.fall" (defArgs sWFall) (defBody sWFall) (defScope sWFall) .none kV_World_fall dc_World_fall pm_World_fall an_World_fall cd_World_fall ct_World_fall), sl_World_fall⟩)
    (c_World_fall : PySem.W.codeIn K cd_World_fall "World.fall" = true)
    (k_World_fall : PySem.W.keepIn K (.ref f_World_fall) = true)
    (a_World_rise : PySem.W.findIn K (.ref C_World) "rise" = some (some (.ref f_World_rise)))
    (i_World_rise : PySem.W.isFn K (.ref f_World_rise) = true)
    (l_World_rise : K.lookup f_World_rise = some ⟨oc_World_rise, od_World_rise, .func (PySem.W.fnOf "rise" "World.rise" (defArgs sWRise) (defBody sWRise) (defScope sWRise) .none kV_World_rise dc_World_rise pm_World_rise an_World_rise cd_World_rise ct_World_rise), sl_World_rise⟩)
    (c_World_rise : PySem.W.codeIn K cd_World_rise "World.rise" = true)
    (k_World_rise : PySem.W.keepIn K (.ref f_World_rise) = true)
    (kit_ess : PySem.W.exmOne K (.ref C_Same) (.ref C_Same) = some true)
    (kit_ens : PySem.W.exmOne K (.ref C_NoRoad) (.ref C_Same) = some false)
    (kit_enn : PySem.W.exmOne K (.ref C_NoRoad) (.ref C_NoRoad) = some true)
    (kit_kse : PySem.W.kitOne K (.ref C_Same) (.ref C_NetError) = some true)
    (kit_kne : PySem.W.kitOne K (.ref C_NoRoad) (.ref C_NetError) = some true)
    (kit_so : PySem.W.kitAny K (.ref C_Same) [.ref C_NoRoad, .ref C_BadGround] = some false)
    (kit_no : PySem.W.kitAny K (.ref C_NoRoad) [.ref C_Same, .ref C_BadGround] = some false)
    (a_is_whole : PySem.W.nsIn K mainGlobals "is_whole" = some (some (.ref f_is_whole)))
    (l_is_whole : K.lookup f_is_whole = some ⟨oc_is_whole, od_is_whole, .func (PySem.W.fnOf "is_whole" "is_whole" (defArgs sWhole) (defBody sWhole) (defScope sWhole) .none kV_is_whole dc_is_whole pm_is_whole an_is_whole cd_is_whole ct_is_whole), sl_is_whole⟩)
    (c_is_whole : PySem.W.codeIn K cd_is_whole "is_whole" = true)
    (k_is_whole : PySem.W.keepIn K (.ref f_is_whole) = true)
    (a_is_from : PySem.W.nsIn K mainGlobals "is_from" = some (some (.ref f_is_from)))
    (l_is_from : K.lookup f_is_from = some ⟨oc_is_from, od_is_from, .func (PySem.W.fnOf "is_from" "is_from" (defArgs sFrom) (defBody sFrom) (defScope sFrom) .none kV_is_from dc_is_from pm_is_from an_is_from cd_is_from ct_is_from), sl_is_from⟩)
    (c_is_from : PySem.W.codeIn K cd_is_from "is_from" = true)
    (k_is_from : PySem.W.keepIn K (.ref f_is_from) = true)
    (a_is_road : PySem.W.nsIn K mainGlobals "is_road" = some (some (.ref f_is_road)))
    (l_is_road : K.lookup f_is_road = some ⟨oc_is_road, od_is_road, .func (PySem.W.fnOf "is_road" "is_road" (defArgs sIsRoad) (defBody sIsRoad) (defScope sIsRoad) .none kV_is_road dc_is_road pm_is_road an_is_road cd_is_road ct_is_road), sl_is_road⟩)
    (c_is_road : PySem.W.codeIn K cd_is_road "is_road" = true)
    (k_is_road : PySem.W.keepIn K (.ref f_is_road) = true)
    (a_bad_rows : PySem.W.nsIn K mainGlobals "bad_rows" = some (some (.ref f_bad_rows)))
    (l_bad_rows : K.lookup f_bad_rows = some ⟨oc_bad_rows, od_bad_rows, .func (PySem.W.fnOf "bad_rows" "bad_rows" (defArgs sBadRows) (defBody sBadRows) (defScope sBadRows) .none kV_bad_rows dc_bad_rows pm_bad_rows an_bad_rows cd_bad_rows ct_bad_rows), sl_bad_rows⟩)
    (c_bad_rows : PySem.W.codeIn K cd_bad_rows "bad_rows" = true)
    (k_bad_rows : PySem.W.keepIn K (.ref f_bad_rows) = true)
    (a_near_rows : PySem.W.nsIn K mainGlobals "near_rows" = some (some (.ref f_near_rows)))
    (l_near_rows : K.lookup f_near_rows = some ⟨oc_near_rows, od_near_rows, .func (PySem.W.fnOf "near_rows" "near_rows" (defArgs sNear) (defBody sNear) (defScope sNear) .none kV_near_rows dc_near_rows pm_near_rows an_near_rows cd_near_rows ct_near_rows), sl_near_rows⟩)
    (c_near_rows : PySem.W.codeIn K cd_near_rows "near_rows" = true)
    (k_near_rows : PySem.W.keepIn K (.ref f_near_rows) = true)
    (a_turned_row : PySem.W.nsIn K mainGlobals "turned_row" = some (some (.ref f_turned_row)))
    (l_turned_row : K.lookup f_turned_row = some ⟨oc_turned_row, od_turned_row, .func (PySem.W.fnOf "turned_row" "turned_row" (defArgs sTRow) (defBody sTRow) (defScope sTRow) .none kV_turned_row dc_turned_row pm_turned_row an_turned_row cd_turned_row ct_turned_row), sl_turned_row⟩)
    (c_turned_row : PySem.W.codeIn K cd_turned_row "turned_row" = true)
    (k_turned_row : PySem.W.keepIn K (.ref f_turned_row) = true)
    (a_turned_all : PySem.W.nsIn K mainGlobals "turned_all" = some (some (.ref f_turned_all)))
    (l_turned_all : K.lookup f_turned_all = some ⟨oc_turned_all, od_turned_all, .func (PySem.W.fnOf "turned_all" "turned_all" (defArgs sTAll) (defBody sTAll) (defScope sTAll) .none kV_turned_all dc_turned_all pm_turned_all an_turned_all cd_turned_all ct_turned_all), sl_turned_all⟩)
    (c_turned_all : PySem.W.codeIn K cd_turned_all "turned_all" = true)
    (k_turned_all : PySem.W.keepIn K (.ref f_turned_all) = true)
    (a_far_paper : PySem.W.nsIn K mainGlobals "far_paper" = some (some (.ref f_far_paper)))
    (l_far_paper : K.lookup f_far_paper = some ⟨oc_far_paper, od_far_paper, .func (PySem.W.fnOf "far_paper" "far_paper" (defArgs sFarPaper) (defBody sFarPaper) (defScope sFarPaper) .none kV_far_paper dc_far_paper pm_far_paper an_far_paper cd_far_paper ct_far_paper), sl_far_paper⟩)
    (c_far_paper : PySem.W.codeIn K cd_far_paper "far_paper" = true)
    (k_far_paper : PySem.W.keepIn K (.ref f_far_paper) = true)
    (a_law_deck : PySem.W.nsIn K mainGlobals "_law_deck" = some (some (.ref f_law_deck)))
    (l_law_deck : K.lookup f_law_deck = some ⟨oc_law_deck, od_law_deck, .func (PySem.W.fnOf "_law_deck" "_law_deck" (defArgs sDeck) (defBody sDeck) (defScope sDeck) .none kV_law_deck dc_law_deck pm_law_deck an_law_deck cd_law_deck ct_law_deck), sl_law_deck⟩)
    (c_law_deck : PySem.W.codeIn K cd_law_deck "_law_deck" = true)
    (k_law_deck : PySem.W.keepIn K (.ref f_law_deck) = true)
    (a_law_draw : PySem.W.nsIn K mainGlobals "_law_draw" = some (some (.ref f_law_draw)))
    (l_law_draw : K.lookup f_law_draw = some ⟨oc_law_draw, od_law_draw, .func (PySem.W.fnOf "_law_draw" "_law_draw" (defArgs sDraw) (defBody sDraw) (defScope sDraw) .none kV_law_draw dc_law_draw pm_law_draw an_law_draw cd_law_draw ct_law_draw), sl_law_draw⟩)
    (c_law_draw : PySem.W.codeIn K cd_law_draw "_law_draw" = true)
    (k_law_draw : PySem.W.keepIn K (.ref f_law_draw) = true)
    (a_law_roads : PySem.W.nsIn K mainGlobals "_law_roads" = some (some (.ref f_law_roads)))
    (l_law_roads : K.lookup f_law_roads = some ⟨oc_law_roads, od_law_roads, .func (PySem.W.fnOf "_law_roads" "_law_roads" (defArgs sLRoads) (defBody sLRoads) (defScope sLRoads) .none kV_law_roads dc_law_roads pm_law_roads an_law_roads cd_law_roads ct_law_roads), sl_law_roads⟩)
    (c_law_roads : PySem.W.codeIn K cd_law_roads "_law_roads" = true)
    (k_law_roads : PySem.W.keepIn K (.ref f_law_roads) = true)
    (a_law_done : PySem.W.nsIn K mainGlobals "_law_done" = some (some (.ref f_law_done)))
    (l_law_done : K.lookup f_law_done = some ⟨oc_law_done, od_law_done, .func (PySem.W.fnOf "_law_done" "_law_done" (defArgs sLDone) (defBody sLDone) (defScope sLDone) .none kV_law_done dc_law_done pm_law_done an_law_done cd_law_done ct_law_done), sl_law_done⟩)
    (c_law_done : PySem.W.codeIn K cd_law_done "_law_done" = true)
    (k_law_done : PySem.W.keepIn K (.ref f_law_done) = true)
    (a_law_pair : PySem.W.nsIn K mainGlobals "_law_pair" = some (some (.ref f_law_pair)))
    (l_law_pair : K.lookup f_law_pair = some ⟨oc_law_pair, od_law_pair, .func (PySem.W.fnOf "_law_pair" "_law_pair" (defArgs sLPair) (defBody sLPair) (defScope sLPair) .none kV_law_pair dc_law_pair pm_law_pair an_law_pair cd_law_pair ct_law_pair), sl_law_pair⟩)
    (c_law_pair : PySem.W.codeIn K cd_law_pair "_law_pair" = true)
    (k_law_pair : PySem.W.keepIn K (.ref f_law_pair) = true)
    (a_law_row_of : PySem.W.nsIn K mainGlobals "_law_row_of" = some (some (.ref f_law_row_of)))
    (l_law_row_of : K.lookup f_law_row_of = some ⟨oc_law_row_of, od_law_row_of, .func (PySem.W.fnOf "_law_row_of" "_law_row_of" (defArgs sLRow) (defBody sLRow) (defScope sLRow) .none kV_law_row_of dc_law_row_of pm_law_row_of an_law_row_of cd_law_row_of ct_law_row_of), sl_law_row_of⟩)
    (c_law_row_of : PySem.W.codeIn K cd_law_row_of "_law_row_of" = true)
    (k_law_row_of : PySem.W.keepIn K (.ref f_law_row_of) = true)
    (a_law_near : PySem.W.nsIn K mainGlobals "_law_near" = some (some (.ref f_law_near)))
    (l_law_near : K.lookup f_law_near = some ⟨oc_law_near, od_law_near, .func (PySem.W.fnOf "_law_near" "_law_near" (defArgs sLNear) (defBody sLNear) (defScope sLNear) .none kV_law_near dc_law_near pm_law_near an_law_near cd_law_near ct_law_near), sl_law_near⟩)
    (c_law_near : PySem.W.codeIn K cd_law_near "_law_near" = true)
    (k_law_near : PySem.W.keepIn K (.ref f_law_near) = true)
    (a_law : PySem.W.nsIn K mainGlobals "law" = some (some (.ref f_law)))
    (l_law : K.lookup f_law = some ⟨oc_law, od_law, .func (PySem.W.fnOf "law" "law" (defArgs sLaw) (defBody sLaw) (defScope sLaw) .none kV_law dc_law pm_law an_law cd_law ct_law), sl_law⟩)
    (c_law : PySem.W.codeIn K cd_law "law" = true)
    (k_law : PySem.W.keepIn K (.ref f_law) = true)
    (z_abs : PySem.W.nsIn K mainGlobals "abs" = some none)
    (z_all : PySem.W.nsIn K mainGlobals "all" = some none)
    (z_bool : PySem.W.nsIn K mainGlobals "bool" = some none)
    (z_dict : PySem.W.nsIn K mainGlobals "dict" = some none)
    (z_enumerate : PySem.W.nsIn K mainGlobals "enumerate" = some none)
    (z_int : PySem.W.nsIn K mainGlobals "int" = some none)
    (z_isinstance : PySem.W.nsIn K mainGlobals "isinstance" = some none)
    (z_len : PySem.W.nsIn K mainGlobals "len" = some none)
    (z_list : PySem.W.nsIn K mainGlobals "list" = some none)
    (z_min : PySem.W.nsIn K mainGlobals "min" = some none)
    (z_range : PySem.W.nsIn K mainGlobals "range" = some none)
    (z_repr : PySem.W.nsIn K mainGlobals "repr" = some none)
    (z_set : PySem.W.nsIn K mainGlobals "set" = some none)
    (z_sorted : PySem.W.nsIn K mainGlobals "sorted" = some none)
    (z_str : PySem.W.nsIn K mainGlobals "str" = some none)
    (z_tuple : PySem.W.nsIn K mainGlobals "tuple" = some none)
    (z_zip : PySem.W.nsIn K mainGlobals "zip" = some none) :
    ∃ fd : FuncData, (∀ (s : Shared) (v : Value), BindsTo s fd ⟨[v], []⟩ [("_law_script", v)]) ∧ ∀ base : Heap, K.In base → base.Ns mainGlobals mg → LawOk l.prog w K mg base fa fd ["_law_script"] (spLaw K) := by
  have e := hfa.symm.trans (PySem.W.mg_of X G a_law)
  cases e
  have m_HOUSES := PySem.W.mg_of X G a_HOUSES
  have m_ROADS := PySem.W.mg_of X G a_ROADS
  have m_DELAY := PySem.W.mg_of X G a_DELAY
  have m_NARROW := PySem.W.mg_of X G a_NARROW
  have m_WIDE := PySem.W.mg_of X G a_WIDE
  have m_FAR := PySem.W.mg_of X G a_FAR
  have m_DEEDS_bounds := PySem.W.mg_of X G a_DEEDS_bounds
  have m_C_NetError := PySem.W.mg_of X G a_C_NetError
  have NE : NetE K mg C_NetError := ⟨m_C_NetError, sp_C_NetError, rd_C_NetError, v_C_NetError⟩
  have m_C_BadGround := PySem.W.mg_of X G a_C_BadGround
  have m_C_NoRoad := PySem.W.mg_of X G a_C_NoRoad
  have oex_C_NoRoad : OexC K C_NoRoad := ⟨⟨nm_C_NoRoad, q_C_NoRoad, N_C_NoRoad, bs_C_NoRoad, _, sn_C_NoRoad, sub_C_NoRoad, ab_C_NoRoad, col_C_NoRoad, dd_C_NoRoad, m0_C_NoRoad, m1_C_NoRoad, m2_C_NoRoad, m3_C_NoRoad, m5_C_NoRoad, xL_C_NoRoad, (by show PySem.HandSPX.refsVE [.type "ValueError", .type "Exception", .type "BaseException", .type "object"] = true; decide +kernel)⟩, sa_C_NoRoad, ex_C_NoRoad, ty_C_NoRoad, kc_C_NoRoad⟩
  have F_NoRoad_init := fun_mk (st := sE_NoRoad) l_NoRoad_init c_NoRoad_init k_NoRoad_init
  have b_NoRoad_init := F_NoRoad_init.binds (ps := ["self", "a", "b"]) fun _ _ _ _ _ _ us hl => match us, hl with | [_, _, _], _ => rfl
  have M_NoRoad_init : Meth K C_NoRoad "__init__" f_NoRoad_init := ⟨a_NoRoad_init, i_NoRoad_init, k_NoRoad_init⟩
  have xf_C_NoRoad : XfC K C_NoRoad := ⟨ga_C_NoRoad, gg_C_NoRoad, ex_C_NoRoad, hd_C_NoRoad⟩
  have ec_C_NoRoad : ExcC K C_NoRoad := ⟨ga_C_NoRoad, gg_C_NoRoad, ex_C_NoRoad, hd_C_NoRoad, hc_C_NoRoad, cg_all, tk_all, mo_C_NoRoad⟩
  have te_C_NoRoad : PySem.W.exmOne K (.ref C_NoRoad) (.ref C_NetError) = some true := PySem.W.exm_ref ex_C_NetError hd_C_NetError ty_C_NetError sn_C_NoRoad_b
  have m_C_Same := PySem.W.mg_of X G a_C_Same
  have oex_C_Same : OexC K C_Same := ⟨⟨nm_C_Same, q_C_Same, N_C_Same, bs_C_Same, _, sn_C_Same, sub_C_Same, ab_C_Same, col_C_Same, dd_C_Same, m0_C_Same, m1_C_Same, m2_C_Same, m3_C_Same, m5_C_Same, xL_C_Same, (by show PySem.HandSPX.refsVE [.type "ValueError", .type "Exception", .type "BaseException", .type "object"] = true; decide +kernel)⟩, sa_C_Same, ex_C_Same, ty_C_Same, kc_C_Same⟩
  have F_Same_init := fun_mk (st := sE_Same) l_Same_init c_Same_init k_Same_init
  have b_Same_init := F_Same_init.binds (ps := ["self"]) fun _ _ _ _ _ _ us hl => match us, hl with | [_], _ => rfl
  have M_Same_init : Meth K C_Same "__init__" f_Same_init := ⟨a_Same_init, i_Same_init, k_Same_init⟩
  have xf_C_Same : XfC K C_Same := ⟨ga_C_Same, gg_C_Same, ex_C_Same, hd_C_Same⟩
  have ec_C_Same : ExcC K C_Same := ⟨ga_C_Same, gg_C_Same, ex_C_Same, hd_C_Same, hc_C_Same, cg_all, tk_all, mo_C_Same⟩
  have te_C_Same : PySem.W.exmOne K (.ref C_Same) (.ref C_NetError) = some true := PySem.W.exm_ref ex_C_NetError hd_C_NetError ty_C_NetError sn_C_Same_b
  have m_C_Roads := PySem.W.mg_of X G a_C_Roads
  have cl_C_Roads : Cls K C_Roads := ⟨pg_C_Roads, hd_C_Roads, po_C_Roads, sa_C_Roads⟩
  have F_Roads_init := fun_mk (st := sRoadsInit) l_Roads_init c_Roads_init k_Roads_init
  have b_Roads_init := F_Roads_init.binds (ps := ["self", "houses", "roads"]) fun _ _ _ _ _ _ us hl => match us, hl with | [_, _, _], _ => rfl
  have M_Roads_init : Meth K C_Roads "__init__" f_Roads_init := ⟨a_Roads_init, i_Roads_init, k_Roads_init⟩
  have F_Roads_up := fun_mk (st := sRoadsUp) l_Roads_up c_Roads_up k_Roads_up
  have b_Roads_up := F_Roads_up.binds (ps := ["self"]) fun _ _ _ _ _ _ us hl => match us, hl with | [_], _ => rfl
  have M_Roads_up : Meth K C_Roads "up" f_Roads_up := ⟨a_Roads_up, i_Roads_up, k_Roads_up⟩
  have F_Roads_pair_of := fun_mk (st := sRoadsPair) l_Roads_pair_of c_Roads_pair_of k_Roads_pair_of
  have b_Roads_pair_of := F_Roads_pair_of.binds (ps := ["self", "a", "b"]) fun _ _ _ _ _ _ us hl => match us, hl with | [_, _, _], _ => rfl
  have M_Roads_pair_of : Meth K C_Roads "pair_of" f_Roads_pair_of := ⟨a_Roads_pair_of, i_Roads_pair_of, k_Roads_pair_of⟩
  have F_Roads_fall := fun_mk (st := sRoadsFall) l_Roads_fall c_Roads_fall k_Roads_fall
  have b_Roads_fall := F_Roads_fall.binds (ps := ["self", "a", "b"]) fun _ _ _ _ _ _ us hl => match us, hl with | [_, _, _], _ => rfl
  have M_Roads_fall : Meth K C_Roads "fall" f_Roads_fall := ⟨a_Roads_fall, i_Roads_fall, k_Roads_fall⟩
  have F_Roads_rise := fun_mk (st := sRoadsRise) l_Roads_rise c_Roads_rise k_Roads_rise
  have b_Roads_rise := F_Roads_rise.binds (ps := ["self", "a", "b"]) fun _ _ _ _ _ _ us hl => match us, hl with | [_, _, _], _ => rfl
  have M_Roads_rise : Meth K C_Roads "rise" f_Roads_rise := ⟨a_Roads_rise, i_Roads_rise, k_Roads_rise⟩
  have F_Roads_neighbours := fun_mk (st := sRoadsNbr) l_Roads_neighbours c_Roads_neighbours k_Roads_neighbours
  have b_Roads_neighbours := F_Roads_neighbours.binds (ps := ["self", "house"]) fun _ _ _ _ _ _ us hl => match us, hl with | [_, _], _ => rfl
  have M_Roads_neighbours : Meth K C_Roads "neighbours" f_Roads_neighbours := ⟨a_Roads_neighbours, i_Roads_neighbours, k_Roads_neighbours⟩
  have m_C_Fars := PySem.W.mg_of X G a_C_Fars
  have cl_C_Fars : Cls K C_Fars := ⟨pg_C_Fars, hd_C_Fars, po_C_Fars, sa_C_Fars⟩
  have F_Fars_init := fun_mk (st := sFarsInit) l_Fars_init c_Fars_init k_Fars_init
  have b_Fars_init := F_Fars_init.binds (ps := ["self", "roads"]) fun _ _ _ _ _ _ us hl => match us, hl with | [_, _], _ => rfl
  have M_Fars_init : Meth K C_Fars "__init__" f_Fars_init := ⟨a_Fars_init, i_Fars_init, k_Fars_init⟩
  have F_Fars_rows := fun_mk (st := sFarsRows) l_Fars_rows c_Fars_rows k_Fars_rows
  have b_Fars_rows := F_Fars_rows.binds (ps := ["self"]) fun _ _ _ _ _ _ us hl => match us, hl with | [_], _ => rfl
  have M_Fars_rows : Meth K C_Fars "rows" f_Fars_rows := ⟨a_Fars_rows, i_Fars_rows, k_Fars_rows⟩
  have m_C_Frame := PySem.W.mg_of X G a_C_Frame
  have cl_C_Frame : Cls K C_Frame := ⟨pg_C_Frame, hd_C_Frame, po_C_Frame, sa_C_Frame⟩
  have m_C_Heap := PySem.W.mg_of X G a_C_Heap
  have cl_C_Heap : Cls K C_Heap := ⟨pg_C_Heap, hd_C_Heap, po_C_Heap, sa_C_Heap⟩
  have m_C_Ground := PySem.W.mg_of X G a_C_Ground
  have cl_C_Ground : Cls K C_Ground := ⟨pg_C_Ground, hd_C_Ground, po_C_Ground, sa_C_Ground⟩
  have F_Ground_init := fun_mk (st := sGInit) l_Ground_init c_Ground_init k_Ground_init
  have b_Ground_init := F_Ground_init.binds (ps := ["self", "houses", "roads"]) fun _ _ _ _ _ _ us hl => match us, hl with | [_, _, _], _ => rfl
  have M_Ground_init : Meth K C_Ground "__init__" f_Ground_init := ⟨a_Ground_init, i_Ground_init, k_Ground_init⟩
  have F_Ground_told := fun_mk (st := sGTold) l_Ground_told c_Ground_told k_Ground_told
  have b_Ground_told := F_Ground_told.binds (ps := ["self"]) fun _ _ _ _ _ _ us hl => match us, hl with | [_], _ => rfl
  have M_Ground_told : Meth K C_Ground "told" f_Ground_told := ⟨a_Ground_told, i_Ground_told, k_Ground_told⟩
  have F_Ground_drops := fun_mk (st := sGDrops) l_Ground_drops c_Ground_drops k_Ground_drops
  have b_Ground_drops := F_Ground_drops.binds (ps := ["self"]) fun _ _ _ _ _ _ us hl => match us, hl with | [_], _ => rfl
  have M_Ground_drops : Meth K C_Ground "drops" f_Ground_drops := ⟨a_Ground_drops, i_Ground_drops, k_Ground_drops⟩
  have F_Ground_forget := fun_mk (st := sGForget) l_Ground_forget c_Ground_forget k_Ground_forget
  have b_Ground_forget := F_Ground_forget.binds (ps := ["self"]) fun _ _ _ _ _ _ us hl => match us, hl with | [_], _ => rfl
  have M_Ground_forget : Meth K C_Ground "forget" f_Ground_forget := ⟨a_Ground_forget, i_Ground_forget, k_Ground_forget⟩
  have F_Ground_fall := fun_mk (st := sGFall) l_Ground_fall c_Ground_fall k_Ground_fall
  have b_Ground_fall := F_Ground_fall.binds (ps := ["self", "a", "b"]) fun _ _ _ _ _ _ us hl => match us, hl with | [_, _, _], _ => rfl
  have M_Ground_fall : Meth K C_Ground "fall" f_Ground_fall := ⟨a_Ground_fall, i_Ground_fall, k_Ground_fall⟩
  have F_Ground_rise := fun_mk (st := sGRise) l_Ground_rise c_Ground_rise k_Ground_rise
  have b_Ground_rise := F_Ground_rise.binds (ps := ["self", "a", "b"]) fun _ _ _ _ _ _ us hl => match us, hl with | [_, _, _], _ => rfl
  have M_Ground_rise : Meth K C_Ground "rise" f_Ground_rise := ⟨a_Ground_rise, i_Ground_rise, k_Ground_rise⟩
  have m_C_Wraps := PySem.W.mg_of X G a_C_Wraps
  have cl_C_Wraps : Cls K C_Wraps := ⟨pg_C_Wraps, hd_C_Wraps, po_C_Wraps, sa_C_Wraps⟩
  have F_Wraps_init := fun_mk (st := sNInit) l_Wraps_init c_Wraps_init k_Wraps_init
  have b_Wraps_init := F_Wraps_init.binds (ps := ["self", "houses", "roads"]) fun _ _ _ _ _ _ us hl => match us, hl with | [_, _, _], _ => rfl
  have M_Wraps_init : Meth K C_Wraps "__init__" f_Wraps_init := ⟨a_Wraps_init, i_Wraps_init, k_Wraps_init⟩
  have F_Wraps_tell_drops := fun_mk (st := sNTell) l_Wraps_tell_drops c_Wraps_tell_drops k_Wraps_tell_drops
  have b_Wraps_tell_drops := F_Wraps_tell_drops.binds (ps := ["self"]) fun _ _ _ _ _ _ us hl => match us, hl with | [_], _ => rfl
  have M_Wraps_tell_drops : Meth K C_Wraps "tell_drops" f_Wraps_tell_drops := ⟨a_Wraps_tell_drops, i_Wraps_tell_drops, k_Wraps_tell_drops⟩
  have m_C_World := PySem.W.mg_of X G a_C_World
  have cl_C_World : Cls K C_World := ⟨pg_C_World, hd_C_World, po_C_World, sa_C_World⟩
  have F_World_init := fun_mk (st := sWInit) l_World_init c_World_init k_World_init
  have b_World_init := F_World_init.binds (ps := ["self", "houses", "roads"]) fun _ _ _ _ _ _ us hl => match us, hl with | [_, _, _], _ => rfl
  have M_World_init : Meth K C_World "__init__" f_World_init := ⟨a_World_init, i_World_init, k_World_init⟩
  have F_World_ground := fun_mk (st := sWGround) l_World_ground c_World_ground k_World_ground
  have b_World_ground := F_World_ground.binds (ps := ["self"]) fun _ _ _ _ _ _ us hl => match us, hl with | [_], _ => rfl
  have M_World_ground : Meth K C_World "ground" f_World_ground := ⟨a_World_ground, i_World_ground, k_World_ground⟩
  have F_World_look_open := fun_mk (st := sWOpen) l_World_look_open c_World_look_open k_World_look_open
  have b_World_look_open := F_World_look_open.binds (ps := ["self"]) fun _ _ _ _ _ _ us hl => match us, hl with | [_], _ => rfl
  have M_World_look_open : Meth K C_World "look_open" f_World_look_open := ⟨a_World_look_open, i_World_look_open, k_World_look_open⟩
  have F_World_done := fun_mk (st := sWDone) l_World_done c_World_done k_World_done
  have b_World_done := F_World_done.binds (ps := ["self", "found"]) fun _ _ _ _ _ _ us hl => match us, hl with | [_, _], _ => rfl
  have M_World_done : Meth K C_World "done" f_World_done := ⟨a_World_done, i_World_done, k_World_done⟩
  have F_World_fall := fun_mk (st := sWFall) l_World_fall c_World_fall k_World_fall
  have b_World_fall := F_World_fall.binds (ps := ["self", "a", "b"]) fun _ _ _ _ _ _ us hl => match us, hl with | [_, _, _], _ => rfl
  have M_World_fall : Meth K C_World "fall" f_World_fall := ⟨a_World_fall, i_World_fall, k_World_fall⟩
  have F_World_rise := fun_mk (st := sWRise) l_World_rise c_World_rise k_World_rise
  have b_World_rise := F_World_rise.binds (ps := ["self", "a", "b"]) fun _ _ _ _ _ _ us hl => match us, hl with | [_, _, _], _ => rfl
  have M_World_rise : Meth K C_World "rise" f_World_rise := ⟨a_World_rise, i_World_rise, k_World_rise⟩
  have F_is_whole := fun_mk (st := sWhole) l_is_whole c_is_whole k_is_whole
  have b_is_whole := F_is_whole.binds (ps := ["thing"]) fun _ _ _ _ _ _ us hl => match us, hl with | [_], _ => rfl
  have m_is_whole := PySem.W.mg_of X G a_is_whole
  have F_is_from := fun_mk (st := sFrom) l_is_from c_is_from k_is_from
  have b_is_from := F_is_from.binds (ps := ["thing", "low", "high"]) fun _ _ _ _ _ _ us hl => match us, hl with | [_, _, _], _ => rfl
  have m_is_from := PySem.W.mg_of X G a_is_from
  have F_is_road := fun_mk (st := sIsRoad) l_is_road c_is_road k_is_road
  have b_is_road := F_is_road.binds (ps := ["houses", "thing"]) fun _ _ _ _ _ _ us hl => match us, hl with | [_, _], _ => rfl
  have m_is_road := PySem.W.mg_of X G a_is_road
  have F_bad_rows := fun_mk (st := sBadRows) l_bad_rows c_bad_rows k_bad_rows
  have b_bad_rows := F_bad_rows.binds (ps := ["houses", "roads"]) fun _ _ _ _ _ _ us hl => match us, hl with | [_, _], _ => rfl
  have m_bad_rows := PySem.W.mg_of X G a_bad_rows
  have F_near_rows := fun_mk (st := sNear) l_near_rows c_near_rows k_near_rows
  have b_near_rows := F_near_rows.binds (ps := ["houses", "roads", "up"]) fun _ _ _ _ _ _ us hl => match us, hl with | [_, _, _], _ => rfl
  have m_near_rows := PySem.W.mg_of X G a_near_rows
  have F_turned_row := fun_mk (st := sTRow) l_turned_row c_turned_row k_turned_row
  have b_turned_row := F_turned_row.binds (ps := ["near", "fars", "house"]) fun _ _ _ _ _ _ us hl => match us, hl with | [_, _, _], _ => rfl
  have m_turned_row := PySem.W.mg_of X G a_turned_row
  have F_turned_all := fun_mk (st := sTAll) l_turned_all c_turned_all k_turned_all
  have b_turned_all := F_turned_all.binds (ps := ["near", "fars"]) fun _ _ _ _ _ _ us hl => match us, hl with | [_, _], _ => rfl
  have m_turned_all := PySem.W.mg_of X G a_turned_all
  have F_far_paper := fun_mk (st := sFarPaper) l_far_paper c_far_paper k_far_paper
  have b_far_paper := F_far_paper.binds (ps := ["houses", "roads", "up"]) fun _ _ _ _ _ _ us hl => match us, hl with | [_, _, _], _ => rfl
  have m_far_paper := PySem.W.mg_of X G a_far_paper
  have F_law_deck := fun_mk (st := sDeck) l_law_deck c_law_deck k_law_deck
  have b_law_deck := F_law_deck.binds (ps := ["_law_script"]) fun _ _ _ _ _ _ us hl => match us, hl with | [_], _ => rfl
  have m_law_deck := PySem.W.mg_of X G a_law_deck
  have F_law_draw := fun_mk (st := sDraw) l_law_draw c_law_draw k_law_draw
  have b_law_draw := F_law_draw.binds (ps := ["_law_deck_here", "_law_many"]) fun _ _ _ _ _ _ us hl => match us, hl with | [_, _], _ => rfl
  have m_law_draw := PySem.W.mg_of X G a_law_draw
  have F_law_roads := fun_mk (st := sLRoads) l_law_roads c_law_roads k_law_roads
  have b_law_roads := F_law_roads.binds (ps := ["_law_deck_here", "_law_houses"]) fun _ _ _ _ _ _ us hl => match us, hl with | [_, _], _ => rfl
  have m_law_roads := PySem.W.mg_of X G a_law_roads
  have F_law_done := fun_mk (st := sLDone) l_law_done c_law_done k_law_done
  have b_law_done := F_law_done.binds (ps := ["_law_net", "_law_falls", "_law_a", "_law_b"]) fun _ _ _ _ _ _ us hl => match us, hl with | [_, _, _, _], _ => rfl
  have m_law_done := PySem.W.mg_of X G a_law_done
  have F_law_pair := fun_mk (st := sLPair) l_law_pair c_law_pair k_law_pair
  have b_law_pair := F_law_pair.binds (ps := ["_law_deck_here", "_law_houses", "_law_roads_here"]) fun _ _ _ _ _ _ us hl => match us, hl with | [_, _, _], _ => rfl
  have m_law_pair := PySem.W.mg_of X G a_law_pair
  have F_law_row_of := fun_mk (st := sLRow) l_law_row_of c_law_row_of k_law_row_of
  have b_law_row_of := F_law_row_of.binds (ps := ["_law_roads_here", "_law_pair_here"]) fun _ _ _ _ _ _ us hl => match us, hl with | [_, _], _ => rfl
  have m_law_row_of := PySem.W.mg_of X G a_law_row_of
  have F_law_near := fun_mk (st := sLNear) l_law_near c_law_near k_law_near
  have b_law_near := F_law_near.binds (ps := ["_law_roads_here", "_law_up", "_law_house"]) fun _ _ _ _ _ _ us hl => match us, hl with | [_, _, _], _ => rfl
  have m_law_near := PySem.W.mg_of X G a_law_near
  have F_law := fun_mk (st := sLaw) l_law c_law k_law
  have b_law := F_law.binds (ps := ["_law_script"]) fun _ _ _ _ _ _ us hl => match us, hl with | [_], _ => rfl
  have n_abs := PySem.W.mg_none_of X G z_abs
  have n_all := PySem.W.mg_none_of X G z_all
  have n_bool := PySem.W.mg_none_of X G z_bool
  have n_dict := PySem.W.mg_none_of X G z_dict
  have n_enumerate := PySem.W.mg_none_of X G z_enumerate
  have n_int := PySem.W.mg_none_of X G z_int
  have n_isinstance := PySem.W.mg_none_of X G z_isinstance
  have n_len := PySem.W.mg_none_of X G z_len
  have n_list := PySem.W.mg_none_of X G z_list
  have n_min := PySem.W.mg_none_of X G z_min
  have n_range := PySem.W.mg_none_of X G z_range
  have n_repr := PySem.W.mg_none_of X G z_repr
  have n_set := PySem.W.mg_none_of X G z_set
  have n_sorted := PySem.W.mg_none_of X G z_sorted
  have n_str := PySem.W.mg_none_of X G z_str
  have n_tuple := PySem.W.mg_none_of X G z_tuple
  have n_zip := PySem.W.mg_none_of X G z_zip
  refine ⟨PySem.W.fnOf "law" "law" (defArgs sLaw) (defBody sLaw) (defScope sLaw) .none kV_law dc_law pm_law an_law cd_law ct_law, fun s v => .of_eq rfl, fun base _ _ => ?_⟩
  have E_NoRoad : Err l.prog w K mg base "NoRoad" C_NoRoad ["self", "a", "b"] (spX2 C_NoRoad "a" "b") := ⟨oex_C_NoRoad, m_C_NoRoad, _, _, a_NoRoad_init, tf_C_NoRoad, ok_E_NoRoad F_NoRoad_init NE oex_C_NoRoad no_C_NoRoad_a no_C_NoRoad_b, b_NoRoad_init⟩
  have E_Same : Err l.prog w K mg base "Same" C_Same ["self"] (spX0 C_Same) := ⟨oex_C_Same, m_C_Same, _, _, a_Same_init, tf_C_Same, ok_E_Same F_Same_init NE oex_C_Same, b_Same_init⟩
  have TR : TRoads K C_Roads := ⟨cl_C_Roads, n_C_Roads_many, n_C_Roads_lines, n_C_Roads_fallen⟩
  have TF : TFars K C_Fars := ⟨cl_C_Fars, n_C_Fars_lanes, n_C_Fars_grid⟩
  have TFx : TFr K C_Frame := ⟨cl_C_Frame, n_C_Frame_number, n_C_Frame_letter, n_C_Frame_first, n_C_Frame_signs, n_C_Frame_hops, n_C_Frame_start, n_C_Frame_end, n_C_Frame_left⟩
  have T : TG K ⟨C_Ground, C_Roads, C_Fars, C_Frame, C_Heap⟩ := ⟨cl_C_Ground, n_C_Ground_lanes, n_C_Ground_known, n_C_Ground_clock, n_C_Ground_running, n_C_Ground_moving, n_C_Ground_piles, n_C_Ground_made_letters, n_C_Ground_made_frames, n_C_Ground_lost, TR, TF, TFx⟩
  have Tw : TWd K ⟨C_Ground, C_Roads, C_Fars, C_Frame, C_Heap⟩ ⟨C_World, C_Wraps⟩ := ⟨cl_C_World, n_C_World_net, n_C_World_stood, n_C_World_telling, n_C_World_batch_rows, cl_C_Wraps, n_C_Wraps_below, n_C_Wraps_kept_rooms, n_C_Wraps_kept_gates, n_C_Wraps_made_rooms, n_C_Wraps_made_gates, n_C_Wraps_log_rows, n_C_Wraps_borne, n_C_Wraps_told_drops⟩
  have B : RB mg := ⟨n_isinstance, n_tuple, n_len, n_all, n_enumerate, n_sorted⟩
  have FBx : FB mg := ⟨n_range, n_zip, n_len, n_min, n_tuple⟩
  have Bg : GB mg := ⟨n_tuple, n_len, n_list, n_dict, n_sorted, n_set, n_isinstance, n_str, n_enumerate⟩
  have Kb : KB2 mg := ⟨n_isinstance, n_repr, n_int, n_bool, n_range, n_len, n_tuple, n_sorted⟩
  have Cn : RC mg := ⟨⟨_, m_HOUSES⟩, ⟨_, m_ROADS⟩, ⟨_, m_DELAY⟩, ⟨_, m_NARROW⟩, ⟨_, m_WIDE⟩⟩
  have hFAR : ∃ t, mg "FAR" = some (.int 24 t) := ⟨_, m_FAR⟩
  have Td : TDn K mg ⟨C_Ground, C_Roads, C_Fars, C_Frame, C_Heap⟩ ⟨C_World, C_Wraps⟩ C_NetError C_NoRoad C_Same C_BadGround := ⟨fun i => match i with | 0 => cl_C_Roads | 1 => cl_C_Ground | 2 => cl_C_World, kit_ess, kit_ens, kit_enn, kit_kse, kit_kne, kit_so, kit_no, ec_C_Same, ec_C_NoRoad, xf_C_NoRoad, no_C_NoRoad_a, no_C_NoRoad_b, m_C_NetError, m_C_NoRoad, m_C_Same, m_C_BadGround⟩
  have cW : Cd l.prog w K mg base 1 "is_whole" ["thing"] (spWholeT K) := ⟨_, _, ok_whole F_is_whole ⟨n_isinstance, n_int, n_bool⟩, m_is_whole, k_is_whole, b_is_whole⟩
  have cF : Cd l.prog w K mg base 2 "is_from" ["thing", "low", "high"] (spFromT K) := ⟨_, _, ok_from F_is_from cW, m_is_from, k_is_from, b_is_from⟩
  have cIr : Cd l.prog w K mg base 3 "is_road" ["houses", "thing"] (spIsRoad K) := ⟨_, _, ok_isroad F_is_road B Cn cW cF, m_is_road, k_is_road, b_is_road⟩
  have cBr : Cd l.prog w K mg base 4 "bad_rows" ["houses", "roads"] (spBadRows K) := ⟨_, _, ok_badrows F_bad_rows B cIr, m_bad_rows, k_bad_rows, b_bad_rows⟩
  have cI : Nw l.prog w K mg base 5 C_Roads "Roads" ["self", "houses", "roads"] (spRoadsInit K C_Roads) := ⟨_, _, ok_roadsinit F_Roads_init B Cn TR cF cBr, ⟨mk_C_Roads, a_Roads_init, i_Roads_init, kc_C_Roads⟩, m_C_Roads, b_Roads_init⟩
  have cUp : Md l.prog w K mg base 1 C_Roads "up" ["self"] (spUp K C_Roads) := ⟨_, _, ok_roadsup F_Roads_up B TR, M_Roads_up, b_Roads_up⟩
  have cNb : Md l.prog w K mg base 1 C_Roads "neighbours" ["self", "house"] (spNbr K C_Roads) := ⟨_, _, ok_roadsnbr F_Roads_neighbours B TR, M_Roads_neighbours, b_Roads_neighbours⟩
  have cPo : MdX l.prog w K mg base 3 C_Roads "pair_of" ["self", "a", "b"] (spPair K C_Roads C_NoRoad) := ⟨_, _, ok_roadspair F_Roads_pair_of TR cW E_NoRoad, M_Roads_pair_of, b_Roads_pair_of⟩
  have cRfl : MdX l.prog w K mg base 4 C_Roads "fall" ["self", "a", "b"] (spFall K C_Roads C_NoRoad C_Same) := ⟨_, _, ok_roadsfall F_Roads_fall TR cPo E_Same, M_Roads_fall, b_Roads_fall⟩
  have cRri : MdX l.prog w K mg base 4 C_Roads "rise" ["self", "a", "b"] (spRise K C_Roads C_NoRoad C_Same) := ⟨_, _, ok_roadsrise F_Roads_rise TR cPo E_Same, M_Roads_rise, b_Roads_rise⟩
  have cNr : Cd l.prog w K mg base 1 "near_rows" ["houses", "roads", "up"] (spNear K) := ⟨_, _, ok_near F_near_rows FBx, m_near_rows, k_near_rows, b_near_rows⟩
  have cTr : Cd l.prog w K mg base 1 "turned_row" ["near", "fars", "house"] (spTRow K) := ⟨_, _, ok_trow F_turned_row FBx hFAR, m_turned_row, k_turned_row, b_turned_row⟩
  have cTa : Cd l.prog w K mg base 2 "turned_all" ["near", "fars"] (spTAll K) := ⟨_, _, ok_tall F_turned_all FBx cTr, m_turned_all, k_turned_all, b_turned_all⟩
  have cFp : Cd l.prog w K mg base 3 "far_paper" ["houses", "roads", "up"] (spFarPaper K) := ⟨_, _, ok_farpaper F_far_paper FBx hFAR cNr cTa, m_far_paper, k_far_paper, b_far_paper⟩
  have cJ : Nw l.prog w K mg base 4 C_Fars "Fars" ["self", "roads"] (spFarsInit K C_Fars C_Roads) := ⟨_, _, ok_farsinit F_Fars_init TF TR cUp cFp, ⟨mk_C_Fars, a_Fars_init, i_Fars_init, kc_C_Fars⟩, m_C_Fars, b_Fars_init⟩
  have cRo : Md l.prog w K mg base 1 C_Fars "rows" ["self"] (spRowsF K C_Fars) := ⟨_, _, ok_farsrows F_Fars_rows TF, M_Fars_rows, b_Fars_rows⟩
  have gTo : Md l.prog w K mg base 2 C_Ground "told" ["self"] (spGTold K ⟨C_Ground, C_Roads, C_Fars, C_Frame, C_Heap⟩) := ⟨_, _, ok_gtold F_Ground_told T cUp cRo, M_Ground_told, b_Ground_told⟩
  have gDr : Md l.prog w K mg base 1 C_Ground "drops" ["self"] (spGDrops K ⟨C_Ground, C_Roads, C_Fars, C_Frame, C_Heap⟩) := ⟨_, _, ok_gdrops F_Ground_drops T Bg, M_Ground_drops, b_Ground_drops⟩
  have gFo : Md l.prog w K mg base 1 C_Ground "forget" ["self"] (spGForget K ⟨C_Ground, C_Roads, C_Fars, C_Frame, C_Heap⟩) := ⟨_, _, ok_gforget F_Ground_forget T Bg, M_Ground_forget, b_Ground_forget⟩
  have gFl : MdX l.prog w K mg base 5 C_Ground "fall" ["self", "a", "b"] (spFallGX K ⟨C_Ground, C_Roads, C_Fars, C_Frame, C_Heap⟩ C_NoRoad C_Same) := ⟨_, _, ok_fallGX F_Ground_fall T Bg cRfl gFo, M_Ground_fall, b_Ground_fall⟩
  have gRi : MdX l.prog w K mg base 5 C_Ground "rise" ["self", "a", "b"] (spRiseGX K ⟨C_Ground, C_Roads, C_Fars, C_Frame, C_Heap⟩ C_NoRoad C_Same) := ⟨_, _, ok_riseGX F_Ground_rise T cRri, M_Ground_rise, b_Ground_rise⟩
  have gI : Nw l.prog w K mg base 7 C_Ground "Ground" ["self", "houses", "roads"] (spGInit K ⟨C_Ground, C_Roads, C_Fars, C_Frame, C_Heap⟩) := ⟨_, _, ok_ginit F_Ground_init T cI cJ, ⟨mk_C_Ground, a_Ground_init, i_Ground_init, kc_C_Ground⟩, m_C_Ground, b_Ground_init⟩
  have nI : Nw l.prog w K mg base 9 C_Wraps "Wraps" ["self", "houses", "roads"] (spNInit K ⟨C_Ground, C_Roads, C_Fars, C_Frame, C_Heap⟩ ⟨C_World, C_Wraps⟩) := ⟨_, _, ok_ninit F_Wraps_init Tw gI, ⟨mk_C_Wraps, a_Wraps_init, i_Wraps_init, kc_C_Wraps⟩, m_C_Wraps, b_Wraps_init⟩
  have wI : Nw l.prog w K mg base 11 C_World "World" ["self", "houses", "roads"] (spWInit K ⟨C_Ground, C_Roads, C_Fars, C_Frame, C_Heap⟩ ⟨C_World, C_Wraps⟩) := ⟨_, _, ok_winit F_World_init Tw nI, ⟨mk_C_World, a_World_init, i_World_init, kc_C_World⟩, m_C_World, b_World_init⟩
  have wG : Md l.prog w K mg base 3 C_World "ground" ["self"] (spWGround K ⟨C_Ground, C_Roads, C_Fars, C_Frame, C_Heap⟩ ⟨C_World, C_Wraps⟩) := ⟨_, _, ok_wground F_World_ground Tw T gTo, M_World_ground, b_World_ground⟩
  have wO : Md l.prog w K mg base 1 C_World "look_open" ["self"] (spWOpen K ⟨C_Ground, C_Roads, C_Fars, C_Frame, C_Heap⟩ ⟨C_World, C_Wraps⟩) := ⟨_, _, ok_wopen F_World_look_open Tw ⟨_, m_DEEDS_bounds⟩, M_World_look_open, b_World_look_open⟩
  have wD : Md l.prog w K mg base 1 C_World "done" ["self", "found"] (spWDone K ⟨C_Ground, C_Roads, C_Fars, C_Frame, C_Heap⟩ ⟨C_World, C_Wraps⟩) := ⟨_, _, ok_wdone F_World_done Tw, M_World_done, b_World_done⟩
  have nT : Md l.prog w K mg base 2 C_Wraps "tell_drops" ["self"] (spNTell K ⟨C_Ground, C_Roads, C_Fars, C_Frame, C_Heap⟩ ⟨C_World, C_Wraps⟩) := ⟨_, _, ok_ntell F_Wraps_tell_drops Tw T Bg gDr, M_Wraps_tell_drops, b_Wraps_tell_drops⟩
  have wF : MdX l.prog w K mg base 6 C_World "fall" ["self", "a", "b"] (spWFallX K ⟨C_Ground, C_Roads, C_Fars, C_Frame, C_Heap⟩ ⟨C_World, C_Wraps⟩ C_NoRoad C_Same) := ⟨_, _, ok_wfallX F_World_fall Tw T wO wD nT gFl, M_World_fall, b_World_fall⟩
  have wR : MdX l.prog w K mg base 6 C_World "rise" ["self", "a", "b"] (spWRiseX K ⟨C_Ground, C_Roads, C_Fars, C_Frame, C_Heap⟩ ⟨C_World, C_Wraps⟩ C_NoRoad C_Same) := ⟨_, _, ok_wriseX F_World_rise Tw T wO wD gRi, M_World_rise, b_World_rise⟩
  have iF : MdI l.prog w K mg base 6 (C3 ⟨C_Ground, C_Roads, C_Fars, C_Frame, C_Heap⟩ ⟨C_World, C_Wraps⟩) "fall" ["self", "a", "b"] (fall3 K ⟨C_Ground, C_Roads, C_Fars, C_Frame, C_Heap⟩ ⟨C_World, C_Wraps⟩ C_NoRoad C_Same) := MdI.of (sp := fall3 K ⟨C_Ground, C_Roads, C_Fars, C_Frame, C_Heap⟩ ⟨C_World, C_Wraps⟩ C_NoRoad C_Same) cRfl gFl wF (by decide) (by decide) (by decide)
  have iR : MdI l.prog w K mg base 6 (C3 ⟨C_Ground, C_Roads, C_Fars, C_Frame, C_Heap⟩ ⟨C_World, C_Wraps⟩) "rise" ["self", "a", "b"] (rise3 K ⟨C_Ground, C_Roads, C_Fars, C_Frame, C_Heap⟩ ⟨C_World, C_Wraps⟩ C_NoRoad C_Same) := MdI.of (sp := rise3 K ⟨C_Ground, C_Roads, C_Fars, C_Frame, C_Heap⟩ ⟨C_World, C_Wraps⟩ C_NoRoad C_Same) cRri gRi wR (by decide) (by decide) (by decide)
  have cR : Cd l.prog w K mg base 1 "_law_draw" ["_law_deck_here", "_law_many"] spDraw := ⟨_, _, ok_draw F_law_draw n_len, m_law_draw, k_law_draw, b_law_draw⟩
  have cD : Cd l.prog w K mg base 1 "_law_deck" ["_law_script"] (spDeck3 K) := ⟨_, _, ok_deck3 F_law_deck n_abs, m_law_deck, k_law_deck, b_law_deck⟩
  have cL : Cd l.prog w K mg base 2 "_law_roads" ["_law_deck_here", "_law_houses"] (spLRoads K) := ⟨_, _, ok_lroads F_law_roads ⟨n_range, n_len, n_tuple⟩ cR, m_law_roads, k_law_roads, b_law_roads⟩
  have cP : Cd l.prog w K mg base 2 "_law_pair" ["_law_deck_here", "_law_houses", "_law_roads_here"] (spLPair K) := ⟨_, _, ok_lpair F_law_pair Kb cR, m_law_pair, k_law_pair, b_law_pair⟩
  have cO : Cd l.prog w K mg base 1 "_law_row_of" ["_law_roads_here", "_law_pair_here"] (spLRow K) := ⟨_, _, ok_lrow F_law_row_of Kb, m_law_row_of, k_law_row_of, b_law_row_of⟩
  have cA : Cd l.prog w K mg base 1 "_law_near" ["_law_roads_here", "_law_up", "_law_house"] (spLNear K) := ⟨_, _, ok_lnear F_law_near Kb, m_law_near, k_law_near, b_law_near⟩
  have cN : CdG l.prog w K mg base 7 "_law_done" ["_law_net", "_law_falls", "_law_a", "_law_b"] (spLDone K ⟨C_Ground, C_Roads, C_Fars, C_Frame, C_Heap⟩ ⟨C_World, C_Wraps⟩) := ⟨_, _, ok_ldone F_law_done Td Kb iF iR, m_law_done, k_law_done, b_law_done⟩
  exact ok_law F_law T Tw Kb cR cD cL cP cO cA cN cI gI wI cUp gTo wG cNb

theorem glo_ns {K : PySem.W.Frag} {x : Str} (c : (He.Fa.glo x).ok K = true) : PySem.W.nsIn K mainGlobals x = some (some (.ref (He.ga K x))) := He.eqO_ok c
theorem free_ns {K : PySem.W.Frag} {x : Str} (c : (He.Fa.free x).ok K = true) : PySem.W.nsIn K mainGlobals x = some none := He.eqO_ok c
theorem int_ns {K : PySem.W.Frag} {x : Str} {i : Int} (c : (He.Fa.int x i).ok K = true) : ∃ t, PySem.W.nsIn K mainGlobals x = some (some (.int i t)) := by
  have c2 : (match PySem.W.nsIn K mainGlobals x with
    | some (some (.int j _)) => decide (j = i)
    | _ => false) = true := c
  cases e : PySem.W.nsIn K mainGlobals x with
  | none => rw [e] at c2; cases c2
  | some o =>
    rw [e] at c2
    cases o with
    | none => cases c2
    | some v =>
      cases v with
      | int j t =>
        have ej : j = i := of_decide_eq_true c2
        exact ⟨t, by rw [ej]⟩
      | _ => cases c2
theorem str_ns {K : PySem.W.Frag} {x z : Str} (c : (He.Fa.str x z).ok K = true) : ∃ t, PySem.W.nsIn K mainGlobals x = some (some (.str z t)) := by
  have c2 : (match PySem.W.nsIn K mainGlobals x with
    | some (some (.str y _)) => decide (y = z)
    | _ => false) = true := c
  cases e : PySem.W.nsIn K mainGlobals x with
  | none => rw [e] at c2; cases c2
  | some o =>
    rw [e] at c2
    cases o with
    | none => cases c2
    | some v =>
      cases v with
      | str j t =>
        have ej : j = z := of_decide_eq_true c2
        exact ⟨t, by rw [ej]⟩
      | _ => cases c2
theorem facts3 {l : PySem.W.OpenLaw} {w : World} {K : PySem.W.Frag} {h : Heap} {mg : Str → Option Value} {fa : Addr} (X : K.In h) (G : h.Ns mainGlobals mg) (hfa : mg "law" = some (.ref fa)) (c : He.SaysE fa3 fn3 K) (cx : (xb3.all fun b => b K) = true) :
    ∃ fd : FuncData, (∀ (s : Shared) (v : Value), BindsTo s fd ⟨[v], []⟩ [("_law_script", v)]) ∧ ∀ base : Heap, K.In base → base.Ns mainGlobals mg → LawOk l.prog w K mg base fa fd ["_law_script"] (spLaw K) := by
  obtain ⟨t_HOUSES, a_HOUSES⟩ := int_ns (c.fact 0 (f := .int "HOUSES" 8) rfl)
  obtain ⟨t_ROADS, a_ROADS⟩ := int_ns (c.fact 1 (f := .int "ROADS" 14) rfl)
  obtain ⟨t_DELAY, a_DELAY⟩ := int_ns (c.fact 2 (f := .int "DELAY" 2) rfl)
  obtain ⟨t_NARROW, a_NARROW⟩ := int_ns (c.fact 3 (f := .int "NARROW" 16) rfl)
  obtain ⟨t_WIDE, a_WIDE⟩ := int_ns (c.fact 4 (f := .int "WIDE" 80) rfl)
  obtain ⟨t_FAR, a_FAR⟩ := int_ns (c.fact 5 (f := .int "FAR" 24) rfl)
  obtain ⟨t_DEEDS_bounds, a_DEEDS_bounds⟩ := int_ns (c.fact 6 (f := .int "DEEDS_bounds" 300) rfl)
  have a_C_NetError := glo_ns (c.fact 7 (f := .glo "NetError") rfl)
  obtain ⟨sp_C_NetError, rd_C_NetError, v_C_NetError, ex_C_NetError, hd_C_NetError, ty_C_NetError⟩ := bNE_ok (xb_at cx 0 (b := bNE "NetError") rfl)
  have cg_all := He.eqO_ok (xb_at cx 1 (b := bCg) rfl)
  have tk_all := of_decide_eq_true (xb_at cx 2 (b := bTk) rfl)
  have a_C_BadGround := glo_ns (c.fact 8 (f := .glo "BadGround") rfl)
  have a_C_NoRoad := glo_ns (c.fact 9 (f := .glo "NoRoad") rfl)
  have ex_C_NoRoad := of_decide_eq_true (xb_at cx 3 (b := bSub "NoRoad") rfl)
  have ty_C_NoRoad := of_decide_eq_true (xb_at cx 4 (b := bTyp "NoRoad") rfl)
  have no_C_NoRoad_a := He.noat_ok (c.fact 10 (f := .noat "NoRoad" "a") rfl)
  have no_C_NoRoad_b := He.noat_ok (c.fact 11 (f := .noat "NoRoad" "b") rfl)
  obtain ⟨_, _, _, _, _, _, _, _, _, _, _, _, _, _, xL_C_NoRoad⟩ := bXL_ok (xb_at cx 5 (b := bXL "NoRoad" "NetError") rfl)
  have sa_C_NoRoad := He.eqO_ok (xb_at cx 6 (b := bFnd "NoRoad" "__setattr__" (some (.builtin "object.__setattr__"))) rfl)
  have kc_C_NoRoad := (xb_at cx 7 (b := bKeep "NoRoad") rfl)
  obtain ⟨a_NoRoad_init, i_NoRoad_init, k_NoRoad_init⟩ := He.meth_ok (c.fact 12 (f := .meth "NoRoad" "__init__") rfl)
  obtain ⟨oc_NoRoad_init, od_NoRoad_init, sl_NoRoad_init, kV_NoRoad_init, dc_NoRoad_init, pm_NoRoad_init, an_NoRoad_init, cd_NoRoad_init, ct_NoRoad_init, l_NoRoad_init, c_NoRoad_init⟩ := c.def_ 0 (d := d3_NoRoad_init) rfl
  have tf_C_NoRoad := of_decide_eq_true (xb_at cx 8 (b := bTf "NoRoad") rfl)
  have ga_C_NoRoad := He.eqO_ok (xb_at cx 9 (b := bFnd "NoRoad" "__getattribute__" (some (.builtin "BaseException.__getattribute__"))) rfl)
  have gg_C_NoRoad := He.eqO_ok (xb_at cx 10 (b := bFnd "NoRoad" "__getattr__" none) rfl)
  have hd_C_NoRoad := (xb_at cx 11 (b := bHd "NoRoad") rfl)
  have hc_C_NoRoad := He.eqO_ok (xb_at cx 12 (b := bFnd "NoRoad" "__class__" (some (.builtin "object.__class__"))) rfl)
  have mo_C_NoRoad := of_decide_eq_true (xb_at cx 13 (b := bMo "NoRoad") rfl)
  have sn_C_NoRoad_b := of_decide_eq_true (xb_at cx 14 (b := bSn "NoRoad" "NetError") rfl)
  have a_C_Same := glo_ns (c.fact 13 (f := .glo "Same") rfl)
  have ex_C_Same := of_decide_eq_true (xb_at cx 15 (b := bSub "Same") rfl)
  have ty_C_Same := of_decide_eq_true (xb_at cx 16 (b := bTyp "Same") rfl)
  obtain ⟨_, _, _, _, _, _, _, _, _, _, _, _, _, _, xL_C_Same⟩ := bXL_ok (xb_at cx 17 (b := bXL "Same" "NetError") rfl)
  have sa_C_Same := He.eqO_ok (xb_at cx 18 (b := bFnd "Same" "__setattr__" (some (.builtin "object.__setattr__"))) rfl)
  have kc_C_Same := (xb_at cx 19 (b := bKeep "Same") rfl)
  obtain ⟨a_Same_init, i_Same_init, k_Same_init⟩ := He.meth_ok (c.fact 14 (f := .meth "Same" "__init__") rfl)
  obtain ⟨oc_Same_init, od_Same_init, sl_Same_init, kV_Same_init, dc_Same_init, pm_Same_init, an_Same_init, cd_Same_init, ct_Same_init, l_Same_init, c_Same_init⟩ := c.def_ 1 (d := d3_Same_init) rfl
  have tf_C_Same := of_decide_eq_true (xb_at cx 20 (b := bTf "Same") rfl)
  have ga_C_Same := He.eqO_ok (xb_at cx 21 (b := bFnd "Same" "__getattribute__" (some (.builtin "BaseException.__getattribute__"))) rfl)
  have gg_C_Same := He.eqO_ok (xb_at cx 22 (b := bFnd "Same" "__getattr__" none) rfl)
  have hd_C_Same := (xb_at cx 23 (b := bHd "Same") rfl)
  have hc_C_Same := He.eqO_ok (xb_at cx 24 (b := bFnd "Same" "__class__" (some (.builtin "object.__class__"))) rfl)
  have mo_C_Same := of_decide_eq_true (xb_at cx 25 (b := bMo "Same") rfl)
  have sn_C_Same_b := of_decide_eq_true (xb_at cx 26 (b := bSn "Same" "NetError") rfl)
  have kit_ess := of_decide_eq_true (xb_at cx 27 (b := (fun K : PySem.W.Frag => decide (PySem.W.exmOne K (.ref (He.ga K "Same")) (.ref (He.ga K "Same")) = some true))) rfl)
  have kit_ens := of_decide_eq_true (xb_at cx 28 (b := (fun K : PySem.W.Frag => decide (PySem.W.exmOne K (.ref (He.ga K "NoRoad")) (.ref (He.ga K "Same")) = some false))) rfl)
  have kit_enn := of_decide_eq_true (xb_at cx 29 (b := (fun K : PySem.W.Frag => decide (PySem.W.exmOne K (.ref (He.ga K "NoRoad")) (.ref (He.ga K "NoRoad")) = some true))) rfl)
  have kit_kse := of_decide_eq_true (xb_at cx 30 (b := (fun K : PySem.W.Frag => decide (PySem.W.kitOne K (.ref (He.ga K "Same")) (.ref (He.ga K "NetError")) = some true))) rfl)
  have kit_kne := of_decide_eq_true (xb_at cx 31 (b := (fun K : PySem.W.Frag => decide (PySem.W.kitOne K (.ref (He.ga K "NoRoad")) (.ref (He.ga K "NetError")) = some true))) rfl)
  have kit_so := of_decide_eq_true (xb_at cx 32 (b := (fun K : PySem.W.Frag => decide (PySem.W.kitAny K (.ref (He.ga K "Same")) [.ref (He.ga K "NoRoad"), .ref (He.ga K "BadGround")] = some false))) rfl)
  have kit_no := of_decide_eq_true (xb_at cx 33 (b := (fun K : PySem.W.Frag => decide (PySem.W.kitAny K (.ref (He.ga K "NoRoad")) [.ref (He.ga K "Same"), .ref (He.ga K "BadGround")] = some false))) rfl)
  have a_C_Roads := glo_ns (c.fact 15 (f := .glo "Roads") rfl)
  obtain ⟨pg_C_Roads, hd_C_Roads, po_C_Roads, sa_C_Roads⟩ := He.cls_ok (c.fact 16 (f := .cls "Roads") rfl)
  obtain ⟨mk_C_Roads, _, _, kc_C_Roads⟩ := He.mkr_ok (c.fact 17 (f := .mkr "Roads") rfl)
  have n_C_Roads_many := He.noat_ok (c.fact 18 (f := .noat "Roads" "many") rfl)
  have n_C_Roads_lines := He.noat_ok (c.fact 19 (f := .noat "Roads" "lines") rfl)
  have n_C_Roads_fallen := He.noat_ok (c.fact 20 (f := .noat "Roads" "fallen") rfl)
  obtain ⟨a_Roads_init, i_Roads_init, k_Roads_init⟩ := He.meth_ok (c.fact 21 (f := .meth "Roads" "__init__") rfl)
  obtain ⟨oc_Roads_init, od_Roads_init, sl_Roads_init, kV_Roads_init, dc_Roads_init, pm_Roads_init, an_Roads_init, cd_Roads_init, ct_Roads_init, l_Roads_init, c_Roads_init⟩ := c.def_ 2 (d := d3_Roads_init) rfl
  obtain ⟨a_Roads_up, i_Roads_up, k_Roads_up⟩ := He.meth_ok (c.fact 22 (f := .meth "Roads" "up") rfl)
  obtain ⟨oc_Roads_up, od_Roads_up, sl_Roads_up, kV_Roads_up, dc_Roads_up, pm_Roads_up, an_Roads_up, cd_Roads_up, ct_Roads_up, l_Roads_up, c_Roads_up⟩ := c.def_ 3 (d := d3_Roads_up) rfl
  obtain ⟨a_Roads_pair_of, i_Roads_pair_of, k_Roads_pair_of⟩ := He.meth_ok (c.fact 23 (f := .meth "Roads" "pair_of") rfl)
  obtain ⟨oc_Roads_pair_of, od_Roads_pair_of, sl_Roads_pair_of, kV_Roads_pair_of, dc_Roads_pair_of, pm_Roads_pair_of, an_Roads_pair_of, cd_Roads_pair_of, ct_Roads_pair_of, l_Roads_pair_of, c_Roads_pair_of⟩ := c.def_ 4 (d := d3_Roads_pair_of) rfl
  obtain ⟨a_Roads_fall, i_Roads_fall, k_Roads_fall⟩ := He.meth_ok (c.fact 24 (f := .meth "Roads" "fall") rfl)
  obtain ⟨oc_Roads_fall, od_Roads_fall, sl_Roads_fall, kV_Roads_fall, dc_Roads_fall, pm_Roads_fall, an_Roads_fall, cd_Roads_fall, ct_Roads_fall, l_Roads_fall, c_Roads_fall⟩ := c.def_ 5 (d := d3_Roads_fall) rfl
  obtain ⟨a_Roads_rise, i_Roads_rise, k_Roads_rise⟩ := He.meth_ok (c.fact 25 (f := .meth "Roads" "rise") rfl)
  obtain ⟨oc_Roads_rise, od_Roads_rise, sl_Roads_rise, kV_Roads_rise, dc_Roads_rise, pm_Roads_rise, an_Roads_rise, cd_Roads_rise, ct_Roads_rise, l_Roads_rise, c_Roads_rise⟩ := c.def_ 6 (d := d3_Roads_rise) rfl
  obtain ⟨a_Roads_neighbours, i_Roads_neighbours, k_Roads_neighbours⟩ := He.meth_ok (c.fact 26 (f := .meth "Roads" "neighbours") rfl)
  obtain ⟨oc_Roads_neighbours, od_Roads_neighbours, sl_Roads_neighbours, kV_Roads_neighbours, dc_Roads_neighbours, pm_Roads_neighbours, an_Roads_neighbours, cd_Roads_neighbours, ct_Roads_neighbours, l_Roads_neighbours, c_Roads_neighbours⟩ := c.def_ 7 (d := d3_Roads_neighbours) rfl
  have a_C_Fars := glo_ns (c.fact 27 (f := .glo "Fars") rfl)
  obtain ⟨pg_C_Fars, hd_C_Fars, po_C_Fars, sa_C_Fars⟩ := He.cls_ok (c.fact 28 (f := .cls "Fars") rfl)
  obtain ⟨mk_C_Fars, _, _, kc_C_Fars⟩ := He.mkr_ok (c.fact 29 (f := .mkr "Fars") rfl)
  have n_C_Fars_lanes := He.noat_ok (c.fact 30 (f := .noat "Fars" "lanes") rfl)
  have n_C_Fars_grid := He.noat_ok (c.fact 31 (f := .noat "Fars" "grid") rfl)
  obtain ⟨a_Fars_init, i_Fars_init, k_Fars_init⟩ := He.meth_ok (c.fact 32 (f := .meth "Fars" "__init__") rfl)
  obtain ⟨oc_Fars_init, od_Fars_init, sl_Fars_init, kV_Fars_init, dc_Fars_init, pm_Fars_init, an_Fars_init, cd_Fars_init, ct_Fars_init, l_Fars_init, c_Fars_init⟩ := c.def_ 8 (d := d3_Fars_init) rfl
  obtain ⟨a_Fars_rows, i_Fars_rows, k_Fars_rows⟩ := He.meth_ok (c.fact 33 (f := .meth "Fars" "rows") rfl)
  obtain ⟨oc_Fars_rows, od_Fars_rows, sl_Fars_rows, kV_Fars_rows, dc_Fars_rows, pm_Fars_rows, an_Fars_rows, cd_Fars_rows, ct_Fars_rows, l_Fars_rows, c_Fars_rows⟩ := c.def_ 9 (d := d3_Fars_rows) rfl
  have a_C_Frame := glo_ns (c.fact 34 (f := .glo "Frame") rfl)
  obtain ⟨pg_C_Frame, hd_C_Frame, po_C_Frame, sa_C_Frame⟩ := He.cls_ok (c.fact 35 (f := .cls "Frame") rfl)
  obtain ⟨mk_C_Frame, _, _, kc_C_Frame⟩ := He.mkr_ok (c.fact 36 (f := .mkr "Frame") rfl)
  have n_C_Frame_number := He.noat_ok (c.fact 37 (f := .noat "Frame" "number") rfl)
  have n_C_Frame_letter := He.noat_ok (c.fact 38 (f := .noat "Frame" "letter") rfl)
  have n_C_Frame_first := He.noat_ok (c.fact 39 (f := .noat "Frame" "first") rfl)
  have n_C_Frame_signs := He.noat_ok (c.fact 40 (f := .noat "Frame" "signs") rfl)
  have n_C_Frame_hops := He.noat_ok (c.fact 41 (f := .noat "Frame" "hops") rfl)
  have n_C_Frame_start := He.noat_ok (c.fact 42 (f := .noat "Frame" "start") rfl)
  have n_C_Frame_end := He.noat_ok (c.fact 43 (f := .noat "Frame" "end") rfl)
  have n_C_Frame_left := He.noat_ok (c.fact 44 (f := .noat "Frame" "left") rfl)
  have a_C_Heap := glo_ns (c.fact 45 (f := .glo "Heap") rfl)
  obtain ⟨pg_C_Heap, hd_C_Heap, po_C_Heap, sa_C_Heap⟩ := He.cls_ok (c.fact 46 (f := .cls "Heap") rfl)
  obtain ⟨mk_C_Heap, _, _, kc_C_Heap⟩ := He.mkr_ok (c.fact 47 (f := .mkr "Heap") rfl)
  have a_C_Ground := glo_ns (c.fact 48 (f := .glo "Ground") rfl)
  obtain ⟨pg_C_Ground, hd_C_Ground, po_C_Ground, sa_C_Ground⟩ := He.cls_ok (c.fact 49 (f := .cls "Ground") rfl)
  obtain ⟨mk_C_Ground, _, _, kc_C_Ground⟩ := He.mkr_ok (c.fact 50 (f := .mkr "Ground") rfl)
  have n_C_Ground_lanes := He.noat_ok (c.fact 51 (f := .noat "Ground" "lanes") rfl)
  have n_C_Ground_known := He.noat_ok (c.fact 52 (f := .noat "Ground" "known") rfl)
  have n_C_Ground_clock := He.noat_ok (c.fact 53 (f := .noat "Ground" "clock") rfl)
  have n_C_Ground_running := He.noat_ok (c.fact 54 (f := .noat "Ground" "running") rfl)
  have n_C_Ground_moving := He.noat_ok (c.fact 55 (f := .noat "Ground" "moving") rfl)
  have n_C_Ground_piles := He.noat_ok (c.fact 56 (f := .noat "Ground" "piles") rfl)
  have n_C_Ground_made_letters := He.noat_ok (c.fact 57 (f := .noat "Ground" "made_letters") rfl)
  have n_C_Ground_made_frames := He.noat_ok (c.fact 58 (f := .noat "Ground" "made_frames") rfl)
  have n_C_Ground_lost := He.noat_ok (c.fact 59 (f := .noat "Ground" "lost") rfl)
  obtain ⟨a_Ground_init, i_Ground_init, k_Ground_init⟩ := He.meth_ok (c.fact 60 (f := .meth "Ground" "__init__") rfl)
  obtain ⟨oc_Ground_init, od_Ground_init, sl_Ground_init, kV_Ground_init, dc_Ground_init, pm_Ground_init, an_Ground_init, cd_Ground_init, ct_Ground_init, l_Ground_init, c_Ground_init⟩ := c.def_ 10 (d := d3_Ground_init) rfl
  obtain ⟨a_Ground_told, i_Ground_told, k_Ground_told⟩ := He.meth_ok (c.fact 61 (f := .meth "Ground" "told") rfl)
  obtain ⟨oc_Ground_told, od_Ground_told, sl_Ground_told, kV_Ground_told, dc_Ground_told, pm_Ground_told, an_Ground_told, cd_Ground_told, ct_Ground_told, l_Ground_told, c_Ground_told⟩ := c.def_ 11 (d := d3_Ground_told) rfl
  obtain ⟨a_Ground_drops, i_Ground_drops, k_Ground_drops⟩ := He.meth_ok (c.fact 62 (f := .meth "Ground" "drops") rfl)
  obtain ⟨oc_Ground_drops, od_Ground_drops, sl_Ground_drops, kV_Ground_drops, dc_Ground_drops, pm_Ground_drops, an_Ground_drops, cd_Ground_drops, ct_Ground_drops, l_Ground_drops, c_Ground_drops⟩ := c.def_ 12 (d := d3_Ground_drops) rfl
  obtain ⟨a_Ground_forget, i_Ground_forget, k_Ground_forget⟩ := He.meth_ok (c.fact 63 (f := .meth "Ground" "forget") rfl)
  obtain ⟨oc_Ground_forget, od_Ground_forget, sl_Ground_forget, kV_Ground_forget, dc_Ground_forget, pm_Ground_forget, an_Ground_forget, cd_Ground_forget, ct_Ground_forget, l_Ground_forget, c_Ground_forget⟩ := c.def_ 13 (d := d3_Ground_forget) rfl
  obtain ⟨a_Ground_fall, i_Ground_fall, k_Ground_fall⟩ := He.meth_ok (c.fact 64 (f := .meth "Ground" "fall") rfl)
  obtain ⟨oc_Ground_fall, od_Ground_fall, sl_Ground_fall, kV_Ground_fall, dc_Ground_fall, pm_Ground_fall, an_Ground_fall, cd_Ground_fall, ct_Ground_fall, l_Ground_fall, c_Ground_fall⟩ := c.def_ 14 (d := d3_Ground_fall) rfl
  obtain ⟨a_Ground_rise, i_Ground_rise, k_Ground_rise⟩ := He.meth_ok (c.fact 65 (f := .meth "Ground" "rise") rfl)
  obtain ⟨oc_Ground_rise, od_Ground_rise, sl_Ground_rise, kV_Ground_rise, dc_Ground_rise, pm_Ground_rise, an_Ground_rise, cd_Ground_rise, ct_Ground_rise, l_Ground_rise, c_Ground_rise⟩ := c.def_ 15 (d := d3_Ground_rise) rfl
  have a_C_Wraps := glo_ns (c.fact 66 (f := .glo "Wraps") rfl)
  obtain ⟨pg_C_Wraps, hd_C_Wraps, po_C_Wraps, sa_C_Wraps⟩ := He.cls_ok (c.fact 67 (f := .cls "Wraps") rfl)
  obtain ⟨mk_C_Wraps, _, _, kc_C_Wraps⟩ := He.mkr_ok (c.fact 68 (f := .mkr "Wraps") rfl)
  have n_C_Wraps_below := He.noat_ok (c.fact 69 (f := .noat "Wraps" "below") rfl)
  have n_C_Wraps_kept_rooms := He.noat_ok (c.fact 70 (f := .noat "Wraps" "kept_rooms") rfl)
  have n_C_Wraps_kept_gates := He.noat_ok (c.fact 71 (f := .noat "Wraps" "kept_gates") rfl)
  have n_C_Wraps_made_rooms := He.noat_ok (c.fact 72 (f := .noat "Wraps" "made_rooms") rfl)
  have n_C_Wraps_made_gates := He.noat_ok (c.fact 73 (f := .noat "Wraps" "made_gates") rfl)
  have n_C_Wraps_log_rows := He.noat_ok (c.fact 74 (f := .noat "Wraps" "log_rows") rfl)
  have n_C_Wraps_borne := He.noat_ok (c.fact 75 (f := .noat "Wraps" "borne") rfl)
  have n_C_Wraps_told_drops := He.noat_ok (c.fact 76 (f := .noat "Wraps" "told_drops") rfl)
  obtain ⟨a_Wraps_init, i_Wraps_init, k_Wraps_init⟩ := He.meth_ok (c.fact 77 (f := .meth "Wraps" "__init__") rfl)
  obtain ⟨oc_Wraps_init, od_Wraps_init, sl_Wraps_init, kV_Wraps_init, dc_Wraps_init, pm_Wraps_init, an_Wraps_init, cd_Wraps_init, ct_Wraps_init, l_Wraps_init, c_Wraps_init⟩ := c.def_ 16 (d := d3_Wraps_init) rfl
  obtain ⟨a_Wraps_tell_drops, i_Wraps_tell_drops, k_Wraps_tell_drops⟩ := He.meth_ok (c.fact 78 (f := .meth "Wraps" "tell_drops") rfl)
  obtain ⟨oc_Wraps_tell_drops, od_Wraps_tell_drops, sl_Wraps_tell_drops, kV_Wraps_tell_drops, dc_Wraps_tell_drops, pm_Wraps_tell_drops, an_Wraps_tell_drops, cd_Wraps_tell_drops, ct_Wraps_tell_drops, l_Wraps_tell_drops, c_Wraps_tell_drops⟩ := c.def_ 17 (d := d3_Wraps_tell_drops) rfl
  have a_C_World := glo_ns (c.fact 79 (f := .glo "World") rfl)
  obtain ⟨pg_C_World, hd_C_World, po_C_World, sa_C_World⟩ := He.cls_ok (c.fact 80 (f := .cls "World") rfl)
  obtain ⟨mk_C_World, _, _, kc_C_World⟩ := He.mkr_ok (c.fact 81 (f := .mkr "World") rfl)
  have n_C_World_net := He.noat_ok (c.fact 82 (f := .noat "World" "net") rfl)
  have n_C_World_stood := He.noat_ok (c.fact 83 (f := .noat "World" "stood") rfl)
  have n_C_World_telling := He.noat_ok (c.fact 84 (f := .noat "World" "telling") rfl)
  have n_C_World_batch_rows := He.noat_ok (c.fact 85 (f := .noat "World" "batch_rows") rfl)
  obtain ⟨a_World_init, i_World_init, k_World_init⟩ := He.meth_ok (c.fact 86 (f := .meth "World" "__init__") rfl)
  obtain ⟨oc_World_init, od_World_init, sl_World_init, kV_World_init, dc_World_init, pm_World_init, an_World_init, cd_World_init, ct_World_init, l_World_init, c_World_init⟩ := c.def_ 18 (d := d3_World_init) rfl
  obtain ⟨a_World_ground, i_World_ground, k_World_ground⟩ := He.meth_ok (c.fact 87 (f := .meth "World" "ground") rfl)
  obtain ⟨oc_World_ground, od_World_ground, sl_World_ground, kV_World_ground, dc_World_ground, pm_World_ground, an_World_ground, cd_World_ground, ct_World_ground, l_World_ground, c_World_ground⟩ := c.def_ 19 (d := d3_World_ground) rfl
  obtain ⟨a_World_look_open, i_World_look_open, k_World_look_open⟩ := He.meth_ok (c.fact 88 (f := .meth "World" "look_open") rfl)
  obtain ⟨oc_World_look_open, od_World_look_open, sl_World_look_open, kV_World_look_open, dc_World_look_open, pm_World_look_open, an_World_look_open, cd_World_look_open, ct_World_look_open, l_World_look_open, c_World_look_open⟩ := c.def_ 20 (d := d3_World_look_open) rfl
  obtain ⟨a_World_done, i_World_done, k_World_done⟩ := He.meth_ok (c.fact 89 (f := .meth "World" "done") rfl)
  obtain ⟨oc_World_done, od_World_done, sl_World_done, kV_World_done, dc_World_done, pm_World_done, an_World_done, cd_World_done, ct_World_done, l_World_done, c_World_done⟩ := c.def_ 21 (d := d3_World_done) rfl
  obtain ⟨a_World_fall, i_World_fall, k_World_fall⟩ := He.meth_ok (c.fact 90 (f := .meth "World" "fall") rfl)
  obtain ⟨oc_World_fall, od_World_fall, sl_World_fall, kV_World_fall, dc_World_fall, pm_World_fall, an_World_fall, cd_World_fall, ct_World_fall, l_World_fall, c_World_fall⟩ := c.def_ 22 (d := d3_World_fall) rfl
  obtain ⟨a_World_rise, i_World_rise, k_World_rise⟩ := He.meth_ok (c.fact 91 (f := .meth "World" "rise") rfl)
  obtain ⟨oc_World_rise, od_World_rise, sl_World_rise, kV_World_rise, dc_World_rise, pm_World_rise, an_World_rise, cd_World_rise, ct_World_rise, l_World_rise, c_World_rise⟩ := c.def_ 23 (d := d3_World_rise) rfl
  have a_is_whole := glo_ns (c.fact 92 (f := .glo "is_whole") rfl)
  have k_is_whole := He.keep_ok (c.fact 93 (f := .keep "is_whole") rfl)
  obtain ⟨oc_is_whole, od_is_whole, sl_is_whole, kV_is_whole, dc_is_whole, pm_is_whole, an_is_whole, cd_is_whole, ct_is_whole, l_is_whole, c_is_whole⟩ := c.def_ 24 (d := d3_is_whole) rfl
  have a_is_from := glo_ns (c.fact 94 (f := .glo "is_from") rfl)
  have k_is_from := He.keep_ok (c.fact 95 (f := .keep "is_from") rfl)
  obtain ⟨oc_is_from, od_is_from, sl_is_from, kV_is_from, dc_is_from, pm_is_from, an_is_from, cd_is_from, ct_is_from, l_is_from, c_is_from⟩ := c.def_ 25 (d := d3_is_from) rfl
  have a_is_road := glo_ns (c.fact 96 (f := .glo "is_road") rfl)
  have k_is_road := He.keep_ok (c.fact 97 (f := .keep "is_road") rfl)
  obtain ⟨oc_is_road, od_is_road, sl_is_road, kV_is_road, dc_is_road, pm_is_road, an_is_road, cd_is_road, ct_is_road, l_is_road, c_is_road⟩ := c.def_ 26 (d := d3_is_road) rfl
  have a_bad_rows := glo_ns (c.fact 98 (f := .glo "bad_rows") rfl)
  have k_bad_rows := He.keep_ok (c.fact 99 (f := .keep "bad_rows") rfl)
  obtain ⟨oc_bad_rows, od_bad_rows, sl_bad_rows, kV_bad_rows, dc_bad_rows, pm_bad_rows, an_bad_rows, cd_bad_rows, ct_bad_rows, l_bad_rows, c_bad_rows⟩ := c.def_ 27 (d := d3_bad_rows) rfl
  have a_near_rows := glo_ns (c.fact 100 (f := .glo "near_rows") rfl)
  have k_near_rows := He.keep_ok (c.fact 101 (f := .keep "near_rows") rfl)
  obtain ⟨oc_near_rows, od_near_rows, sl_near_rows, kV_near_rows, dc_near_rows, pm_near_rows, an_near_rows, cd_near_rows, ct_near_rows, l_near_rows, c_near_rows⟩ := c.def_ 28 (d := d3_near_rows) rfl
  have a_turned_row := glo_ns (c.fact 102 (f := .glo "turned_row") rfl)
  have k_turned_row := He.keep_ok (c.fact 103 (f := .keep "turned_row") rfl)
  obtain ⟨oc_turned_row, od_turned_row, sl_turned_row, kV_turned_row, dc_turned_row, pm_turned_row, an_turned_row, cd_turned_row, ct_turned_row, l_turned_row, c_turned_row⟩ := c.def_ 29 (d := d3_turned_row) rfl
  have a_turned_all := glo_ns (c.fact 104 (f := .glo "turned_all") rfl)
  have k_turned_all := He.keep_ok (c.fact 105 (f := .keep "turned_all") rfl)
  obtain ⟨oc_turned_all, od_turned_all, sl_turned_all, kV_turned_all, dc_turned_all, pm_turned_all, an_turned_all, cd_turned_all, ct_turned_all, l_turned_all, c_turned_all⟩ := c.def_ 30 (d := d3_turned_all) rfl
  have a_far_paper := glo_ns (c.fact 106 (f := .glo "far_paper") rfl)
  have k_far_paper := He.keep_ok (c.fact 107 (f := .keep "far_paper") rfl)
  obtain ⟨oc_far_paper, od_far_paper, sl_far_paper, kV_far_paper, dc_far_paper, pm_far_paper, an_far_paper, cd_far_paper, ct_far_paper, l_far_paper, c_far_paper⟩ := c.def_ 31 (d := d3_far_paper) rfl
  have a_law_deck := glo_ns (c.fact 108 (f := .glo "_law_deck") rfl)
  have k_law_deck := He.keep_ok (c.fact 109 (f := .keep "_law_deck") rfl)
  obtain ⟨oc_law_deck, od_law_deck, sl_law_deck, kV_law_deck, dc_law_deck, pm_law_deck, an_law_deck, cd_law_deck, ct_law_deck, l_law_deck, c_law_deck⟩ := c.def_ 32 (d := d3_law_deck) rfl
  have a_law_draw := glo_ns (c.fact 110 (f := .glo "_law_draw") rfl)
  have k_law_draw := He.keep_ok (c.fact 111 (f := .keep "_law_draw") rfl)
  obtain ⟨oc_law_draw, od_law_draw, sl_law_draw, kV_law_draw, dc_law_draw, pm_law_draw, an_law_draw, cd_law_draw, ct_law_draw, l_law_draw, c_law_draw⟩ := c.def_ 33 (d := d3_law_draw) rfl
  have a_law_roads := glo_ns (c.fact 112 (f := .glo "_law_roads") rfl)
  have k_law_roads := He.keep_ok (c.fact 113 (f := .keep "_law_roads") rfl)
  obtain ⟨oc_law_roads, od_law_roads, sl_law_roads, kV_law_roads, dc_law_roads, pm_law_roads, an_law_roads, cd_law_roads, ct_law_roads, l_law_roads, c_law_roads⟩ := c.def_ 34 (d := d3_law_roads) rfl
  have a_law_done := glo_ns (c.fact 114 (f := .glo "_law_done") rfl)
  have k_law_done := He.keep_ok (c.fact 115 (f := .keep "_law_done") rfl)
  obtain ⟨oc_law_done, od_law_done, sl_law_done, kV_law_done, dc_law_done, pm_law_done, an_law_done, cd_law_done, ct_law_done, l_law_done, c_law_done⟩ := c.def_ 35 (d := d3_law_done) rfl
  have a_law_pair := glo_ns (c.fact 116 (f := .glo "_law_pair") rfl)
  have k_law_pair := He.keep_ok (c.fact 117 (f := .keep "_law_pair") rfl)
  obtain ⟨oc_law_pair, od_law_pair, sl_law_pair, kV_law_pair, dc_law_pair, pm_law_pair, an_law_pair, cd_law_pair, ct_law_pair, l_law_pair, c_law_pair⟩ := c.def_ 36 (d := d3_law_pair) rfl
  have a_law_row_of := glo_ns (c.fact 118 (f := .glo "_law_row_of") rfl)
  have k_law_row_of := He.keep_ok (c.fact 119 (f := .keep "_law_row_of") rfl)
  obtain ⟨oc_law_row_of, od_law_row_of, sl_law_row_of, kV_law_row_of, dc_law_row_of, pm_law_row_of, an_law_row_of, cd_law_row_of, ct_law_row_of, l_law_row_of, c_law_row_of⟩ := c.def_ 37 (d := d3_law_row_of) rfl
  have a_law_near := glo_ns (c.fact 120 (f := .glo "_law_near") rfl)
  have k_law_near := He.keep_ok (c.fact 121 (f := .keep "_law_near") rfl)
  obtain ⟨oc_law_near, od_law_near, sl_law_near, kV_law_near, dc_law_near, pm_law_near, an_law_near, cd_law_near, ct_law_near, l_law_near, c_law_near⟩ := c.def_ 38 (d := d3_law_near) rfl
  have a_law := glo_ns (c.fact 122 (f := .glo "law") rfl)
  have k_law := He.keep_ok (c.fact 123 (f := .keep "law") rfl)
  obtain ⟨oc_law, od_law, sl_law, kV_law, dc_law, pm_law, an_law, cd_law, ct_law, l_law, c_law⟩ := c.def_ 39 (d := d3_law) rfl
  have z_abs := free_ns (c.fact 124 (f := .free "abs") rfl)
  have z_all := free_ns (c.fact 125 (f := .free "all") rfl)
  have z_bool := free_ns (c.fact 126 (f := .free "bool") rfl)
  have z_dict := free_ns (c.fact 127 (f := .free "dict") rfl)
  have z_enumerate := free_ns (c.fact 128 (f := .free "enumerate") rfl)
  have z_int := free_ns (c.fact 129 (f := .free "int") rfl)
  have z_isinstance := free_ns (c.fact 130 (f := .free "isinstance") rfl)
  have z_len := free_ns (c.fact 131 (f := .free "len") rfl)
  have z_list := free_ns (c.fact 132 (f := .free "list") rfl)
  have z_min := free_ns (c.fact 133 (f := .free "min") rfl)
  have z_range := free_ns (c.fact 134 (f := .free "range") rfl)
  have z_repr := free_ns (c.fact 135 (f := .free "repr") rfl)
  have z_set := free_ns (c.fact 136 (f := .free "set") rfl)
  have z_sorted := free_ns (c.fact 137 (f := .free "sorted") rfl)
  have z_str := free_ns (c.fact 138 (f := .free "str") rfl)
  have z_tuple := free_ns (c.fact 139 (f := .free "tuple") rfl)
  have z_zip := free_ns (c.fact 140 (f := .free "zip") rfl)
  exact all_mk (l := l) (w := w) X G hfa a_HOUSES a_ROADS a_DELAY a_NARROW a_WIDE a_FAR a_DEEDS_bounds a_C_NetError sp_C_NetError rd_C_NetError v_C_NetError ex_C_NetError hd_C_NetError ty_C_NetError a_C_BadGround a_C_NoRoad ex_C_NoRoad ty_C_NoRoad no_C_NoRoad_a no_C_NoRoad_b xL_C_NoRoad sa_C_NoRoad kc_C_NoRoad a_NoRoad_init i_NoRoad_init l_NoRoad_init c_NoRoad_init k_NoRoad_init tf_C_NoRoad ga_C_NoRoad gg_C_NoRoad hd_C_NoRoad hc_C_NoRoad mo_C_NoRoad sn_C_NoRoad_b a_C_Same ex_C_Same ty_C_Same xL_C_Same sa_C_Same kc_C_Same a_Same_init i_Same_init l_Same_init c_Same_init k_Same_init tf_C_Same ga_C_Same gg_C_Same hd_C_Same hc_C_Same mo_C_Same sn_C_Same_b cg_all tk_all a_C_Roads pg_C_Roads hd_C_Roads po_C_Roads sa_C_Roads mk_C_Roads kc_C_Roads n_C_Roads_many n_C_Roads_lines n_C_Roads_fallen a_Roads_init i_Roads_init l_Roads_init c_Roads_init k_Roads_init a_Roads_up i_Roads_up l_Roads_up c_Roads_up k_Roads_up a_Roads_pair_of i_Roads_pair_of l_Roads_pair_of c_Roads_pair_of k_Roads_pair_of a_Roads_fall i_Roads_fall l_Roads_fall c_Roads_fall k_Roads_fall a_Roads_rise i_Roads_rise l_Roads_rise c_Roads_rise k_Roads_rise a_Roads_neighbours i_Roads_neighbours l_Roads_neighbours c_Roads_neighbours k_Roads_neighbours a_C_Fars pg_C_Fars hd_C_Fars po_C_Fars sa_C_Fars mk_C_Fars kc_C_Fars n_C_Fars_lanes n_C_Fars_grid a_Fars_init i_Fars_init l_Fars_init c_Fars_init k_Fars_init a_Fars_rows i_Fars_rows l_Fars_rows c_Fars_rows k_Fars_rows a_C_Frame pg_C_Frame hd_C_Frame po_C_Frame sa_C_Frame mk_C_Frame kc_C_Frame n_C_Frame_number n_C_Frame_letter n_C_Frame_first n_C_Frame_signs n_C_Frame_hops n_C_Frame_start n_C_Frame_end n_C_Frame_left a_C_Heap pg_C_Heap hd_C_Heap po_C_Heap sa_C_Heap mk_C_Heap kc_C_Heap a_C_Ground pg_C_Ground hd_C_Ground po_C_Ground sa_C_Ground mk_C_Ground kc_C_Ground n_C_Ground_lanes n_C_Ground_known n_C_Ground_clock n_C_Ground_running n_C_Ground_moving n_C_Ground_piles n_C_Ground_made_letters n_C_Ground_made_frames n_C_Ground_lost a_Ground_init i_Ground_init l_Ground_init c_Ground_init k_Ground_init a_Ground_told i_Ground_told l_Ground_told c_Ground_told k_Ground_told a_Ground_drops i_Ground_drops l_Ground_drops c_Ground_drops k_Ground_drops a_Ground_forget i_Ground_forget l_Ground_forget c_Ground_forget k_Ground_forget a_Ground_fall i_Ground_fall l_Ground_fall c_Ground_fall k_Ground_fall a_Ground_rise i_Ground_rise l_Ground_rise c_Ground_rise k_Ground_rise a_C_Wraps pg_C_Wraps hd_C_Wraps po_C_Wraps sa_C_Wraps mk_C_Wraps kc_C_Wraps n_C_Wraps_below n_C_Wraps_kept_rooms n_C_Wraps_kept_gates n_C_Wraps_made_rooms n_C_Wraps_made_gates n_C_Wraps_log_rows n_C_Wraps_borne n_C_Wraps_told_drops a_Wraps_init i_Wraps_init l_Wraps_init c_Wraps_init k_Wraps_init a_Wraps_tell_drops i_Wraps_tell_drops l_Wraps_tell_drops c_Wraps_tell_drops k_Wraps_tell_drops a_C_World pg_C_World hd_C_World po_C_World sa_C_World mk_C_World kc_C_World n_C_World_net n_C_World_stood n_C_World_telling n_C_World_batch_rows a_World_init i_World_init l_World_init c_World_init k_World_init a_World_ground i_World_ground l_World_ground c_World_ground k_World_ground a_World_look_open i_World_look_open l_World_look_open c_World_look_open k_World_look_open a_World_done i_World_done l_World_done c_World_done k_World_done a_World_fall i_World_fall l_World_fall c_World_fall k_World_fall a_World_rise i_World_rise l_World_rise c_World_rise k_World_rise kit_ess kit_ens kit_enn kit_kse kit_kne kit_so kit_no a_is_whole l_is_whole c_is_whole k_is_whole a_is_from l_is_from c_is_from k_is_from a_is_road l_is_road c_is_road k_is_road a_bad_rows l_bad_rows c_bad_rows k_bad_rows a_near_rows l_near_rows c_near_rows k_near_rows a_turned_row l_turned_row c_turned_row k_turned_row a_turned_all l_turned_all c_turned_all k_turned_all a_far_paper l_far_paper c_far_paper k_far_paper a_law_deck l_law_deck c_law_deck k_law_deck a_law_draw l_law_draw c_law_draw k_law_draw a_law_roads l_law_roads c_law_roads k_law_roads a_law_done l_law_done c_law_done k_law_done a_law_pair l_law_pair c_law_pair k_law_pair a_law_row_of l_law_row_of c_law_row_of k_law_row_of a_law_near l_law_near c_law_near k_law_near a_law l_law c_law k_law z_abs z_all z_bool z_dict z_enumerate z_int z_isinstance z_len z_list z_min z_range z_repr z_set z_sorted z_str z_tuple z_zip
end Wn

open PySem PySem.W PySem.Calls PyProof.Rows in
set_option maxRecDepth 100000 in
set_option maxHeartbeats 0 in
theorem PySem.Challenge.cw_wrapnets_k02_roads_fall_and_rise_holds : PySem.Challenge.rw_wrapnets_k02_roads_fall_and_rise.Holds := by
  w_on; o_law
  refine HandSHeadRun.head_any (r := OpenLaw.row PySem.Challenge.rw_wrapnets_k02_roads_fall_and_rise) (q := Wn.q3) (H := Wn.hk3) (ob := Wn.ob3) (M := 8000 + 12000) (loose := Wn.na3) (d := HandSHeadRun.topDef (OpenLaw.row PySem.Challenge.rw_wrapnets_k02_roads_fall_and_rise).prog 146) (kwd := []) Wn.ob3_eq
    (by kernel_rfl) (fun s => by kernel_rfl) Wn.run3 (by kernel_rfl) (by kernel_rfl) (by kernel_rfl) (by rfl) (by first | assumption | decide +kernel) (by decide +kernel) ⟨rfl, rfl, rfl, rfl, rfl, by decide +kernel⟩ ?hw ?hc
  case hw => w_witness2
  case hc =>
    refine Wn.walk_ofGE (l := PySem.Challenge.rw_wrapnets_k02_roads_fall_and_rise) (n := 63) (x := "_law_script") rfl (by decide) (by kernel_rfl) ?F
    intro w mg fa h Y G hmg0
    obtain ⟨K, KX, c, cx⟩ := Y
    have hmg : mg ("law" : PySem.Str) = some (.ref fa) := by
      have e : (HandSHeadRun.topDef (OpenLaw.row PySem.Challenge.rw_wrapnets_k02_roads_fall_and_rise).prog 146).name = ("law" : PySem.Str) := by kernel_rfl
      rw [← e]
      exact hmg0
    obtain ⟨fd, hb, hF⟩ := Wn.facts3 (l := PySem.Challenge.rw_wrapnets_k02_roads_fall_and_rise) (w := w) KX G hmg c cx
    exact ⟨K, fd, Wn.spLaw K, KX, hb, fun H a ns hl _ hS => ⟨a, ns, rfl, hS, hl, fun _ => rfl⟩, hF⟩
