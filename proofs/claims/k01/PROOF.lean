import PyProof.Rows.All
import Wide.All
import OpenK.AllK
import Wide.FinOn
import HandS.Head0
import HandS.Head1
import HandS.Head2
import HandS.HeadEnd
import HandS.HeadHook1
import HandS.HeadHook2
import HandS.HeadNt
import HandS.Property
import HandS.Codes
import HandS.MakeKw
import HandS.MakeKwOnly
import KE.KStateDown
import HandS.ForMost
import HandS.TupAny
import HandS.EndTab
import HandS.HeadHook4
import KE.KNestM
import KE.KExcInit
import HandS.ExcInit
import HandS.Lambda
import HandS.Deep
import HandS.Star
import HandS.TryOnly
import HandS.Zip
import HandS.CallSlots
import HandS.ForExc
import HandS.Defaults
import HandS.Ends
import HandS.Style
import KE.KCallOwn
import HandS.Dict
import HandS.DictComp
import HandS.Small
import HandS.Iter
import HandS.IsInst
import KE.GoesMore
import KE.GoesEnum
import KE.DatumIndex
import HandS.FStr
import HandS.Strs
import HandS.SetFor
import PyProof.IsiH_tuple
import HandS.BoundList
import HandS.SortKw
import KE.SortUse
import HandS.SortInts
import PyProof.DictUpdate
import HandS.Exc
import KE.KRevSl
import HandS.Text
import HandS.ClsMeth
import HandS.ExcField
import HandS.ExcIs
import KE.KTryMore
import KE.KExcIs
import KE.Datum
import PySem.Challenge.RW_matchplans_k01_constants_and_errors
set_option Elab.async false
set_option linter.all false
set_option maxRecDepth 100000
set_option maxHeartbeats 4000000
/-! M0: new tuples, with what their objects are. -/
namespace L2
open PySem PySem.Spec PyProof.Rows

/-- the tuple at a, which has no dict -/
def SqX (K : PySem.W.Frag) (H : Hp) (a : Addr) (xs : List V) : Prop := (∃ o : Obj, H a = some (.frz o (.tup xs)) ∧ o.cls = .type "tuple" ∧ o.dict = none) ∨
  ∃ (o : Obj) (its : Array Value) (n : Nat), K.lookup a = some o ∧ o.cls = .type "tuple" ∧ o.data = .seq its n ∧ its.size ≤ sizeLine ∧ Vals xs its.toList ∧ o.dict = none
theorem SqX.sq {K : PySem.W.Frag} {H : Hp} {a : Addr} {xs : List V} (h : SqX K H a xs) : SqT K H a xs := by
  rcases h with ⟨o, h, _⟩ | ⟨o, its, n, h1, h2, h3, h4, h5, _⟩
  · exact .inl (.inr ⟨o, h⟩)
  · exact .inr ⟨o, its, n, h1, h2, h3, h4, h5⟩
theorem SqX.of {K : PySem.W.Frag} {H : Hp} {a : Addr} {xs : List V} {o : Obj} (h : H a = some (.frz o (.tup xs))) (h1 : o.cls = .type "tuple") (h2 : o.dict = none) : SqX K H a xs := .inl ⟨o, h, h1, h2⟩
/-- a new tuple -/
def NewT (H : Hp) (xs : List V) (Q : VK) : Prop := ∀ (p : Addr) (o : Obj), H p = none → o.cls = .type "tuple" → o.dict = none → Q (.ref p) (upd H p (.frz o (.tup xs)))
section
variable {X : Cx} {pins : List (Addr × Obj)} {σ : St} {H : Hp} {s : Shared}
theorem SqX.obj {a : Addr} {xs : List V} (I : Inv X pins σ H s) (h : SqX X.K H a xs) : ∃ ob, s.heap.get? a = some ob ∧ ob.cls = .type "tuple" ∧ ob.dict = none := by
  rcases h with ⟨o, h, h1, h2⟩ | ⟨o, its, n, h1, h2, h3, h4, h5, h6⟩
  · exact ⟨o, (I.hok a _ h).1, h1, h2⟩
  · exact ⟨o, I.kIn a o h1, h2, h6⟩
theorem Inv.newT {xs : List V} {its : List Value} {t : Nat} {g : Array GenState} {d : Drawn} {os : OsState} {h : Heap} (I : Inv X pins σ H ⟨h, g, d, t, os⟩) (r : Vals xs its) (hz : xs.length ≤ sizeLine) : ∃ o : Obj, o.cls = .type "tuple" ∧ o.dict = none ∧ Inv X pins σ (upd H h.objs.size (.frz o (.tup xs))) ⟨h.push { cls := .type "tuple", data := .seq its.toArray }, g, d, t, os⟩ ∧ H h.objs.size = none := by
  refine ⟨{ cls := .type "tuple", data := .seq its.toArray }, rfl, rfl, I.laid (t' := t) (fun b u e => Heap.get?_push_of_some _ e) (Nat.le_refl _) ?_, I.hok.fresh (Nat.le_refl _)⟩
  have e : (h.push { cls := .type "tuple", data := .seq its.toArray }).get? h.objs.size = some { cls := .type "tuple", data := .seq its.toArray } := Heap.get?_push_size _ rfl
  exact ⟨e, hz, its, r, ⟨_, e, rfl, _, rfl⟩⟩
end
section
variable {X : Cx} {es : List Expr} {t : TA} {pos : Pos}
def tTupF (t : TA) : TE := fun σ H Q => t σ H fun xs H1 => xs.length ≤ sizeLine ∧ NewT H1 xs Q
theorem pe_tupF {x1} (h : PA X es t) : PE X (.Tuple es x1 pos) (tTupF t) := by
  refine ⟨fun pins s σ H Q I hq => ?_⟩
  refine wpAny_Tuple_spliced (thn (h.run pos pins s σ H _ I hq) fun us s1 ⟨xs, H1, I1, r, z, q⟩ => ⟨by rw [← r.length]; exact z, ?_⟩)
  obtain ⟨o, h1, h2, J, hf⟩ := I1.newT r z
  exact ⟨.ref s1.heap.objs.size, _, J, rfl, q _ o hf h1 h2⟩
theorem call_tuple_ofF : CallR X (.type "tuple") (fun xs H Q => ∃ p ys, xs = [.ref p] ∧ ((SqL X.K H p ys ∧ NewT H ys Q) ∨ (SqT X.K H p ys ∧ Q (.ref p) H))) := by
  intro pins s σ H xs us Q I r h
  obtain ⟨p, ys, rfl, h⟩ := h
  obtain ⟨u, rfl, rx⟩ := vals1 r
  cases rx
  rcases h with ⟨hq, q⟩ | ⟨hq, q⟩
  · obtain ⟨its, r', pl, hz⟩ := I.list hq
    have hlen := r'.length
    refine call_tuple_list pl.isList (fun h' kp => ?_) (by simp only [List.size_toArray] <;> omega)
    have I1 : Inv X pins σ H { s with heap := h' } := I.kept (t' := s.toks) kp
    obtain ⟨o, h1, h2, J, hf⟩ := I1.newT r' hz
    exact ⟨.ref h'.objs.size, _, J, rfl, q _ o hf h1 h2⟩
  · obtain ⟨its, r', pl, hz⟩ := I.tuple hq
    exact call_tuple_same pl ⟨.ref p, H, I, rfl, q⟩
def rCatF (K : PySem.W.Frag) : R2 := fun x y H Q => ∃ a b xs ys, x = .ref a ∧ y = .ref b ∧ SqT K H a xs ∧ SqT K H b ys ∧ xs.length + ys.length ≤ sizeLine ∧
  (xs = [] → Q (.ref b) H) ∧ (xs ≠ [] → ys = [] → Q (.ref a) H) ∧ (xs ≠ [] → ys ≠ [] → NewT H (xs ++ ys) Q)
theorem op_catF : OpR X (binaryOp .Add) (rCatF X.K) := by
  intro pins s σ H x y v u Q I rx ry h
  obtain ⟨a, b, xs, ys, rfl, rfl, ha, hb, hz, q0, q1, q2⟩ := h
  cases rx
  cases ry
  obtain ⟨its, r1, p1, _⟩ := I.tuple ha
  obtain ⟨its2, r2, p2, _⟩ := I.tuple hb
  by_cases hx : xs = []
  · subst hx
    cases r1
    exact cat_tup0 p1 p2 ⟨.ref b, H, I, rfl, q0 rfl⟩
  · refine HT.cat_tup p1 p2 (fun z => hx (r1.nil_iff.mp z)) (fun z => ⟨.ref a, H, I, rfl, q1 hx (r2.nil_iff.mp z)⟩) (fun z => ?_) (by rw [← r1.length, ← r2.length]; exact hz)
    obtain ⟨o, h1, h2, J, hf⟩ := I.newT (r1.append r2) (by rw [List.length_append]; exact hz)
    exact ⟨.ref s.heap.objs.size, _, J, rfl, q2 hx (fun w => z (r2.nil_iff.mpr w)) _ o hf h1 h2⟩
def rSlF (K : PySem.W.Frag) : V → Option Int → Option Int → Hp → VK → Prop := fun x lo hi H Q => ∃ a xs, x = .ref a ∧ SqT K H a xs ∧
  (HT.sIx xs.length 0 lo = 0 ∧ HT.sIx xs.length xs.length hi = xs.length → Q (.ref a) H) ∧ (¬ (HT.sIx xs.length 0 lo = 0 ∧ HT.sIx xs.length xs.length hi = xs.length) → NewT H (cutV xs lo hi) Q)
theorem sl_tupF : SlR X (rSlF X.K) := by
  intro pins s σ H x v vl vu lo hi sl Q I rx hs pl pu h
  obtain ⟨a, xs, rfl, hx, q1, q2⟩ := h
  cases rx
  obtain ⟨its, r, ht, hz⟩ := I.tuple hx
  have hlen : its.toArray.size = xs.length := by rw [List.size_toArray]; exact r.length.symm
  refine ⟨"tuple", _, PyProof.Rows.slot_tuple_getitem.lookup, ht.typeIs, ?_⟩
  by_cases hw : HT.sIx xs.length 0 lo = 0 ∧ HT.sIx xs.length xs.length hi = xs.length
  · exact getItem_tuple_whole ht hs pl pu (by rw [hlen]; exact hw) ⟨.ref a, H, I, rfl, q1 hw⟩
  · refine HT.getItem_tuple_cut ht hs pl pu (by rw [hlen]; exact hw) ?_ (by rw [hlen]; exact hz)
    rw [hlen]
    obtain ⟨o, h1, h2, J, hf⟩ := I.newT ((r.drop (HT.sIx xs.length 0 lo)).take (HT.sIx xs.length xs.length hi - HT.sIx xs.length 0 lo)) (Nat.le_trans (cutV_length xs lo hi) hz)
    exact ⟨.ref s.heap.objs.size, _, J, rfl, q2 hw _ o hf h1 h2⟩
theorem call_divmodF : CallR X (.builtin "divmod") (fun xs H Q => ∃ i j, xs = [.int i, .int j] ∧ CDiv i j ∧ NewT H [.int (i / j), .int (i % j)] Q) := by
  intro pins s σ H xs us Q I r h
  obtain ⟨i, j, rfl, ⟨h1, h2⟩, q⟩ := h
  obtain ⟨u, w', rfl, ⟨t, rfl⟩, ⟨t', rfl⟩⟩ := vals2 r
  refine divmod_int (by omega) ?_ (.inl (PyProof.noPylong_small (by omega)))
  rw [Int.fdiv_eq_ediv_of_nonneg i (by omega), Int.fmod_eq_emod_of_nonneg i (by omega)]
  obtain ⟨hp, g, d, tk, os⟩ := s
  obtain ⟨o, k1, k2, J, hf⟩ := (I.tok (tk + 1 + 1)).newT (xs := [.int (i / j), .int (i % j)]) (its := [.int (i / j) tk, .int (i % j) (tk + 1)]) (.cons ⟨_, rfl⟩ (.cons ⟨_, rfl⟩ .nil)) (by show 2 ≤ sizeLine; decide)
  exact ⟨.ref hp.objs.size, _, J, rfl, q _ o hf k1 k2⟩
end
end L2
/-! MH0: the head's facts, defs at any address. -/
namespace He6
open PySem PySem.Spec PyProof.Rows L2 He He5

def obsM (fa : List Fa) (ex : List (PySem.W.Frag → Bool)) (fn : List DefA) (K : PySem.W.Frag) : He.AlD := ((fa.all fun f => f.ok K) && ((ex.all fun f => f K) && fn.all fun d => d.ok K), fn.map fun d => fnA K (d.at_ K))
def SaysM (fa : List Fa) (ex : List (PySem.W.Frag → Bool)) (fn : List DefA) (K : PySem.W.Frag) : Prop := obsM fa ex fn K = valA fn
/-- what is looked at: what the globals reach, and where sys.modules stands -/
def asM (g : Addr → Option Obj) (n : Nat) : List Addr := asA g n ++ [sysModules]
def obsMG (n : Nat) (fa : List Fa) (ex : List (PySem.W.Frag → Bool)) (fn : List DefA) (g : Addr → Option Obj) : He.AlD := obsM fa ex fn (frG g (asM g n))
def hookM (n : Nat) (fa : List Fa) (ex : List (PySem.W.Frag → Bool)) (fn : List DefA) : PySem.W.Hook where
  α := He.AlD
  obs := fun s => obsMG n fa ex fn s.heap.get?
  val := fun _ => valA fn
  says := fun _ h => ∃ K : PySem.W.Frag, K.In h ∧ SaysM fa ex fn K
  of := fun _ _ e => ⟨_, frG_in, e⟩
  keeps := fun _ _ _ ⟨K, hK, c⟩ k => ⟨K, PySem.W.Frag.In.keeps hK k, c⟩
theorem obsMG_eq {n : Nat} {fa : List Fa} {ex : List (PySem.W.Frag → Bool)} {fn : List DefA} {g : Addr → Option Obj} {s : Shared} (h : ∀ a, g a = s.heap.get? a) : obsMG n fa ex fn g = (hookM n fa ex fn).obs s := by
  have e : g = s.heap.get? := funext h
  rw [e] <;> rfl
section
variable {fa : List Fa} {ex : List (PySem.W.Frag → Bool)} {fn : List DefA} {K : PySem.W.Frag}
theorem SaysM.bool (c : SaysM fa ex fn K) : ((fa.all fun f => f.ok K) && ((ex.all fun f => f K) && fn.all fun d => d.ok K)) = true := congrArg (fun z : He.AlD => z.1) c
theorem SaysM.fact (c : SaysM fa ex fn K) (i : Nat) {f : Fa} (h : fa[i]? = some f := by rfl) : f.ok K = true := List.all_eq_true.mp (ba c.bool).1 f (List.mem_of_getElem? h)
theorem SaysM.more (c : SaysM fa ex fn K) (i : Nat) {f : PySem.W.Frag → Bool} (h : ex[i]? = some f := by rfl) : f K = true := List.all_eq_true.mp (ba (ba c.bool).2).1 f (List.mem_of_getElem? h)
theorem SaysM.def_ (c : SaysM fa ex fn K) (i : Nat) {d : DefA} (h : fn[i]? = some d := by rfl) : ∃ fd, L2.FunD K d.name d.qual d.params d.body d.scope (d.dvs K) (d.kws K) (d.at_ K) fd := by
  have e : fn.map (fun d => fnA K (d.at_ K)) = fn.map DefA.val := congrArg (fun z : He.AlD => z.2) c
  have e2 : (fn.map fun d => fnA K (d.at_ K))[i]? = (fn.map DefA.val)[i]? := by rw [e]
  rw [List.getElem?_map, List.getElem?_map, h] at e2
  exact DefA.funD (Option.some.inj e2) (List.all_eq_true.mp (ba (ba c.bool).2).2 d (List.mem_of_getElem? h))
end
/-- the getter of a property -/
def gAd (K : PySem.W.Frag) (C f : Str) : Addr := match PySem.W.recIn K (ma K (ga K C) f) "property" with
  | some (.ref g :: _) => g
  | _ => 0
def propB (C f : Str) (K : PySem.W.Frag) : Bool := eqO (PySem.W.findIn K (.ref (ga K C)) f) (some (some (.ref (ma K (ga K C) f)))) && (eqO (PySem.W.specialIn K (.ref (ma K (ga K C) f)) "__get__") (some (some (.builtin "property.__get__"))) &&
  (decide (PySem.W.takesIn K (.ref (ma K (ga K C) f)) = some true) && match PySem.W.recIn K (ma K (ga K C) f) "property" with
  | some (.ref _ :: _) => true
  | _ => false))
theorem propB_ok {K : PySem.W.Frag} {C f : Str} (h : propB C f K = true) : PropOf K (ga K C) f (ma K (ga K C) f) (gAd K C f) := by
  obtain ⟨h1, h⟩ := ba h
  obtain ⟨h2, h⟩ := ba h
  obtain ⟨h3, h4⟩ := ba h
  refine ⟨eqO_ok h1, eqO_ok h2, of_decide_eq_true h3, ?_⟩
  unfold gAd
  split at h4
  · rename_i g r e
    rw [e]
    exact ⟨r, rfl⟩
  · cases h4
def fnB (C m : Str) (K : PySem.W.Frag) : Bool := PySem.W.fnIn K (ma K (ga K C) m)
/-- a keyword-only default, if it is an object -/
def kwdAt (f : Str × Option Str) (x : Str) (K : PySem.W.Frag) : Addr := match K.lookup (fAd K f) with
  | some ⟨_, _, .func fd, _⟩ => (match fd.kwdefaults with
    | .ref D => (match PySem.W.nsIn K D x with
      | some (some (.ref a)) => a
      | _ => 0)
    | _ => 0)
  | _ => 0
/-- a tuple without items -/
def nilB (p : PySem.W.Frag → Addr) (K : PySem.W.Frag) : Bool := match K.lookup (p K) with
  | some ⟨.type c, none, .seq its _, _⟩ => decide (c = "tuple") && decide (its.size = 0)
  | _ => false
theorem nilB_ok {K : PySem.W.Frag} {p : PySem.W.Frag → Addr} (h : nilB p K = true) (H : Hp) : SqX K H (p K) [] := by
  unfold nilB at h
  cases q : K.lookup (p K) with
  | none => rw [q] at h; cases h
  | some o =>
    obtain ⟨oc, od, dt, osl⟩ := o
    rw [q] at h
    cases oc with
    | type c =>
      cases dt with
      | seq its n =>
        cases od with
        | some _ => cases h
        | none =>
        obtain ⟨h1, h2⟩ := ba (show (decide (c = "tuple") && decide (its.size = 0)) = true from h)
        have e : its = #[] := Array.eq_empty_of_size_eq_zero (of_decide_eq_true h2)
        subst e
        exact .inr ⟨_, #[], n, q, congrArg Value.type (of_decide_eq_true h1), rfl, Nat.zero_le _, .nil, rfl⟩
      | _ => cases od <;> cases h
    | _ => cases od <;> cases dt <;> cases h
/-- isinstance with an own class -/
def insB (c : Str) (K : PySem.W.Frag) : Bool := eqO (PySem.W.findIn K (.ref (ga K c)) "__class__") (some (some (.builtin "object.__class__"))) && (eqO (PySem.W.specialIn K (.builtin "object.__class__") "__get__") (some (some (.builtin "getset_descriptor.__get__"))) &&
  (decide (PySem.W.takesIn K (.builtin "object.__class__") = some true) && (decide (PySem.W.mroIn K (ga K c) (.type "object") = some true) && decide (PySem.W.kitOne K (.ref (ga K c)) (.ref (ga K c)) = some true))))
theorem insB_ok {K : PySem.W.Frag} {c : Str} (cl : L2.Cls K (ga K c)) (h : insB c K = true) : C8.InsC K (ga K c) := by
  obtain ⟨h1, h⟩ := ba h
  obtain ⟨h2, h⟩ := ba h
  obtain ⟨h3, h⟩ := ba h
  obtain ⟨h4, h5⟩ := ba h
  exact ⟨cl, eqO_ok h1, eqO_ok h2, of_decide_eq_true h3, of_decide_eq_true h4, of_decide_eq_true h5⟩
/-- something stands where sys.modules stands -/
def sysB (K : PySem.W.Frag) : Bool := (K.lookup sysModules).isSome
end He6
/-! MHT0: the head's facts with tables of code objects. -/
namespace He6
open PySem PySem.Spec PyProof.Rows L2 He He5
def tabsM (g : Addr → Option Obj) (tf : List Defn) (K : PySem.W.Frag) : Bool := tf.all fun p => PySem.W.codeHdIn K (cT K p).1 (cT K p).2 && (match g (cT K p).2 with
  | some o => emptyTab o
  | none => false)
def obsMT (n : Nat) (fa : List Fa) (ex : List (PySem.W.Frag → Bool)) (fn : List DefA) (tf : List Defn) (g : Addr → Option Obj) : He.AlD × Bool := (obsM fa ex fn (frT g (asM g n)), tabsM g tf (frT g (asM g n)))
/-- what is told of the tables -/
structure SaysTb (tf : List Defn) (h : Heap) (K : PySem.W.Frag) : Prop where
  hd : ∀ p ∈ tf, PySem.W.codeHdIn K (cT K p).1 (cT K p).2 = true
  out : ∀ p ∈ tf, K.lookup (cT K p).2 = none
  empty : ∀ p ∈ tf, h.get? (cT K p).2 = some { cls := .none, data := .fields #[] }
theorem saysTb_of {n : Nat} {tf : List Defn} {h : Heap} (e : tabsM h.get? tf (frT h.get? (asM h.get? n)) = true) : SaysTb tf h (frT h.get? (asM h.get? n)) := by
  have one : ∀ p ∈ tf, PySem.W.codeHdIn (frT h.get? (asM h.get? n)) (cT (frT h.get? (asM h.get? n)) p).1 (cT (frT h.get? (asM h.get? n)) p).2 = true ∧ ∃ o, h.get? (cT (frT h.get? (asM h.get? n)) p).2 = some o ∧ emptyTab o = true := fun p hp => by
    obtain ⟨q1, q2⟩ := Bool.and_eq_true_iff.mp (List.all_eq_true.mp e p hp)
    split at q2
    · rename_i o ho
      exact ⟨q1, o, ho, q2⟩
    · cases q2
  refine ⟨fun p hp => (one p hp).1, fun p hp => ?_, fun p hp => ?_⟩
  · obtain ⟨_, o, q, z⟩ := one p hp
    exact frT_none q z
  · obtain ⟨_, o, q, z⟩ := one p hp
    rw [q, emptyTab_eq z]
def hookMT (n : Nat) (fa : List Fa) (ex : List (PySem.W.Frag → Bool)) (fn : List DefA) (tf : List Defn) : PySem.W.Hook where
  α := He.AlD × Bool
  obs := fun s => obsMT n fa ex fn tf s.heap.get?
  val := fun _ => (valA fn, true)
  says := fun _ h => ∃ K : PySem.W.Frag, K.In h ∧ SaysM fa ex fn K ∧ SaysTb tf h K
  of := fun _ _ e => ⟨_, frT_in, congrArg (fun z : He.AlD × Bool => z.1) e, saysTb_of (congrArg (fun z : He.AlD × Bool => z.2) e)⟩
  keeps := fun _ _ _ ⟨K, hK, c, t⟩ k => ⟨K, PySem.W.Frag.In.keeps hK k, c, t.hd, t.out, fun p hp => k _ _ (t.empty p hp)⟩
theorem obsMT_eq {n : Nat} {fa : List Fa} {ex : List (PySem.W.Frag → Bool)} {fn : List DefA} {tf : List Defn} {g : Addr → Option Obj} {s : Shared} (h : ∀ a, g a = s.heap.get? a) : obsMT n fa ex fn tf g = (hookMT n fa ex fn tf).obs s := by
  have e : g = s.heap.get? := funext h
  rw [e] <;> rfl
end He6
/-! MHE0: own classes of errors at the head: what is asked. -/
namespace He6
open PySem PySem.Spec PyProof.Rows L2 He He5

def oexC (K : PySem.W.Frag) (C : Addr) : Bool := match K.lookup C with
  | some ⟨.type "type", _, .cls cd, sl⟩ => (match cd.mro, sl.toList with
    | .ref C' :: bm, [_, _, _, _, some (.builtin n), _] => C' == C && (n == "ValueError.__new__" && (!cd.hasDel && (cd.hasDict && PySem.HandSPX.refsVE bm)))
    | _, _ => false)
  | _ => false
theorem oexC_ok {K : PySem.W.Frag} {C : Addr} (q : oexC K C = true) : ∃ nm qn N bs bm sn sub ab col dd k0 k1 k2 k3 k5, K.lookup C = some (excClassObj nm qn C N bs bm true sn sub ab col dd k0 k1 k2 k3 k5 "ValueError.__new__") ∧ PySem.HandSPX.refsVE bm = true := by
  unfold oexC at q
  split at q
  · rename_i dd cd sl ho
    split at q
    · rename_i C' bm k0 k1 k2 k3 n k5 hm hs
      simp only [Bool.and_eq_true, beq_iff_eq, Bool.not_eq_true'] at q
      obtain ⟨rfl, rfl, hdel, hdct, ht⟩ := q
      obtain ⟨nm, bs, mro, ns, qn, hd, sn, sub, ab, col, del⟩ := cd
      dsimp only at hm hdel hdct
      subst hm hdel hdct
      have hsl : sl = #[k0, k1, k2, k3, some (.builtin "ValueError.__new__"), k5] := by
        obtain ⟨l⟩ := sl
        simp only at hs
        rw [hs]
      subst hsl
      exact ⟨nm, qn, ns, bs, bm, sn, sub, ab, col, dd, k0, k1, k2, k3, k5, ho, ht⟩
    · cases q
  · cases q
def oexB (c : Str) (K : PySem.W.Frag) : Bool := oexC K (ga K c) && (eqO (PySem.W.findIn K (.ref (ga K c)) "__setattr__") (some (some (.builtin "object.__setattr__"))) && (decide (PySem.W.subIn K (.ref (ga K c)) (.type "BaseException") = some true) && (decide (PySem.W.typeIn K (.ref (ga K c)) = some (.type "type")) && PySem.W.keepIn K (.ref (ga K c)))))
def xclB (c f : Str) (K : PySem.W.Frag) : Bool := oexB c K && (eqO (PySem.W.findIn K (.ref (ga K c)) "__init__") (some (some (.ref (ma K (ga K c) "__init__")))) && (decide (PySem.W.typeIn K (.ref (ma K (ga K c) "__init__")) = some (.type "function")) && eqO (PySem.W.findIn K (.ref (ga K c)) f) (some none)))
def errCB (K : PySem.W.Frag) (C : Addr) : Bool := eqO (PySem.W.findIn K (.ref C) "__getattribute__") (some (some (.builtin "BaseException.__getattribute__"))) && (eqO (PySem.W.findIn K (.ref C) "__getattr__") (some none) && (decide (PySem.W.subIn K (.ref C) (.type "BaseException") = some true) && (PySem.W.hasDictIn K C && (eqO (PySem.W.findIn K (.ref C) "__class__") (some (some (.builtin "object.__class__"))) &&
  (eqO (PySem.W.specialIn K (.builtin "object.__class__") "__get__") (some (some (.builtin "getset_descriptor.__get__"))) && (decide (PySem.W.takesIn K (.builtin "object.__class__") = some true) && (decide (PySem.W.mroIn K C (.type "object") = some true) && (eqO (PySem.W.findIn K (.ref C) "given") (some none) && eqO (PySem.W.findIn K (.ref C) "index") (some none)))))))))
def errB (An : List (Str × List Str)) (K : PySem.W.Frag) : Bool := (An.all fun p => errCB K (ga K p.1)) && An.all fun p => An.all fun q => decide (PySem.W.exmOne K (.ref (ga K p.1)) (.ref (ga K q.1)) = some (p.2.contains q.1)) && decide (PySem.W.kitOne K (.ref (ga K p.1)) (.ref (ga K q.1)) = some (p.2.contains q.1))
end He6
/-! M63S: Python's classes of errors (a Side), the first field of an own error over one of them is kept (kit level). -/
namespace PySem
namespace SdX
open Builtin Builtin.ObjectAttr HandSPX PySem.W PyProof.Rows PySem.Calls

/-- what is asked of one of Python's classes of errors -/
structure Side (B newId initId : String) (tl : List Value) : Prop where
  ex : ExcBaseFacts B newId initId tl
  pass : ∀ self : Value, refuseLoop self "__setattr__" tl = pure ()
  obj : tl.contains (.type "object") = true
  ne : tl.isEmpty = false
abbrev mroB (B : String) : List Value := [.type B, .type "Exception", .type "BaseException", .type "object"]
theorem sideV : Side "ValueError" "ValueError.__new__" "ValueError.__init__" (mroB "ValueError") := ⟨F.excBase_ValueError, F.store_ValueError.passes, by decide +kernel, rfl⟩
theorem sideL : Side "LookupError" "LookupError.__new__" "LookupError.__init__" (mroB "LookupError") := ⟨F.excBase_LookupError, F.store_LookupError.passes, by decide +kernel, rfl⟩
theorem sideA : Side "ArithmeticError" "ArithmeticError.__new__" "ArithmeticError.__init__" (mroB "ArithmeticError") := ⟨F.excBase_ArithmeticError, F.store_ArithmeticError.passes, by decide +kernel, rfl⟩
/-- own classes ahead of it -/
inductive OverS (tl : List Value) : List Value → Prop
  | base : OverS tl tl
  | own {c : Addr} {r : List Value} : OverS tl r → OverS tl (.ref c :: r)
def overS (tl : List Value) : List Value → Bool
  | .ref _ :: rest => overS tl rest
  | rest => rest == tl
theorem overS_ok {tl : List Value} : ∀ {l : List Value}, overS tl l = true → OverS tl l := fun {l} => by
  induction l with
  | nil => intro h; rw [← beq_iff_eq.mp (show (([] : List Value) == tl) = true from h)]; exact .base
  | cons y rest ih =>
    intro h
    cases y with
    | ref c => exact .own (ih h)
    | _ => rw [beq_iff_eq.mp (show (_ == tl) = true from h)]; exact .base
section
variable {B newId initId : String} {tl : List Value}
theorem OverS.pass (S : Side B newId initId tl) {l : List Value} (h : OverS tl l) (self : Value) : refuseLoop self "__setattr__" l = pure () := by
  induction h with
  | base => exact S.pass self
  | own _ ih => rw [refuseLoop_ref]; exact ih
theorem OverS.has {l : List Value} (h : OverS tl l) (T : String) : l.contains (.type T) = tl.contains (.type T) := by
  induction h with
  | base => rfl
  | own _ ih => rw [List.contains_cons, ih]; rfl
theorem OverS.ne (S : Side B newId initId tl) {l : List Value} (h : OverS tl l) : l.isEmpty = false := by
  cases h with
  | base => exact S.ne
  | own _ => rfl
end
section
variable {prog : Program} {w : World} {A : Around} {h0 : Heap} {gs : Array GenState} {dr : Drawn} {tk0 : Nat} {os : OsState} {R : Except Value Flow → Shared → Prop} {B newId initId : String} {tl : List Value}
theorem keep_firstS (S : Side B newId initId tl) {K : W.Frag} {fld : Str} {tk : Tok} {val : Value} {e C : Addr} {fv : Array Value} {cd : ClassData}
    (KI : K.In h0) (he : h0.get? e = some { cls := .ref C, data := .fields fv }) (hc : W.clsIn K C = some cd) (mr : OverS tl cd.mro) (hd : cd.hasDict = true) (hno : W.findIn K (.ref C) fld = some none)
    (fin : ∀ h1 tk1 dx, (∀ b o, b ≠ e → h0.get? b = some o → h1.get? b = some o) → h0.objs.size ≤ dx → dx ≠ e → h1.get? e = some { cls := .ref C, dict := some dx, data := .fields fv } →
      h1.Ns1 dx (fun y => if y = fld then some val else none) → R (.ok (.ret .none)) ⟨h1, gs, dr, tk1, os⟩) :
    codeAny (model prog w) A (.call (.builtin "object.__setattr__") ⟨[.ref e, .str fld tk, val], []⟩) R ⟨h0, gs, dr, tk0, os⟩ := by
  have IA : W.InstAt h0 e { cls := .ref C, data := .fields fv } C none := ⟨he, rfl, rfl, trivial⟩
  have Z := F.store_object
  have en : e ≠ h0.objs.size := Nat.ne_of_lt (Heap.lt_size he)
  have hob : cd.mro.contains (.type "object") = true := (mr.has "object").trans S.obj
  have nem : cd.mro.isEmpty = false := mr.ne S
  have isO : W.Looks (model prog w) h0 (isInstance (.ref e) (.type "object")) true := IA.type.andThen (W.looks_mroIn KI (by unfold W.mroIn; rw [hc, Option.bind_some, if_neg (by rw [nem]; decide), hob]))
  refine codeAny_call_builtin Z.slot.plain Z.entry (@W.check_slot (model prog w) _ _ ⟨h0, gs, dr, tk0, os⟩ "object.__setattr__" "object" "__setattr__" (.ref e) [.str fld tk, val] [] _ Z.kind Z.split isO (Z.args (.ref e) (.str fld tk) val) ?_)
  have lm : W.Looks (model prog w) h0 (mroOf (.ref C)) cd.mro := (W.looks_clsIn KI hc).andThen .now
  have lt : W.Looks (model prog w) h0 (storeTaker? none) none := .now
  have lc : W.Looks (model prog w) h0 (classData C) cd := W.looks_clsIn KI hc
  rw [W.osa_eq, refuse_eq]
  refine wpAny_bind (wpAny_bind (IA.type.at (wpAny_bind (lm.at ?_))))
  rw [mr.pass S]
  refine wpAny_pure (wpAny_bind (IA.type.at (wpAny_bind ((W.looks_findIn KI hno).at (wpAny_bind (lt.at ?_))))))
  show wpAny _ _ (storeInOwnDict (.ref e) (.ref C) (.str fld tk) fld val false) _ _ _
  obtain ⟨c1, c2, c3, c4, c5, c6, c7, c8, c9, c10, c11⟩ := cd
  dsimp only at hd
  subst hd
  unfold storeInOwnDict ownDictForStores
  repeat (first | with_reducible refine store_in_new ?_ ?_ | with_reducible refine wpAny_loadPart_at he ?_ | with_reducible refine lc.at ?_ | wp_step)
  · exact ⟨_, #[], _, (Heap.get?_update_ne _ _ _ _ en.symm).trans (Heap.get?_push_at rfl rfl), rfl, fun y hy => absurd hy (by simp), fun _ => rfl⟩
  · intro h1 tk1 n1 st
    have he1 : (h0.push { cls := .type "dict", data := .dict #[] }).get? e = some { cls := .ref C, data := .fields fv } := Heap.get?_push_of_some _ he
    refine fin h1 tk1 h0.objs.size (fun b o hb ho => ?_) (Nat.le_refl _) en.symm ?_ n1
    · exact (st.2 b (Nat.ne_of_lt (Heap.lt_size ho))).trans ((Heap.get?_update_ne _ _ _ _ hb).trans (Heap.get?_push_of_some _ ho))
    · exact (st.2 e en).trans (Heap.get?_update_self _ he1 rfl)
end
end SdX
end PySem
/-! MY0: errors as values, what is asked of the heap at the head. -/
namespace He6
open PySem PySem.Spec PyProof.Rows L2 He He5 PySem.SdX
def oexSC (newId : String) (tl : List Value) (K : PySem.W.Frag) (C : Addr) : Bool := match K.lookup C with
  | some ⟨.type "type", _, .cls cd, sl⟩ => (match cd.mro, sl.toList with
    | .ref C' :: bm, [_, _, _, _, some (.builtin n), _] => C' == C && (n == newId && (!cd.hasDel && (cd.hasDict && overS tl bm)))
    | _, _ => false)
  | _ => false
theorem oexSC_ok {newId : String} {tl : List Value} {K : PySem.W.Frag} {C : Addr} (q : oexSC newId tl K C = true) : ∃ nm qn N bs bm sn sub ab col dd k0 k1 k2 k3 k5, K.lookup C = some (excClassObj nm qn C N bs bm true sn sub ab col dd k0 k1 k2 k3 k5 newId) ∧ overS tl bm = true := by
  unfold oexSC at q
  split at q
  · rename_i dd cd sl ho
    split at q
    · rename_i C' bm k0 k1 k2 k3 n k5 hm hs
      simp only [Bool.and_eq_true, beq_iff_eq, Bool.not_eq_true'] at q
      obtain ⟨rfl, rfl, hdel, hdct, ht⟩ := q
      obtain ⟨nm, bs, mro, ns, qn, hd, sn, sub, ab, col, del⟩ := cd
      dsimp only at hm hdel hdct
      subst hm hdel hdct
      have hsl : sl = #[k0, k1, k2, k3, some (.builtin n), k5] := by
        obtain ⟨l⟩ := sl
        simp only at hs
        rw [hs]
      subst hsl
      exact ⟨nm, qn, ns, bs, bm, sn, sub, ab, col, dd, k0, k1, k2, k3, k5, ho, ht⟩
    · cases q
  · cases q
def oexAB (c : Str) (K : PySem.W.Frag) : Bool := (oexSC "ValueError.__new__" (mroB "ValueError") K (ga K c) || (oexSC "LookupError.__new__" (mroB "LookupError") K (ga K c) || oexSC "ArithmeticError.__new__" (mroB "ArithmeticError") K (ga K c))) && (eqO (PySem.W.findIn K (.ref (ga K c)) "__setattr__") (some (some (.builtin "object.__setattr__"))) && (decide (PySem.W.subIn K (.ref (ga K c)) (.type "BaseException") = some true) && (decide (PySem.W.typeIn K (.ref (ga K c)) = some (.type "type")) && PySem.W.keepIn K (.ref (ga K c)))))
def xclAB (c f : Str) (K : PySem.W.Frag) : Bool := oexAB c K && (eqO (PySem.W.findIn K (.ref (ga K c)) "__init__") (some (some (.ref (ma K (ga K c) "__init__")))) && (decide (PySem.W.typeIn K (.ref (ma K (ga K c) "__init__")) = some (.type "function")) && eqO (PySem.W.findIn K (.ref (ga K c)) f) (some none)))
def xcl0B (c : Str) (K : PySem.W.Frag) : Bool := oexAB c K && (eqO (PySem.W.findIn K (.ref (ga K c)) "__init__") (some (some (.ref (ma K (ga K c) "__init__")))) && decide (PySem.W.typeIn K (.ref (ma K (ga K c) "__init__")) = some (.type "function")))
def errTB (An : List (Str × List Str)) (Bn : List (Str × String)) (K : PySem.W.Frag) : Bool := An.all fun p => (["ValueError", "LookupError", "ArithmeticError"] : List String).all fun T => decide (PySem.W.kitOne K (.ref (ga K p.1)) (.type T) = some (Bn.lookup p.1 == some T))
end He6
namespace L
open PySem PySem.Spec PyProof.Rows L2
def top (i : Nat) : Stmt := PySem.Challenge.pw_matchplans_k01_constants_and_errors.main.body.getD i (.Pass ⟨0, 0, 0, 0⟩)
abbrev s_law : Stmt := top 42
abbrev s__law_pot : Stmt := top 34
abbrev s__law_cell : Stmt := top 33
abbrev s__law_right : Stmt := top 41
abbrev s__law_with_given : Stmt := top 37
abbrev s__law_is_of : Stmt := top 40
abbrev s__law_sorts : Stmt := top 39
abbrev s__law_with_index : Stmt := top 38
abbrev s__law_thing : Stmt := top 36
abbrev s__law_draw : Stmt := top 35
abbrev s_InvalidText__init_ : Stmt := inClass (top 4) 0
abbrev s_InvalidName__init_ : Stmt := inClass (top 5) 0
abbrev s_InvalidNumber__init_ : Stmt := inClass (top 6) 0
abbrev s_InvalidOrder__init_ : Stmt := inClass (top 7) 0
abbrev s_InvalidWho__init_ : Stmt := inClass (top 8) 0
abbrev s_InvalidPlace__init_ : Stmt := inClass (top 9) 0
abbrev s_InvalidChange__init_ : Stmt := inClass (top 10) 0
abbrev s_InvalidWish__init_ : Stmt := inClass (top 11) 0
abbrev s_InvalidIndex__init_ : Stmt := inClass (top 12) 0
abbrev s_NotAPlan__init_ : Stmt := inClass (top 13) 0
abbrev s_OtherKind__init_ : Stmt := inClass (top 14) 0
abbrev s_UnknownName__init_ : Stmt := inClass (top 23) 0
abbrev s_InvalidEntries__init_ : Stmt := inClass (top 15) 0
abbrev s_InvalidMatches__init_ : Stmt := inClass (top 16) 0
abbrev s_InvalidPlaces__init_ : Stmt := inClass (top 17) 0
abbrev s_InvalidKnown__init_ : Stmt := inClass (top 18) 0
abbrev s_InvalidUpsets__init_ : Stmt := inClass (top 19) 0
abbrev s_InvalidThrows__init_ : Stmt := inClass (top 20) 0
abbrev s_InvalidChanges__init_ : Stmt := inClass (top 21) 0
abbrev s_InvalidWishes__init_ : Stmt := inClass (top 22) 0
abbrev s_InUse__init_ : Stmt := inClass (top 24) 0
abbrev s_Broken__init_ : Stmt := inClass (top 26) 0
abbrev s_NothingToUndo__init_ : Stmt := inClass (top 25) 0
def dA__law_pot : He5.DefA := ⟨fun K => He.fAd K ("_law_pot", none), "_law_pot", "_law_pot", defArgs s__law_pot, defBody s__law_pot, defScope s__law_pot, [], []⟩
def dA__law_cell : He5.DefA := ⟨fun K => He.fAd K ("_law_cell", none), "_law_cell", "_law_cell", defArgs s__law_cell, defBody s__law_cell, defScope s__law_cell, [], []⟩
def dA__law_with_given : He5.DefA := ⟨fun K => He.fAd K ("_law_with_given", none), "_law_with_given", "_law_with_given", defArgs s__law_with_given, defBody s__law_with_given, defScope s__law_with_given, [], []⟩
def dA__law_sorts : He5.DefA := ⟨fun K => He.fAd K ("_law_sorts", none), "_law_sorts", "_law_sorts", defArgs s__law_sorts, defBody s__law_sorts, defScope s__law_sorts, [], []⟩
def dA__law_is_of : He5.DefA := ⟨fun K => He.fAd K ("_law_is_of", none), "_law_is_of", "_law_is_of", defArgs s__law_is_of, defBody s__law_is_of, defScope s__law_is_of, [], []⟩
def dA__law_with_index : He5.DefA := ⟨fun K => He.fAd K ("_law_with_index", none), "_law_with_index", "_law_with_index", defArgs s__law_with_index, defBody s__law_with_index, defScope s__law_with_index, [], []⟩
def dA__law_right : He5.DefA := ⟨fun K => He.fAd K ("_law_right", none), "_law_right", "_law_right", defArgs s__law_right, defBody s__law_right, defScope s__law_right, [], []⟩
def dA__law_draw : He5.DefA := ⟨fun K => He.fAd K ("_law_draw", none), "_law_draw", "_law_draw", defArgs s__law_draw, defBody s__law_draw, defScope s__law_draw, [], []⟩
def dA__law_thing : He5.DefA := ⟨fun K => He.fAd K ("_law_thing", none), "_law_thing", "_law_thing", defArgs s__law_thing, defBody s__law_thing, defScope s__law_thing, [], []⟩
def dA_law : He5.DefA := ⟨fun K => He.fAd K ("law", none), "law", "law", defArgs s_law, defBody s_law, defScope s_law, [], []⟩
def dA_InvalidText__init_ : He5.DefA := ⟨fun K => He.fAd K ("InvalidText", some "__init__"), "__init__", "InvalidText.__init__", defArgs s_InvalidText__init_, defBody s_InvalidText__init_, defScope s_InvalidText__init_, [], []⟩
def dA_InvalidName__init_ : He5.DefA := ⟨fun K => He.fAd K ("InvalidName", some "__init__"), "__init__", "InvalidName.__init__", defArgs s_InvalidName__init_, defBody s_InvalidName__init_, defScope s_InvalidName__init_, [], []⟩
def dA_InvalidNumber__init_ : He5.DefA := ⟨fun K => He.fAd K ("InvalidNumber", some "__init__"), "__init__", "InvalidNumber.__init__", defArgs s_InvalidNumber__init_, defBody s_InvalidNumber__init_, defScope s_InvalidNumber__init_, [], []⟩
def dA_InvalidOrder__init_ : He5.DefA := ⟨fun K => He.fAd K ("InvalidOrder", some "__init__"), "__init__", "InvalidOrder.__init__", defArgs s_InvalidOrder__init_, defBody s_InvalidOrder__init_, defScope s_InvalidOrder__init_, [], []⟩
def dA_InvalidWho__init_ : He5.DefA := ⟨fun K => He.fAd K ("InvalidWho", some "__init__"), "__init__", "InvalidWho.__init__", defArgs s_InvalidWho__init_, defBody s_InvalidWho__init_, defScope s_InvalidWho__init_, [], []⟩
def dA_InvalidPlace__init_ : He5.DefA := ⟨fun K => He.fAd K ("InvalidPlace", some "__init__"), "__init__", "InvalidPlace.__init__", defArgs s_InvalidPlace__init_, defBody s_InvalidPlace__init_, defScope s_InvalidPlace__init_, [], []⟩
def dA_InvalidChange__init_ : He5.DefA := ⟨fun K => He.fAd K ("InvalidChange", some "__init__"), "__init__", "InvalidChange.__init__", defArgs s_InvalidChange__init_, defBody s_InvalidChange__init_, defScope s_InvalidChange__init_, [], []⟩
def dA_InvalidWish__init_ : He5.DefA := ⟨fun K => He.fAd K ("InvalidWish", some "__init__"), "__init__", "InvalidWish.__init__", defArgs s_InvalidWish__init_, defBody s_InvalidWish__init_, defScope s_InvalidWish__init_, [], []⟩
def dA_InvalidIndex__init_ : He5.DefA := ⟨fun K => He.fAd K ("InvalidIndex", some "__init__"), "__init__", "InvalidIndex.__init__", defArgs s_InvalidIndex__init_, defBody s_InvalidIndex__init_, defScope s_InvalidIndex__init_, [], []⟩
def dA_NotAPlan__init_ : He5.DefA := ⟨fun K => He.fAd K ("NotAPlan", some "__init__"), "__init__", "NotAPlan.__init__", defArgs s_NotAPlan__init_, defBody s_NotAPlan__init_, defScope s_NotAPlan__init_, [], []⟩
def dA_OtherKind__init_ : He5.DefA := ⟨fun K => He.fAd K ("OtherKind", some "__init__"), "__init__", "OtherKind.__init__", defArgs s_OtherKind__init_, defBody s_OtherKind__init_, defScope s_OtherKind__init_, [], []⟩
def dA_UnknownName__init_ : He5.DefA := ⟨fun K => He.fAd K ("UnknownName", some "__init__"), "__init__", "UnknownName.__init__", defArgs s_UnknownName__init_, defBody s_UnknownName__init_, defScope s_UnknownName__init_, [], []⟩
def dA_InvalidEntries__init_ : He5.DefA := ⟨fun K => He.fAd K ("InvalidEntries", some "__init__"), "__init__", "InvalidEntries.__init__", defArgs s_InvalidEntries__init_, defBody s_InvalidEntries__init_, defScope s_InvalidEntries__init_, [], []⟩
def dA_InvalidMatches__init_ : He5.DefA := ⟨fun K => He.fAd K ("InvalidMatches", some "__init__"), "__init__", "InvalidMatches.__init__", defArgs s_InvalidMatches__init_, defBody s_InvalidMatches__init_, defScope s_InvalidMatches__init_, [], []⟩
def dA_InvalidPlaces__init_ : He5.DefA := ⟨fun K => He.fAd K ("InvalidPlaces", some "__init__"), "__init__", "InvalidPlaces.__init__", defArgs s_InvalidPlaces__init_, defBody s_InvalidPlaces__init_, defScope s_InvalidPlaces__init_, [], []⟩
def dA_InvalidKnown__init_ : He5.DefA := ⟨fun K => He.fAd K ("InvalidKnown", some "__init__"), "__init__", "InvalidKnown.__init__", defArgs s_InvalidKnown__init_, defBody s_InvalidKnown__init_, defScope s_InvalidKnown__init_, [], []⟩
def dA_InvalidUpsets__init_ : He5.DefA := ⟨fun K => He.fAd K ("InvalidUpsets", some "__init__"), "__init__", "InvalidUpsets.__init__", defArgs s_InvalidUpsets__init_, defBody s_InvalidUpsets__init_, defScope s_InvalidUpsets__init_, [], []⟩
def dA_InvalidThrows__init_ : He5.DefA := ⟨fun K => He.fAd K ("InvalidThrows", some "__init__"), "__init__", "InvalidThrows.__init__", defArgs s_InvalidThrows__init_, defBody s_InvalidThrows__init_, defScope s_InvalidThrows__init_, [], []⟩
def dA_InvalidChanges__init_ : He5.DefA := ⟨fun K => He.fAd K ("InvalidChanges", some "__init__"), "__init__", "InvalidChanges.__init__", defArgs s_InvalidChanges__init_, defBody s_InvalidChanges__init_, defScope s_InvalidChanges__init_, [], []⟩
def dA_InvalidWishes__init_ : He5.DefA := ⟨fun K => He.fAd K ("InvalidWishes", some "__init__"), "__init__", "InvalidWishes.__init__", defArgs s_InvalidWishes__init_, defBody s_InvalidWishes__init_, defScope s_InvalidWishes__init_, [], []⟩
def dA_InUse__init_ : He5.DefA := ⟨fun K => He.fAd K ("InUse", some "__init__"), "__init__", "InUse.__init__", defArgs s_InUse__init_, defBody s_InUse__init_, defScope s_InUse__init_, [], []⟩
def dA_Broken__init_ : He5.DefA := ⟨fun K => He.fAd K ("Broken", some "__init__"), "__init__", "Broken.__init__", defArgs s_Broken__init_, defBody s_Broken__init_, defScope s_Broken__init_, [], []⟩
def dA_NothingToUndo__init_ : He5.DefA := ⟨fun K => He.fAd K ("NothingToUndo", some "__init__"), "__init__", "NothingToUndo.__init__", defArgs s_NothingToUndo__init_, defBody s_NothingToUndo__init_, defScope s_NothingToUndo__init_, [], []⟩
def fnL : List He5.DefA := [dA__law_pot, dA__law_cell, dA__law_with_given, dA__law_sorts, dA__law_is_of, dA__law_with_index, dA__law_right, dA__law_draw, dA__law_thing, dA_law, dA_InvalidText__init_, dA_InvalidName__init_, dA_InvalidNumber__init_, dA_InvalidOrder__init_, dA_InvalidWho__init_, dA_InvalidPlace__init_, dA_InvalidChange__init_, dA_InvalidWish__init_, dA_InvalidIndex__init_, dA_NotAPlan__init_, dA_OtherKind__init_, dA_UnknownName__init_, dA_InvalidEntries__init_, dA_InvalidMatches__init_, dA_InvalidPlaces__init_, dA_InvalidKnown__init_, dA_InvalidUpsets__init_, dA_InvalidThrows__init_, dA_InvalidChanges__init_, dA_InvalidWishes__init_, dA_InUse__init_, dA_Broken__init_, dA_NothingToUndo__init_]
def faL : List He.Fa := [
  .free "len",
  .free "range",
  .free "list",
  .free "tuple",
  .free "str",
  .free "int",
  .free "bool",
  .free "repr",
  .free "abs",
  .free "min",
  .free "max",
  .free "sum",
  .free "all",
  .free "any",
  .free "sorted",
  .free "divmod",
  .free "isinstance",
  .free "enumerate",
  .free "zip",
  .free "dict",
  .free "set",
  .free "type",
  .glo "law",
  .glo "InvalidText",
  .glo "InvalidName",
  .glo "InvalidNumber",
  .glo "InvalidOrder",
  .glo "InvalidWho",
  .glo "InvalidPlace",
  .glo "InvalidChange",
  .glo "InvalidWish",
  .glo "InvalidIndex",
  .glo "NotAPlan",
  .glo "OtherKind",
  .glo "UnknownName",
  .glo "InvalidPlaces",
  .glo "InvalidMatches",
  .glo "InvalidEntries",
  .glo "InvalidThrows",
  .glo "InvalidUpsets",
  .glo "InvalidKnown",
  .glo "InUse",
  .glo "InvalidWishes",
  .glo "InvalidChanges",
  .glo "NothingToUndo",
  .glo "Broken",
  .glo "_law_sorts",
  .glo "NoAnswer",
  .glo "BadName",
  .glo "BadValue",
  .free "ArithmeticError",
  .free "LookupError",
  .free "ValueError",
  .glo "_law_with_given",
  .glo "_law_is_of",
  .glo "_law_with_index",
  .glo "_law_draw",
  .int "MOST_WISHES" 6,
  .int "MOST_CHANGES" 6,
  .int "MOST_KNOWN" 12,
  .int "MOST_MATCHES" 24,
  .int "MOST_ENTRIES" 8,
  .glo "_law_pot",
  .glo "_law_cell",
  .glo "_law_right",
  .glo "_law_thing"]
def exL : List (PySem.W.Frag → Bool) := [He6.xclAB "InvalidText" "given", He6.xclAB "InvalidName" "given", He6.xclAB "InvalidNumber" "given", He6.xclAB "InvalidOrder" "given", He6.xclAB "InvalidWho" "given", He6.xclAB "InvalidPlace" "given", He6.xclAB "InvalidChange" "given", He6.xclAB "InvalidWish" "given", He6.xclAB "InvalidIndex" "given", He6.xclAB "NotAPlan" "given", He6.xclAB "OtherKind" "given", He6.xclAB "UnknownName" "given", He6.errB [("BadValue", ["BadValue"]),
  ("BadName", ["BadName"]),
  ("NoAnswer", ["NoAnswer"]),
  ("InvalidText", ["InvalidText", "BadValue"]),
  ("InvalidName", ["InvalidName", "BadValue"]),
  ("InvalidNumber", ["InvalidNumber", "BadValue"]),
  ("InvalidOrder", ["InvalidOrder", "BadValue"]),
  ("InvalidWho", ["InvalidWho", "BadValue"]),
  ("InvalidPlace", ["InvalidPlace", "BadValue"]),
  ("InvalidChange", ["InvalidChange", "BadValue"]),
  ("InvalidWish", ["InvalidWish", "BadValue"]),
  ("InvalidIndex", ["InvalidIndex", "BadValue"]),
  ("NotAPlan", ["NotAPlan", "BadValue"]),
  ("OtherKind", ["OtherKind", "BadValue"]),
  ("InvalidEntries", ["InvalidEntries", "BadValue"]),
  ("InvalidMatches", ["InvalidMatches", "BadValue"]),
  ("InvalidPlaces", ["InvalidPlaces", "BadValue"]),
  ("InvalidKnown", ["InvalidKnown", "BadValue"]),
  ("InvalidUpsets", ["InvalidUpsets", "BadValue"]),
  ("InvalidThrows", ["InvalidThrows", "BadValue"]),
  ("InvalidChanges", ["InvalidChanges", "BadValue"]),
  ("InvalidWishes", ["InvalidWishes", "BadValue"]),
  ("UnknownName", ["UnknownName", "BadName"]),
  ("InUse", ["InUse", "BadName"]),
  ("NothingToUndo", ["NothingToUndo", "NoAnswer"]),
  ("Broken", ["Broken", "NoAnswer"])], He6.errTB [("BadValue", ["BadValue"]),
  ("BadName", ["BadName"]),
  ("NoAnswer", ["NoAnswer"]),
  ("InvalidText", ["InvalidText", "BadValue"]),
  ("InvalidName", ["InvalidName", "BadValue"]),
  ("InvalidNumber", ["InvalidNumber", "BadValue"]),
  ("InvalidOrder", ["InvalidOrder", "BadValue"]),
  ("InvalidWho", ["InvalidWho", "BadValue"]),
  ("InvalidPlace", ["InvalidPlace", "BadValue"]),
  ("InvalidChange", ["InvalidChange", "BadValue"]),
  ("InvalidWish", ["InvalidWish", "BadValue"]),
  ("InvalidIndex", ["InvalidIndex", "BadValue"]),
  ("NotAPlan", ["NotAPlan", "BadValue"]),
  ("OtherKind", ["OtherKind", "BadValue"]),
  ("InvalidEntries", ["InvalidEntries", "BadValue"]),
  ("InvalidMatches", ["InvalidMatches", "BadValue"]),
  ("InvalidPlaces", ["InvalidPlaces", "BadValue"]),
  ("InvalidKnown", ["InvalidKnown", "BadValue"]),
  ("InvalidUpsets", ["InvalidUpsets", "BadValue"]),
  ("InvalidThrows", ["InvalidThrows", "BadValue"]),
  ("InvalidChanges", ["InvalidChanges", "BadValue"]),
  ("InvalidWishes", ["InvalidWishes", "BadValue"]),
  ("UnknownName", ["UnknownName", "BadName"]),
  ("InUse", ["InUse", "BadName"]),
  ("NothingToUndo", ["NothingToUndo", "NoAnswer"]),
  ("Broken", ["Broken", "NoAnswer"])] [("BadValue", "ValueError"), ("BadName", "LookupError"), ("NoAnswer", "ArithmeticError"), ("InvalidText", "ValueError"), ("InvalidName", "ValueError"), ("InvalidNumber", "ValueError"), ("InvalidOrder", "ValueError"), ("InvalidWho", "ValueError"), ("InvalidPlace", "ValueError"), ("InvalidChange", "ValueError"), ("InvalidWish", "ValueError"), ("InvalidIndex", "ValueError"), ("NotAPlan", "ValueError"), ("OtherKind", "ValueError"), ("InvalidEntries", "ValueError"), ("InvalidMatches", "ValueError"), ("InvalidPlaces", "ValueError"), ("InvalidKnown", "ValueError"), ("InvalidUpsets", "ValueError"), ("InvalidThrows", "ValueError"), ("InvalidChanges", "ValueError"), ("InvalidWishes", "ValueError"), ("UnknownName", "LookupError"), ("InUse", "LookupError"), ("NothingToUndo", "ArithmeticError"), ("Broken", "ArithmeticError")], He6.xclAB "InvalidEntries" "index", He6.xclAB "InvalidMatches" "index", He6.xclAB "InvalidPlaces" "index", He6.xclAB "InvalidKnown" "index", He6.xclAB "InvalidUpsets" "index", He6.xclAB "InvalidThrows" "index", He6.xclAB "InvalidChanges" "index", He6.xclAB "InvalidWishes" "index", He6.xclAB "InUse" "index", He6.xclAB "Broken" "index", He6.sysB, He6.xcl0B "NothingToUndo"]
def loose0 : List Str := [("BadValue" : Str), ("BadName" : Str), ("NoAnswer" : Str), ("InvalidText" : Str), ("InvalidName" : Str), ("InvalidNumber" : Str), ("InvalidOrder" : Str), ("InvalidWho" : Str), ("InvalidPlace" : Str), ("InvalidChange" : Str), ("InvalidWish" : Str), ("InvalidIndex" : Str), ("NotAPlan" : Str), ("OtherKind" : Str), ("InvalidEntries" : Str), ("InvalidMatches" : Str), ("InvalidPlaces" : Str), ("InvalidKnown" : Str), ("InvalidUpsets" : Str), ("InvalidThrows" : Str), ("InvalidChanges" : Str), ("InvalidWishes" : Str), ("UnknownName" : Str), ("InUse" : Str), ("NothingToUndo" : Str), ("Broken" : Str), ("MOST_ENTRIES" : Str), ("MOST_MATCHES" : Str), ("MOST_KNOWN" : Str), ("MOST_CHANGES" : Str), ("MOST_WISHES" : Str), ("_law_cell" : Str), ("_law_pot" : Str), ("_law_draw" : Str), ("_law_thing" : Str)]
def loose1 : List Str := [("_law_with_given" : Str), ("_law_with_index" : Str), ("_law_sorts" : Str), ("_law_is_of" : Str), ("_law_right" : Str)]
def looseL : List Str := loose0 ++ loose1
abbrev R : PySem.W.OpenRow := PySem.W.OpenLaw.row PySem.Challenge.rw_matchplans_k01_constants_and_errors
abbrev hk : PySem.W.Hook := He6.hookM 4 faL exL fnL
def ob (s : PySem.W.SharedT) : He.AlD := He6.obsMG 4 faL exL fnL (HandSHeadRun.getT s)
theorem ob_eq (s : PySem.W.SharedT) : ob s = hk.obs s.abs := He6.obsMG_eq (HandSHeadRun.getT_eq s)
theorem run (w : World) : HandSHeadRun.RunEq R (PySem.W.view R.prog [42]) hk ob 20000 looseL w := by
  intro os
  kernel_rfl

end L
/-! M1: values as data, what represents them, states. -/
namespace M
open PySem PySem.Spec PyProof.Rows L2

/-- Python's values as data. The Bool of a list, a dict, an instance: true where its holder alone has it (it may be changed), false where it is shared and stays.
    What an owned list, dict, instance holds is shared; lso: an owned list whose items are owned; tpo: a tuple (a result) whose items may be owned.
    exc: a caught exception, its fields. cls c: the own class c. scr: the law's script. sl i: the object that the slot i holds (a result only) -/
inductive D where
  | non | bl (b : Bool) | int (i : Int) | str (x : Str)
  | tup (xs : List D)
  | tpo (xs : List D)
  | lst (o : Bool) (xs : List D)
  | lso (xs : List D)
  | dct (o : Bool) (ks : List Key) (xs : List D)
  | dcu (o : Bool) (ks : List (List Key)) (xs : List D)
  | ins (o : Bool) (c : Str) (fs : List Str) (xs : List D)
  | opq (v : V)
  | cls (c : Str)
  | exc (c : Str) (fs : List Str) (xs : List D)
  | scr (ns : List Int)
  | sl (i : Nat)

/-- the classes' addresses; the tables of code objects of the lambdas, with the lambdas' names -/
structure Cax where
  ca : Str → Addr
  tb : List (Addr × Str)
instance : CoeFun Cax (fun _ => Str → Addr) := ⟨Cax.ca⟩
/-- what is fixed in a def: the written part, the classes' addresses, the owned parameters with their values; the state where it began (or where a try began) -/
structure Gc where
  K : PySem.W.Frag
  ca : Cax
  pm : List (Nat × V)
  F0 : Addr → Prop
  H0 : Hp
  fp0 : List Addr
  tb0 : LamX.Tabs ca.tb H0

/-- no table of code objects -/
def NTb : HO → Prop
  | .tbl _ => False
  | _ => True
def MutK : HO → Prop
  | .lst _ => True
  | .dK _ => True
  | .dT _ => True
  | .ins _ _ _ => True
  | .set _ _ => True
  | .tbl _ => True
  | _ => False

/-- at a: an exception of the class at C, its dict -/
def exO (a C : Addr) (d : Option Addr) : HO := .ext fun h => ∃ oe : Obj, h.get? a = some oe ∧ L2.Zc (.ref C) d oe ∧ ∃ vs : Array Value, oe.data = .fields vs
def XdAt (H : Hp) (d : Option Addr) (kvs : List (Str × V)) : Prop := match d with
  | some dx => H dx = some (.xd kvs)
  | none => kvs = []
theorem exO_mut {a C : Addr} {d : Option Addr} : ¬ MutK (exO a C d) := fun z => z
theorem xdAt_keep {H H' : Hp} {d : Option Addr} {kvs : List (Str × V)} (k : ∀ a o, H a = some o → ¬ MutK o → H' a = some o) (h : XdAt H d kvs) : XdAt H' d kvs := by
  cases d with
  | none => exact h
  | some dx => exact k dx _ h fun z => z
mutual
/-- v stands for d in H; F: what is shared and stays; fp: the owned objects that it reaches -/
inductive Rp (K : PySem.W.Frag) (ca : Cax) (F : Addr → Prop) (H : Hp) : V → D → List Addr → Prop
  | non : Rp K ca F H .non .non []
  | bl (b : Bool) : Rp K ca F H (.bl b) (.bl b) []
  | int (i : Int) : Rp K ca F H (.int i) (.int i) []
  | str (x : Str) : Rp K ca F H (.str x) (.str x) []
  | opq (v : V) : Rp K ca F H v (.opq v) []
  | cls (c : Str) : Rp K ca F H (.ref (ca c)) (.cls c) []
  | exc {a : Addr} {d : Option Addr} {c : Str} {fs : List Str} {vs : List V} {ds : List D} : H a = some (exO a (ca c) d) → XdAt H d (fs.zip vs) → fs.length = vs.length → RpL K ca F H vs ds [] → Rp K ca F H (.ref a) (.exc c fs ds) []
  | scr {a : Addr} {ns : List Int} : ((∃ o, H a = some (.frz o (.lst (ns.map V.int)))) ∨ SqL K (fun _ => none) a (ns.map V.int)) → Rp K ca F H (.ref a) (.scr ns) []
  | tup {a : Addr} {vs : List V} {ds : List D} : SqX K H a vs → RpL K ca F H vs ds [] → Rp K ca F H (.ref a) (.tup ds) []
  | tpo {a : Addr} {vs : List V} {ds : List D} {fp : List Addr} : SqX K H a vs → RpL K ca F H vs ds fp → Rp K ca F H (.ref a) (.tpo ds) fp
  | lfz {a : Addr} {vs : List V} {ds : List D} : H a = some (.lst vs) → F a → RpL K ca F H vs ds [] → Rp K ca F H (.ref a) (.lst false ds) []
  | low {a : Addr} {vs : List V} {ds : List D} : H a = some (.lst vs) → ¬ F a → RpL K ca F H vs ds [] → Rp K ca F H (.ref a) (.lst true ds) [a]
  | lso {a : Addr} {vs : List V} {ds : List D} {fp : List Addr} : H a = some (.lst vs) → ¬ F a → RpL K ca F H vs ds fp → Rp K ca F H (.ref a) (.lso ds) (a :: fp)
  | dfz {a : Addr} {ks : List Key} {vs : List V} {ds : List D} : Rd H a (.dK (ks.zip vs)) → F a → ks.length = vs.length → RpL K ca F H vs ds [] → Rp K ca F H (.ref a) (.dct false ks ds) []
  | dow {a : Addr} {ks : List Key} {vs : List V} {ds : List D} : H a = some (.dK (ks.zip vs)) → ¬ F a → ks.length = vs.length → RpL K ca F H vs ds [] → Rp K ca F H (.ref a) (.dct true ks ds) [a]
  | ufz {a : Addr} {ks : List (List Key)} {vs : List V} {ds : List D} : Rd H a (.dT (ks.zip vs)) → F a → ks.length = vs.length → RpL K ca F H vs ds [] → Rp K ca F H (.ref a) (.dcu false ks ds) []
  | uow {a : Addr} {ks : List (List Key)} {vs : List V} {ds : List D} : H a = some (.dT (ks.zip vs)) → ¬ F a → ks.length = vs.length → RpL K ca F H vs ds [] → Rp K ca F H (.ref a) (.dcu true ks ds) [a]
  | ifz {a dx : Addr} {c : Str} {fs : List Str} {vs : List V} {ds : List D} : H a = some (.ins (ca c) dx (fs.zip vs)) → F a → fs.length = vs.length → RpL K ca F H vs ds [] → Rp K ca F H (.ref a) (.ins false c fs ds) []
  | iow {a dx : Addr} {c : Str} {fs : List Str} {vs : List V} {ds : List D} : H a = some (.ins (ca c) dx (fs.zip vs)) → ¬ F a → fs.length = vs.length → RpL K ca F H vs ds [] → Rp K ca F H (.ref a) (.ins true c fs ds) [a]
inductive RpL (K : PySem.W.Frag) (ca : Cax) (F : Addr → Prop) (H : Hp) : List V → List D → List Addr → Prop
  | nil : RpL K ca F H [] [] []
  | cons {v : V} {vs : List V} {d : D} {ds : List D} {fp fq : List Addr} : Rp K ca F H v d fp → RpL K ca F H vs ds fq → RpL K ca F H (v :: vs) (d :: ds) (fp ++ fq)
end

mutual
/-- shared from now on -/
def fz : D → D
  | .tpo xs => .tup (fzL xs)
  | .lso xs => .lst false (fzL xs)
  | .lst _ xs => .lst false xs
  | .dct _ ks xs => .dct false ks xs
  | .dcu _ ks xs => .dcu false ks xs
  | .ins _ c fs xs => .ins false c fs xs
  | .tup xs => .tup xs
  | .non => .non
  | .bl b => .bl b
  | .int i => .int i
  | .str x => .str x
  | .opq v => .opq v
  | .cls c => .cls c
  | .exc c fs xs => .exc c fs xs
  | .scr ns => .scr ns
  | .sl i => .sl i
def fzL : List D → List D
  | [] => []
  | x :: xs => fz x :: fzL xs
end
/-- it owns something -/
def isOw : D → Bool
  | .tpo _ => true
  | .lso _ => true
  | .lst o _ => o
  | .dct o _ _ => o
  | .dcu o _ _ => o
  | .ins o _ _ _ => o
  | _ => false
mutual
/-- nothing shared in it: no list, dict, instance, but owned ones -/
def nfz : D → Bool
  | .tup xs => nfzL xs
  | .tpo xs => nfzL xs
  | .lso xs => nfzL xs
  | .lst o xs => o && nfzL xs
  | .dct o _ xs => o && nfzL xs
  | .dcu o _ xs => o && nfzL xs
  | .ins o _ _ xs => o && nfzL xs
  | .sl _ => false
  | .non => true
  | .bl _ => true
  | .int _ => true
  | .str _ => true
  | .opq _ => true
  | .cls _ => true
  | .exc _ _ xs => nfzL xs
  | .scr _ => false
def nfzL : List D → Bool
  | [] => true
  | x :: xs => nfz x && nfzL xs
end

/-- a list, an instance; a dict -/
def LI : HO → Prop
  | .lst _ => True
  | .ins _ _ _ => True
  | _ => False
def DK : HO → Prop
  | .dK _ => True
  | .dT _ => True
  | _ => False
theorem ntb_li {o : HO} (n : LI o) : NTb o := by
  cases o <;> first | trivial | exact n
theorem ntb_dk {o : HO} (n : DK o) : NTb o := by
  cases o <;> first | trivial | exact n
theorem ntb_n {o : HO} (n : ¬ MutK o) : NTb o := by
  cases o <;> first | trivial | exact n trivial
/-- from (F, H, fp) to (F', H', fp'): fp may have been changed, or shared; new objects; all else stands -/
structure Step (T : List (Addr × Str)) (F : Addr → Prop) (H : Hp) (fp : List Addr) (F' : Addr → Prop) (H' : Hp) (fp' : List Addr) : Prop where
  mono : ∀ a, F a → F' a
  new : ∀ a, F' a → F a ∨ a ∈ fp ∨ H a = none
  kept : ∀ a o, H a = some o → NTb o → (a ∉ fp ∨ ¬ MutK o) → H' a = some o
  there : ∀ a o, H a = some o → ∃ o', H' a = some o'
  fps : ∀ a, a ∈ fp' → a ∈ fp ∨ H a = none
  tab : LamX.Tabs T H → LamX.Tabs T H'
section
variable {T : List (Addr × Str)} {F F1 F2 : Addr → Prop} {H H1 H2 : Hp} {fp fp1 fp2 fq : List Addr}
theorem Step.refl : Step T F H fp F H fp := ⟨fun _ h => h, fun _ h => .inl h, fun _ _ h _ _ => h, fun _ o h => ⟨o, h⟩, fun _ h => .inl h, fun h => h⟩
theorem Step.none_of (a : Step T F H fp F1 H1 fp1) {x : Addr} (q : H1 x = none) : H x = none := by
  cases e : H x with
  | none => rfl
  | some o =>
    obtain ⟨o', e'⟩ := a.there x o e
    rw [q] at e'; cases e'
theorem Step.trans (a : Step T F H fp F1 H1 fp1) (b : Step T F1 H1 fp1 F2 H2 fp2) : Step T F H fp F2 H2 fp2 where
  mono := fun x h => b.mono x (a.mono x h)
  new := fun x h => by
    rcases b.new x h with z | z | z
    · exact a.new x z
    · exact (a.fps x z).elim (fun y => .inr (.inl y)) fun y => .inr (.inr y)
    · exact .inr (.inr (a.none_of z))
  kept := fun x o h n c => b.kept x o (a.kept x o h n c) n (c.imp (fun c z => (a.fps x z).elim c fun y => by rw [h] at y; cases y) id)
  there := fun x o h => by
    obtain ⟨o', e⟩ := a.there x o h
    exact b.there x o' e
  fps := fun x h => (b.fps x h).elim (a.fps x) fun z => .inr (a.none_of z)
  tab := fun h => b.tab (a.tab h)
/-- fewer owned ones behind -/
theorem Step.less (a : Step T F H fp F1 H1 fp1) (h : ∀ x ∈ fp2, x ∈ fp1) : Step T F H fp F1 H1 fp2 :=
  ⟨a.mono, a.new, a.kept, a.there, fun x q => a.fps x (h x q), a.tab⟩
/-- more owned ones ahead -/
theorem Step.more (a : Step T F H fp F1 H1 fp1) (h : ∀ x ∈ fp, x ∈ fq) : Step T F H fq F1 H1 fp1 :=
  ⟨a.mono, fun x q => (a.new x q).imp id (Or.imp (h x) id), fun x o e m c => a.kept x o e m (c.imp (fun n z => n (h x z)) id), a.there, fun x q => (a.fps x q).imp (h x) id, a.tab⟩
/-- a part that nobody touches, beside -/
theorem Step.frame (a : Step T F H fp F1 H1 fp1) (fr : List Addr) : Step T F H (fr ++ fp) F1 H1 (fr ++ fp1) :=
  ⟨a.mono, fun x q => (a.new x q).imp id (Or.imp (List.mem_append_right _) id), fun x o e m c => a.kept x o e m (c.imp (fun n z => n (List.mem_append_right _ z)) id), a.there,
    fun x q => (List.mem_append.mp q).elim (fun z => .inl (List.mem_append_left _ z)) fun z => (a.fps x z).imp (List.mem_append_right _) id, a.tab⟩
/-- the tables stand where they and the code objects stand -/
theorem tabs_of (h : ∀ a o, H a = some o → ¬ NTb o ∨ (∃ p, o = .ext p) → H1 a = some o) : LamX.Tabs T H → LamX.Tabs T H1 := fun t p hp => by
  obtain ⟨ps, h1, h2, h3⟩ := t p hp
  refine ⟨ps, h _ _ h1 (.inl fun z => z), h2, fun pos cv hc => ?_⟩
  obtain ⟨c, e1, e2⟩ := h3 pos cv hc
  exact ⟨c, e1, h _ _ e2 (.inr ⟨_, rfl⟩)⟩
theorem tabs_new {p : Addr} {o : HO} (hp : H p = none) : LamX.Tabs T H → LamX.Tabs T (upd H p o) := tabs_of fun a u e _ => by rw [upd_ne (ne_of_none e hp)]; exact e
/-- a kind of object that is changed in place -/
def Chg : HO → Prop
  | .lst _ => True
  | .dK _ => True
  | .dT _ => True
  | .ins _ _ _ => True
  | .set _ _ => True
  | _ => False
/-- no table, nothing opaque -/
def NTE : HO → Prop
  | .tbl _ => False
  | .ext _ => False
  | _ => True
theorem Chg.mut {o : HO} (c : Chg o) : MutK o := by cases o <;> first | trivial | exact c.elim
theorem Chg.nte {o : HO} (c : Chg o) : NTE o := by cases o <;> first | trivial | exact c.elim
theorem tabs_put {p : Addr} {u o : HO} (hp : H p = some u) (c : NTE u) : LamX.Tabs T H → LamX.Tabs T (upd H p o) := tabs_of fun a v e k => by
  by_cases z : a = p
  · rw [z, hp] at e
    cases e
    rcases k with k | ⟨q, k⟩
    · cases u <;> first | exact absurd trivial k | exact c.elim
    · rw [k] at c; exact c.elim
  · rw [upd_ne z]; exact e
/-- what stands, but for tables -/
theorem Step.keep (s : Step T F H fp F1 H1 fp1) (a : Addr) (o : HO) (e : H a = some o) (c : a ∉ fp ∨ ¬ MutK o) (n : NTb o := by first | trivial | assumption | exact ntb_n (by assumption) | exact ntb_li (by assumption) | exact ntb_dk (by assumption)) : H1 a = some o := s.kept a o e n c
end

section
variable {T : List (Addr × Str)} {K : PySem.W.Frag} {ca : Cax} {F F' : Addr → Prop} {H H' : Hp} {fp fp' : List Addr}

theorem RpL.length : ∀ {vs : List V} {ds : List D} {fr : List Addr}, RpL K ca F H vs ds fr → vs.length = ds.length
  | _, _, _, .nil => rfl
  | _, _, _, .cons _ t => by simp [RpL.length t]

mutual
/-- what it owns stands in H, is of a kind that may change, is not shared -/
theorem Rp.own : ∀ {d : D} {v : V} {fr : List Addr}, Rp K ca F H v d fr → ∀ a ∈ fr, ¬ F a ∧ ∃ o, H a = some o ∧ MutK o
  | .non, _, _, .non => fun a h => by cases h
  | .bl _, _, _, .bl _ => fun a h => by cases h
  | .int _, _, _, .int _ => fun a h => by cases h
  | .str _, _, _, .str _ => fun a h => by cases h
  | .opq _, _, _, .opq _ => fun a h => by cases h
  | .cls _, _, _, .cls _ => fun a h => by cases h
  | .exc c fs ds, _, _, .exc _ _ _ r => fun a h => by cases h
  | .scr _, _, _, .scr _ => fun a h => by cases h
  | .tup ds, _, _, .tup _ r => fun a h => by cases h
  | .tpo ds, _, _, .tpo _ r => RpL.own r
  | .lst false ds, _, _, .lfz _ _ r => fun a h => by cases h
  | .lst true ds, _, _, .low e n r => fun a h => by
    have z : a = _ := List.mem_singleton.mp h
    subst z; exact ⟨n, _, e, trivial⟩
  | .lso ds, _, _, .lso e n r => fun a h => by
    rcases List.mem_cons.mp h with z | z
    · subst z; exact ⟨n, _, e, trivial⟩
    · exact RpL.own r a z
  | .dct false ks ds, _, _, .dfz _ _ _ r => fun a h => by cases h
  | .dct true ks ds, _, _, .dow e n _ r => fun a h => by
    have z : a = _ := List.mem_singleton.mp h
    subst z; exact ⟨n, _, e, trivial⟩
  | .dcu false ks ds, _, _, .ufz _ _ _ r => fun a h => by cases h
  | .dcu true ks ds, _, _, .uow e n _ r => fun a h => by
    have z : a = _ := List.mem_singleton.mp h
    subst z; exact ⟨n, _, e, trivial⟩
  | .ins false c fs ds, _, _, .ifz _ _ _ r => fun a h => by cases h
  | .ins true c fs ds, _, _, .iow e n _ r => fun a h => by
    have z : a = _ := List.mem_singleton.mp h
    subst z; exact ⟨n, _, e, trivial⟩
theorem RpL.own : ∀ {ds : List D} {vs : List V} {fr : List Addr}, RpL K ca F H vs ds fr → ∀ a ∈ fr, ¬ F a ∧ ∃ o, H a = some o ∧ MutK o
  | [], _, _, .nil => fun a h => by cases h
  | _ :: _, _, _, .cons r t => fun a h => by
    rcases List.mem_append.mp h with z | z
    · exact Rp.own r a z
    · exact RpL.own t a z
end
theorem Rp.free {d : D} {v : V} {fr : List Addr} (r : Rp K ca F H v d fr) (h : isOw d = false) : fr = [] := by
  cases r <;> first | rfl | (simp [isOw] at h)

theorem sqX_keep {a : Addr} {vs : List V} (k : ∀ a o, H a = some o → ¬ MutK o → H' a = some o) (h : SqX K H a vs) : SqX K H' a vs := by
  rcases h with ⟨o, h, h1⟩ | h
  · exact .inl ⟨o, k a _ h (fun z => z), h1⟩
  · exact .inr h
theorem sqT_keep {a : Addr} {vs : List V} (k : ∀ a o, H a = some o → ¬ MutK o → H' a = some o) (h : SqT K H a vs) : SqT K H' a vs := by
  rcases h with (h | ⟨o, h⟩) | h
  · exact .inl (.inl (k a _ h (fun z => z)))
  · exact .inl (.inr ⟨o, k a _ h (fun z => z)⟩)
  · exact .inr h
theorem rd_keep {a : Addr} {u : HO} (k : ∀ o, H a = some o → NTb o → H' a = some o) (h : Rd H a u) (d : DK u) : Rd H' a u := by
  rcases h with h | ⟨o, h⟩
  · exact .inl (k _ h (ntb_dk d))
  · exact .inr ⟨o, k _ h trivial⟩

mutual
/-- it stands on where what it needs stands -/
theorem Rp.keep (k1 : ∀ a o, H a = some o → ¬ MutK o → H' a = some o) (k2 : ∀ a o, F a → H a = some o → LI o → H' a = some o) (kd : ∀ a u, F a → Rd H a u → DK u → Rd H' a u) (k3 : ∀ a, F a → F' a) : ∀ {d : D} {v : V} {fr : List Addr}, Rp K ca F H v d fr →
    (∀ a ∈ fr, ∀ o, H a = some o → NTb o → H' a = some o) → (∀ a ∈ fr, ¬ F' a) → Rp K ca F' H' v d fr
  | .non, _, _, .non, _, _ => .non
  | .bl _, _, _, .bl _, _, _ => .bl _
  | .int _, _, _, .int _, _, _ => .int _
  | .str _, _, _, .str _, _, _ => .str _
  | .opq _, _, _, .opq _, _, _ => .opq _
  | .cls _, _, _, .cls _, _, _ => .cls _
  | .exc c fs ds, _, _, .exc e x l r, h1, h2 => .exc (k1 _ _ e exO_mut) (xdAt_keep k1 x) l (RpL.keep k1 k2 kd k3 r h1 h2)
  | .scr _, _, _, .scr e, _, _ => .scr (e.imp (fun ⟨o, e⟩ => ⟨o, k1 _ _ e (fun z => z)⟩) id)
  | .tup ds, _, _, .tup e r, h1, h2 => .tup (sqX_keep k1 e) (RpL.keep k1 k2 kd k3 r h1 h2)
  | .tpo ds, _, _, .tpo e r, h1, h2 => .tpo (sqX_keep k1 e) (RpL.keep k1 k2 kd k3 r h1 h2)
  | .lso ds, _, _, .lso e n r, h1, h2 => .lso (h1 _ List.mem_cons_self _ e trivial) (h2 _ List.mem_cons_self) (RpL.keep k1 k2 kd k3 r (fun a z => h1 a (List.mem_cons_of_mem _ z)) fun a z => h2 a (List.mem_cons_of_mem _ z))
  | .lst false ds, _, _, .lfz e f r, h1, h2 => .lfz (k2 _ _ f e trivial) (k3 _ f) (RpL.keep k1 k2 kd k3 r h1 h2)
  | .lst true ds, _, _, .low e n r, h1, h2 => .low (h1 _ List.mem_cons_self _ e trivial) (h2 _ List.mem_cons_self) (RpL.keep k1 k2 kd k3 r (fun a z => nomatch z) fun a z => nomatch z)
  | .dct false ks ds, _, _, .dfz e f l r, h1, h2 => .dfz (kd _ _ f e trivial) (k3 _ f) l (RpL.keep k1 k2 kd k3 r h1 h2)
  | .dct true ks ds, _, _, .dow e n l r, h1, h2 => .dow (h1 _ List.mem_cons_self _ e trivial) (h2 _ List.mem_cons_self) l (RpL.keep k1 k2 kd k3 r (fun a z => nomatch z) fun a z => nomatch z)
  | .dcu false ks ds, _, _, .ufz e f l r, h1, h2 => .ufz (kd _ _ f e trivial) (k3 _ f) l (RpL.keep k1 k2 kd k3 r h1 h2)
  | .dcu true ks ds, _, _, .uow e n l r, h1, h2 => .uow (h1 _ List.mem_cons_self _ e trivial) (h2 _ List.mem_cons_self) l (RpL.keep k1 k2 kd k3 r (fun a z => nomatch z) fun a z => nomatch z)
  | .ins false c fs ds, _, _, .ifz e f l r, h1, h2 => .ifz (k2 _ _ f e trivial) (k3 _ f) l (RpL.keep k1 k2 kd k3 r h1 h2)
  | .ins true c fs ds, _, _, .iow e n l r, h1, h2 => .iow (h1 _ List.mem_cons_self _ e trivial) (h2 _ List.mem_cons_self) l (RpL.keep k1 k2 kd k3 r (fun a z => nomatch z) fun a z => nomatch z)
theorem RpL.keep (k1 : ∀ a o, H a = some o → ¬ MutK o → H' a = some o) (k2 : ∀ a o, F a → H a = some o → LI o → H' a = some o) (kd : ∀ a u, F a → Rd H a u → DK u → Rd H' a u) (k3 : ∀ a, F a → F' a) : ∀ {ds : List D} {vs : List V} {fr : List Addr}, RpL K ca F H vs ds fr →
    (∀ a ∈ fr, ∀ o, H a = some o → NTb o → H' a = some o) → (∀ a ∈ fr, ¬ F' a) → RpL K ca F' H' vs ds fr
  | [], _, _, .nil, _, _ => .nil
  | _ :: _, _, _, .cons r t, h1, h2 => .cons (Rp.keep k1 k2 kd k3 r (fun a z => h1 a (List.mem_append_left _ z)) fun a z => h2 a (List.mem_append_left _ z)) (RpL.keep k1 k2 kd k3 t (fun a z => h1 a (List.mem_append_right _ z)) fun a z => h2 a (List.mem_append_right _ z))
end

/-- through a step that leaves its own ones alone -/
theorem Rp.step {d : D} {v : V} {fr : List Addr} (r : Rp K ca F H v d fr) (s : Step T F H fp F' H' fp') (hF : ∀ a ∈ fp, ¬ F a) (dj : ∀ a ∈ fr, a ∉ fp) : Rp K ca F' H' v d fr := by
  refine r.keep (fun a o e n => s.keep a o e (.inr n)) (fun a o f e _ => s.keep a o e (.inl fun z => hF a z f)) (fun a u f e d => rd_keep (fun o e _ => s.keep a o e (.inl fun z => hF a z f)) e d) s.mono (fun a z o e _ => s.keep a o e (.inl (dj a z))) fun a z f => ?_
  obtain ⟨n, o, e, _⟩ := r.own a z
  rcases s.new a f with y | y | y
  · exact n y
  · exact dj a z y
  · rw [e] at y; cases y
theorem RpL.step {ds : List D} {vs : List V} {fr : List Addr} (r : RpL K ca F H vs ds fr) (s : Step T F H fp F' H' fp') (hF : ∀ a ∈ fp, ¬ F a) (dj : ∀ a ∈ fr, a ∉ fp) : RpL K ca F' H' vs ds fr := by
  refine r.keep (fun a o e n => s.keep a o e (.inr n)) (fun a o f e _ => s.keep a o e (.inl fun z => hF a z f)) (fun a u f e d => rd_keep (fun o e _ => s.keep a o e (.inl fun z => hF a z f)) e d) s.mono (fun a z o e _ => s.keep a o e (.inl (dj a z))) fun a z f => ?_
  obtain ⟨n, o, e, _⟩ := r.own a z
  rcases s.new a f with y | y | y
  · exact n y
  · exact dj a z y
  · rw [e] at y; cases y

theorem RpL.kp (hd : ∀ a, F a → F' a) {ds : List D} {vs : List V} (r : RpL K ca F H vs ds []) : RpL K ca F' H vs ds [] :=
  r.keep (fun _ _ e _ => e) (fun _ _ _ e _ => e) (fun _ _ _ e _ => e) hd (fun a z => nomatch z) fun a z => nomatch z
mutual
/-- shared: its own ones join F -/
theorem Rp.fz (hd : ∀ a, F a → F' a) : ∀ {d : D} {v : V} {fr : List Addr}, Rp K ca F H v d fr → (∀ a ∈ fr, F' a) → Rp K ca F' H v (fz d) []
  | .non, _, _, .non, _ => .non
  | .bl _, _, _, .bl _, _ => .bl _
  | .int _, _, _, .int _, _ => .int _
  | .str _, _, _, .str _, _ => .str _
  | .opq _, _, _, .opq _, _ => .opq _
  | .cls _, _, _, .cls _, _ => .cls _
  | .exc c fs ds, _, _, .exc e x l r, h => .exc e x l (RpL.kp hd r)
  | .scr _, _, _, .scr e, _ => .scr e
  | .tup ds, _, _, .tup e r, h => .tup e (RpL.kp hd r)
  | .tpo ds, _, _, .tpo e r, h => by unfold M.fz; exact .tup e (RpL.fz hd r h)
  | .lso ds, _, _, .lso e n r, h => by unfold M.fz; exact .lfz e (h _ List.mem_cons_self) (RpL.fz hd r fun a z => h a (List.mem_cons_of_mem _ z))
  | .lst false ds, _, _, .lfz e f r, h => .lfz e (hd _ f) (RpL.kp hd r)
  | .lst true ds, _, _, .low e n r, h => .lfz e (h _ List.mem_cons_self) (RpL.kp hd r)
  | .dct false ks ds, _, _, .dfz e f l r, h => .dfz e (hd _ f) l (RpL.kp hd r)
  | .dct true ks ds, _, _, .dow e n l r, h => .dfz (.inl e) (h _ List.mem_cons_self) l (RpL.kp hd r)
  | .dcu false ks ds, _, _, .ufz e f l r, h => .ufz e (hd _ f) l (RpL.kp hd r)
  | .dcu true ks ds, _, _, .uow e n l r, h => .ufz (.inl e) (h _ List.mem_cons_self) l (RpL.kp hd r)
  | .ins false c fs ds, _, _, .ifz e f l r, h => .ifz e (hd _ f) l (RpL.kp hd r)
  | .ins true c fs ds, _, _, .iow e n l r, h => .ifz e (h _ List.mem_cons_self) l (RpL.kp hd r)
theorem RpL.fz (hd : ∀ a, F a → F' a) : ∀ {ds : List D} {vs : List V} {fr : List Addr}, RpL K ca F H vs ds fr → (∀ a ∈ fr, F' a) → RpL K ca F' H vs (fzL ds) []
  | [], _, _, .nil, _ => .nil
  | _ :: _, _, _, .cons r t, h => .cons (fp := []) (fq := []) (Rp.fz hd r fun a z => h a (List.mem_append_left _ z)) (RpL.fz hd t fun a z => h a (List.mem_append_right _ z))
end
mutual
/-- nothing shared in it: F matters for its own ones alone -/
theorem Rp.nfz {F' : Addr → Prop} : ∀ {d : D} {v : V} {fr : List Addr}, Rp K ca F H v d fr → nfz d = true → (∀ a ∈ fr, ¬ F' a) → Rp K ca F' H v d fr
  | .non, _, _, .non, _, _ => .non
  | .bl _, _, _, .bl _, _, _ => .bl _
  | .int _, _, _, .int _, _, _ => .int _
  | .str _, _, _, .str _, _, _ => .str _
  | .opq _, _, _, .opq _, _, _ => .opq _
  | .cls _, _, _, .cls _, _, _ => .cls _
  | .exc c fs ds, _, _, .exc e x l r, h, q => .exc e x l (RpL.nfz r h fun a z => nomatch z)
  | .scr _, _, _, .scr e, h, q => .scr e
  | .tup ds, _, _, .tup e r, h, q => .tup e (RpL.nfz r h q)
  | .tpo ds, _, _, .tpo e r, h, q => .tpo e (RpL.nfz r h q)
  | .lso ds, _, _, .lso e n r, h, q => .lso e (q _ List.mem_cons_self) (RpL.nfz r h fun a z => q a (List.mem_cons_of_mem _ z))
  | .lst false ds, _, _, .lfz e f r, h, q => by simp [M.nfz] at h
  | .lst true ds, _, _, .low e n r, h, q => .low e (q _ List.mem_cons_self) (RpL.nfz r (by simpa [M.nfz] using h) fun a z => nomatch z)
  | .dct false ks ds, _, _, .dfz e f l r, h, q => by simp [M.nfz] at h
  | .dct true ks ds, _, _, .dow e n l r, h, q => .dow e (q _ List.mem_cons_self) l (RpL.nfz r (by simpa [M.nfz] using h) fun a z => nomatch z)
  | .dcu false ks ds, _, _, .ufz e f l r, h, q => by simp [M.nfz] at h
  | .dcu true ks ds, _, _, .uow e n l r, h, q => .uow e (q _ List.mem_cons_self) l (RpL.nfz r (by simpa [M.nfz] using h) fun a z => nomatch z)
  | .ins false c fs ds, _, _, .ifz e f l r, h, q => by simp [M.nfz] at h
  | .ins true c fs ds, _, _, .iow e n l r, h, q => .iow e (q _ List.mem_cons_self) l (RpL.nfz r (by simpa [M.nfz] using h) fun a z => nomatch z)
theorem RpL.nfz {F' : Addr → Prop} : ∀ {ds : List D} {vs : List V} {fr : List Addr}, RpL K ca F H vs ds fr → nfzL ds = true → (∀ a ∈ fr, ¬ F' a) → RpL K ca F' H vs ds fr
  | [], _, _, .nil, _, _ => .nil
  | _ :: _, _, _, .cons r t, h, q => by
    have h' := Bool.and_eq_true_iff.mp h
    exact .cons (Rp.nfz r h'.1 fun a z => q a (List.mem_append_left _ z)) (RpL.nfz t h'.2 fun a z => q a (List.mem_append_right _ z))
end
end
end M
/-! M2: states, what an expression does on data, names, constants, two operands. -/
namespace M
open PySem PySem.Spec PyProof.Rows L2

abbrev Sl := List (Option D)

/-- the slots -/
inductive RpS (K : PySem.W.Frag) (ca : Cax) (F : Addr → Prop) (H : Hp) : L2.St → Sl → List Addr → Prop
  | nil : RpS K ca F H [] [] []
  | no {x : Option V} {σ : L2.St} {ρ : Sl} {fp : List Addr} : RpS K ca F H σ ρ fp → RpS K ca F H (x :: σ) (none :: ρ) fp
  | has {v : V} {d : D} {σ : L2.St} {ρ : Sl} {fr fp : List Addr} : Rp K ca F H v d fr → RpS K ca F H σ ρ fp → RpS K ca F H (some v :: σ) (some d :: ρ) (fr ++ fp)

section
variable {T : List (Addr × Str)} {K : PySem.W.Frag} {ca : Cax} {F F' : Addr → Prop} {H H' : Hp} {σ : L2.St} {ρ : Sl} {fp fp' : List Addr}
theorem RpS.length (h : RpS K ca F H σ ρ fp) : σ.length = ρ.length := by
  induction h with
  | nil => rfl
  | no _ ih => simp [ih]
  | has _ _ ih => simp [ih]
theorem RpS.own (h : RpS K ca F H σ ρ fp) : ∀ a ∈ fp, ¬ F a ∧ ∃ o, H a = some o ∧ MutK o := by
  induction h with
  | nil => intro a z; cases z
  | no _ ih => exact ih
  | has r _ ih =>
    intro a z
    rcases List.mem_append.mp z with z | z
    · exact r.own a z
    · exact ih a z
/-- the slot i: its part of the footprint, and what else may stand there -/
theorem RpS.at_ (h : RpS K ca F H σ ρ fp) : ∀ {i : Nat}, i < ρ.length → ∃ l fr r : List Addr, fp = l ++ fr ++ r ∧
    (∀ d, ρ[i]? = some (some d) → ∃ v, σ[i]? = some (some v) ∧ Rp K ca F H v d fr) ∧ (ρ[i]? = some none → fr = []) ∧
    (∀ x, RpS K ca F H (σ.set i x) (ρ.set i none) (l ++ r)) ∧ ∀ v d fq, Rp K ca F H v d fq → RpS K ca F H (σ.set i (some v)) (ρ.set i (some d)) (l ++ fq ++ r) := by
  induction h with
  | nil => intro i hi; cases hi
  | @no x σ ρ fp h ih =>
    intro i hi
    cases i with
    | zero => exact ⟨[], [], fp, rfl, fun d e => by simp at e, fun _ => rfl, fun x => .no h, fun v d fq r => .has r h⟩
    | succ i =>
      obtain ⟨l, fr, r, e, h1, h2, h3, h4⟩ := ih (i := i) (by simpa using hi)
      exact ⟨l, fr, r, e, h1, h2, fun x => .no (h3 x), fun v d fq q => .no (h4 v d fq q)⟩
  | @has v d σ ρ fr fp r h ih =>
    intro i hi
    cases i with
    | zero => exact ⟨[], fr, fp, rfl, fun d' e => by simp at e; subst e; exact ⟨v, rfl, r⟩, fun e => by simp at e, fun x => .no h, fun v d fq q => .has q h⟩
    | succ i =>
      obtain ⟨l, f2, r2, e, h1, h2, h3, h4⟩ := ih (i := i) (by simpa using hi)
      refine ⟨fr ++ l, f2, r2, by rw [e]; simp [List.append_assoc], h1, h2, fun x => ?_, fun v' d' fq q => ?_⟩
      · have := RpS.has r (h3 x)
        rw [List.append_assoc]
        exact this
      · have := RpS.has r (h4 v' d' fq q)
        rw [List.append_assoc, List.append_assoc, ← List.append_assoc l]
        exact this
theorem RpS.keep (k1 : ∀ a o, H a = some o → ¬ MutK o → H' a = some o) (k2 : ∀ a o, F a → H a = some o → LI o → H' a = some o) (kd : ∀ a u, F a → Rd H a u → DK u → Rd H' a u) (k3 : ∀ a, F a → F' a) (h : RpS K ca F H σ ρ fp)
    (h1 : ∀ a ∈ fp, ∀ o, H a = some o → NTb o → H' a = some o) (h2 : ∀ a ∈ fp, ¬ F' a) : RpS K ca F' H' σ ρ fp := by
  induction h with
  | nil => exact .nil
  | no _ ih => exact .no (ih h1 h2)
  | has r _ ih => exact .has (r.keep k1 k2 kd k3 (fun a z => h1 a (List.mem_append_left _ z)) fun a z => h2 a (List.mem_append_left _ z)) (ih (fun a z => h1 a (List.mem_append_right _ z)) fun a z => h2 a (List.mem_append_right _ z))
theorem RpS.step {fq fq' : List Addr} (r : RpS K ca F H σ ρ fp) (s : Step T F H fq F' H' fq') (hF : ∀ a ∈ fq, ¬ F a) (dj : ∀ a ∈ fp, a ∉ fq) : RpS K ca F' H' σ ρ fp := by
  refine r.keep (fun a o e n => s.keep a o e (.inr n)) (fun a o f e _ => s.keep a o e (.inl fun z => hF a z f)) (fun a u f e d => rd_keep (fun o e _ => s.keep a o e (.inl fun z => hF a z f)) e d) s.mono (fun a z o e _ => s.keep a o e (.inl (dj a z))) fun a z f => ?_
  obtain ⟨n, o, e, _⟩ := r.own a z
  rcases s.new a f with y | y | y
  · exact n y
  · exact dj a z y
  · rw [e] at y; cases y
end

/-- a state: the slots hold the data ρ -/
structure Ok (G : Gc) (F : Addr → Prop) (H : Hp) (σ : L2.St) (ρ : Sl) (fp : List Addr) : Prop where
  rs : RpS G.K G.ca F H σ ρ fp
  nd : fp.Nodup
  dom : ∀ a, F a → ∃ o, H a = some o
  pm : ∀ p ∈ G.pm, σ[p.1]? = some (some p.2)
  rch : Step G.ca.tb G.F0 G.H0 G.fp0 F H fp
/-- a result: data, or what a slot holds -/
def Rr (G : Gc) (F : Addr → Prop) (H : Hp) (σ : L2.St) (v : V) (r : D) (fr : List Addr) : Prop :=
  Rp G.K G.ca F H v r fr ∨ ∃ i, r = .sl i ∧ σ[i]? = some (some v) ∧ fr = []

/-- what an expression does to data: the slots, what is wanted -/
abbrev WE := Sl → (D → Sl → Prop) → Prop
abbrev WT := Sl → (Bool → Sl → Prop) → Prop
abbrev WA := Sl → (List D → Sl → Prop) → Prop
structure EndD where
  nx : Sl → Prop
  rt : D → Sl → Prop
  bk : Sl → Prop := fun _ => False
  ct : Sl → Prop := fun _ => False
abbrev WS := EndD → Sl → Prop

/-- an end reached from (F, H, fp) with the slots' values σ -/
structure En (G : Gc) (F : Addr → Prop) (H : Hp) (fp : List Addr) (σ : L2.St) (F' : Addr → Prop) (H' : Hp) (ρ' : Sl) (fp' fr : List Addr) : Prop where
  st : Step G.ca.tb F H fp F' H' (fr ++ fp')
  ok : Ok G F' H' σ ρ' fp'
  nd : (fr ++ fp').Nodup
def LE (G : Gc) (w : WE) : TE := fun σ H Q => ∃ F ρ fp Qd, Ok G F H σ ρ fp ∧ w ρ Qd ∧
  ∀ v H' F' ρ' fp' r fr, En G F H fp σ F' H' ρ' fp' fr → Rr G F' H' σ v r fr → Qd r ρ' → Q v H'
def LT (G : Gc) (w : WT) : TT := fun σ H Q => ∃ F ρ fp Qd, Ok G F H σ ρ fp ∧ w ρ Qd ∧
  ∀ b H' F' ρ' fp', En G F H fp σ F' H' ρ' fp' [] → Qd b ρ' → Q b H'
/-- results of an argument list -/
inductive RrL (G : Gc) (F : Addr → Prop) (H : Hp) (σ : L2.St) : List V → List D → List Addr → Prop
  | nil : RrL G F H σ [] [] []
  | cons {v : V} {vs : List V} {d : D} {ds : List D} {fp fq : List Addr} : Rr G F H σ v d fp → RrL G F H σ vs ds fq → RrL G F H σ (v :: vs) (d :: ds) (fp ++ fq)
def LA (G : Gc) (w : WA) : TA := fun σ H Q => ∃ F ρ fp Qd, Ok G F H σ ρ fp ∧ w ρ Qd ∧
  ∀ vs H' F' ρ' fp' rs fr, En G F H fp σ F' H' ρ' fp' fr → RrL G F' H' σ vs rs fr → Qd rs ρ' → Q vs H'
structure EnS (G : Gc) (F : Addr → Prop) (H : Hp) (fp : List Addr) (Dd : EndD) (D : Ends) : Prop where
  nx : ∀ σ' H' F' ρ' fp', Step G.ca.tb F H fp F' H' fp' → Ok G F' H' σ' ρ' fp' → Dd.nx ρ' → D.nx σ' H'
  rt : ∀ v σ' H' F' ρ' fp' r fr, Step G.ca.tb F H fp F' H' (fr ++ fp') → Ok G F' H' σ' ρ' fp' → (fr ++ fp').Nodup → Rr G F' H' σ' v r fr → Dd.rt r ρ' → D.rt v H'
  bk : ∀ σ' H' F' ρ' fp', Step G.ca.tb F H fp F' H' fp' → Ok G F' H' σ' ρ' fp' → Dd.bk ρ' → D.bk σ' H'
  ct : ∀ σ' H' F' ρ' fp', Step G.ca.tb F H fp F' H' fp' → Ok G F' H' σ' ρ' fp' → Dd.ct ρ' → D.ct σ' H'
def LS (G : Gc) (w : WS) : TS := fun D σ H => ∃ F ρ fp Dd, Ok G F H σ ρ fp ∧ w Dd ρ ∧ EnS G F H fp Dd D

/-! ### weakening of readings -/
section
variable {X : Cx}
theorem imE {e : Expr} {t u : TE} (h : PE X e t) (i : ∀ σ H Q, u σ H Q → t σ H Q) : PE X e u := ⟨fun pins s σ H Q I q => h.run pins s σ H Q I (i σ H Q q)⟩
theorem imT {e : Expr} {t u : TT} (h : PT X e t) (i : ∀ σ H Q, u σ H Q → t σ H Q) : PT X e u := ⟨fun pins s σ H Q I q => h.run pins s σ H Q I (i σ H Q q)⟩
theorem imA {e : List Expr} {t u : TA} (h : PA X e t) (i : ∀ σ H Q, u σ H Q → t σ H Q) : PA X e u := ⟨fun pos pins s σ H Q I q => h.run pos pins s σ H Q I (i σ H Q q)⟩
theorem imS {e : Stmt} {t u : TS} (h : PS X e t) (i : ∀ D σ H, u D σ H → t D σ H) : PS X e u := ⟨fun pins s σ H D I q => h.run pins s σ H D I (i D σ H q)⟩
theorem imSs {e : List Stmt} {t u : TS} (h : PSs X e t) (i : ∀ D σ H, u D σ H → t D σ H) : PSs X e u := ⟨fun pins s σ H D I q => h.run pins s σ H D I (i D σ H q)⟩
end

section
variable {G : Gc} {F F' F1 F2 : Addr → Prop} {H H' H1 H2 : Hp} {σ : L2.St} {ρ ρ' ρ1 ρ2 : Sl} {fp fp' fp1 fp2 fr fr1 fr2 : List Addr} {v v1 v2 : V} {r r1 r2 : D}

theorem Ok.nf (o : Ok G F H σ ρ fp) : ∀ a ∈ fp, ¬ F a := fun a z => (o.rs.own a z).1
theorem nodup_r {l r : List Addr} (h : (l ++ r).Nodup) : r.Nodup := (List.nodup_append.mp h).2.1
theorem nodup_l {l r : List Addr} (h : (l ++ r).Nodup) : l.Nodup := (List.nodup_append.mp h).1
theorem nodup_d {l r : List Addr} (h : (l ++ r).Nodup) : ∀ a ∈ l, a ∉ r := fun a z y => (List.nodup_append.mp h).2.2 a z a y rfl
theorem nodup_of {l r : List Addr} (h1 : l.Nodup) (h2 : r.Nodup) (h3 : ∀ a ∈ l, a ∉ r) : (l ++ r).Nodup := List.nodup_append.mpr ⟨h1, h2, fun a z b y e => h3 a z (e ▸ y)⟩

theorem En.refl (o : Ok G F H σ ρ fp) : En G F H fp σ F H ρ fp [] := ⟨.refl, o, by simpa using o.nd⟩
/-- one end behind another one; the first one's result is carried -/
theorem En.trans (a : En G F H fp σ F1 H1 ρ1 fp1 fr1) (b : En G F1 H1 fp1 σ F2 H2 ρ2 fp2 fr2) (h1 : ∀ x ∈ fr1, ∃ o, H1 x = some o) : En G F H fp σ F2 H2 ρ2 fp2 (fr1 ++ fr2) where
  st := by
    have q := b.st.frame fr1
    rw [← List.append_assoc] at q
    exact a.st.trans q
  ok := b.ok
  nd := by
    rw [List.append_assoc]
    refine nodup_of (nodup_l a.nd) b.nd fun x z y => ?_
    rcases b.st.fps x y with w | w
    · exact nodup_d a.nd x z w
    · obtain ⟨o, e⟩ := h1 x z
      rw [e] at w; cases w
theorem Rr.own (h : Rr G F H σ v r fr) : ∀ a ∈ fr, ¬ F a ∧ ∃ o, H a = some o ∧ MutK o := by
  rcases h with h | ⟨i, _, _, e⟩
  · exact h.own
  · subst e; intro a z; cases z
theorem Rr.dom (h : Rr G F H σ v r fr) : ∀ a ∈ fr, ∃ o, H a = some o := fun a z => let ⟨_, o, e, _⟩ := h.own a z; ⟨o, e⟩
theorem Rr.step (h : Rr G F H σ v r fr) (s : Step G.ca.tb F H fp F' H' fp') (hF : ∀ a ∈ fp, ¬ F a) (dj : ∀ a ∈ fr, a ∉ fp) : Rr G F' H' σ v r fr := by
  rcases h with h | h
  · exact .inl (h.step s hF dj)
  · exact .inr h
theorem RrL.step {vs : List V} {rs : List D} (h : RrL G F H σ vs rs fr) (s : Step G.ca.tb F H fp F' H' fp') (hF : ∀ a ∈ fp, ¬ F a) (dj : ∀ a ∈ fr, a ∉ fp) : RrL G F' H' σ vs rs fr := by
  induction h with
  | nil => exact .nil
  | cons r _ ih => exact .cons (r.step s hF fun a z => dj a (List.mem_append_left _ z)) (ih fun a z => dj a (List.mem_append_right _ z))
theorem RrL.own {vs : List V} {rs : List D} (h : RrL G F H σ vs rs fr) : ∀ a ∈ fr, ¬ F a ∧ ∃ o, H a = some o ∧ MutK o := by
  induction h with
  | nil => intro a z; cases z
  | cons r _ ih =>
    intro a z
    rcases List.mem_append.mp z with z | z
    · exact r.own a z
    · exact ih a z

/-- a reading, from data -/
theorem LE.mk (o : Ok G F H σ ρ fp) {w : WE} {Qd : D → Sl → Prop} {Q : VK} (h : w ρ Qd) (k : ∀ v H' F' ρ' fp' r fr, En G F H fp σ F' H' ρ' fp' fr → Rr G F' H' σ v r fr → Qd r ρ' → Q v H') : LE G w σ H Q := ⟨F, ρ, fp, Qd, o, h, k⟩

/-! ### names, constants -/
def rd (i : Nat) (d : D) : D := if isOw d then .sl i else d
def wVar (i : Nat) : WE := fun ρ Q => ∃ d, ρ[i]? = some (some d) ∧ Q (rd i d) ρ
def wC (d : D) : WE := fun ρ Q => Q d ρ
theorem le_var {X : Cx} {e : Expr} {i : Nat} (h : PE X e (tVar i)) : PE X e (LE G (wVar i)) := imE h fun σ H Q q => by
  obtain ⟨F, ρ, fp, Qd, o, ⟨d, e, q⟩, k⟩ := q
  obtain ⟨l, fr, r, e1, h1, _, _, _⟩ := o.rs.at_ (i := i) (by rw [List.getElem?_eq_some_iff] at e; exact e.1)
  obtain ⟨v, ev, rp⟩ := h1 d e
  refine ⟨v, ev, k v H F ρ fp (rd i d) [] (En.refl o) ?_ q⟩
  unfold rd
  cases hd : isOw d with
  | true => exact .inr ⟨i, by simp, ev, rfl⟩
  | false =>
    have := rp.free hd
    subst this
    exact .inl (by simpa using rp)
theorem le_c {X : Cx} {e : Expr} {v : V} {d : D} (h : PE X e (tC v)) (r : ∀ K ca F H, Rp K ca F H v d []) : PE X e (LE G (wC d)) := imE h fun σ H Q q => by
  obtain ⟨F, ρ, fp, Qd, o, q, k⟩ := q
  exact k v H F ρ fp d [] (En.refl o) (.inl (r _ _ _ _)) q
theorem d_int {X : Cx} {i j pos} : PE X (.Constant (.int i) j pos) (LE G (wC (.int i))) := le_c pe_int fun _ _ _ _ => .int i
theorem d_bl {X : Cx} {b j pos} : PE X (.Constant (.bool b) j pos) (LE G (wC (.bl b))) := le_c pe_bl fun _ _ _ _ => .bl b
theorem d_non {X : Cx} {j pos} : PE X (.Constant .none j pos) (LE G (wC .non)) := le_c pe_non fun _ _ _ _ => .non
theorem d_str {X : Cx} {x j pos} : PE X (.Constant (.str x) j pos) (LE G (wC (.str x))) := le_c pe_str fun _ _ _ _ => .str x

/-- what a result is, seen without taking it -/
def pk (ρ : Sl) : D → Option D
  | .sl i => (ρ[i]?).join
  | d => some d
/-- a result seen: it stands for d, whose own ones are the slots' or the result's -/
theorem Rr.see (o : Ok G F H σ ρ fp) (h : Rr G F H σ v r fr) {d : D} (e : pk ρ r = some d) : ∃ fs, Rp G.K G.ca F H v d fs ∧ ∀ a ∈ fs, a ∈ fr ++ fp := by
  rcases h with h | ⟨i, rfl, ev, rfl⟩
  · have : pk ρ r = some r := by cases h <;> rfl
    rw [this] at e
    cases e
    exact ⟨fr, h, fun a z => List.mem_append_left _ z⟩
  · have e' : ρ[i]? = some (some d) := by
      have : (ρ[i]?).join = some d := e
      cases q : ρ[i]? with
      | none => rw [q] at this; cases this
      | some x => rw [q] at this; cases x with
        | none => cases this
        | some y => cases this; rfl
    obtain ⟨l, fs, r, e1, h1, _, _, _⟩ := o.rs.at_ (i := i) (by rw [List.getElem?_eq_some_iff] at e'; exact e'.1)
    obtain ⟨v', ev', rp⟩ := h1 d e'
    rw [ev] at ev'; cases ev'
    exact ⟨fs, rp, fun a z => by rw [e1]; simp [z]⟩

/-! ### two operands -/
/-- an operation on results that changes nothing but may make new things: the slots, the operands, what is wanted of the (plain or owned) value -/
abbrev O2 := Sl → D → D → (D → Prop) → Prop
def wOp (o : O2) (wa wb : WE) : WE := fun ρ Q => wa ρ fun x ρ1 => wb ρ1 fun y ρ2 => o ρ2 x y fun d => Q d ρ2
/-- o is a reading of r -/
def O2Ok (G : Gc) (r : R2) (o : O2) : Prop := ∀ (F : Addr → Prop) (H : Hp) (σ : L2.St) (ρ : Sl) (fp : List Addr) (v1 v2 : V) (x y : D) (f1 f2 : List Addr) (Kd : D → Prop) (Q : VK),
  Ok G F H σ ρ fp → Rr G F H σ v1 x f1 → Rr G F H σ v2 y f2 → (f1 ++ f2 ++ fp).Nodup → o ρ x y Kd →
  (∀ v H' F' d fr, En G F H fp σ F' H' ρ fp fr → Rp G.K G.ca F' H' v d fr → Kd d → Q v H') → r v1 v2 H Q
theorem bin2 {wa wb : WE} {k : D → D → Sl → Prop} {R : V → V → Hp → Prop} (o : Ok G F H σ ρ fp) (h : wa ρ fun x ρ1 => wb ρ1 fun y ρ2 => k x y ρ2)
    (hk : ∀ v1 v2 H2 F2 ρ2 fp2 x y f1 f2, En G F H fp σ F2 H2 ρ2 fp2 (f1 ++ f2) → Rr G F2 H2 σ v1 x f1 → Rr G F2 H2 σ v2 y f2 → k x y ρ2 → R v1 v2 H2) :
    LE G wa σ H fun v1 H1 => LE G wb σ H1 fun v2 H2 => R v1 v2 H2 := by
  refine ⟨F, ρ, fp, _, o, h, fun v1 H1 F1 ρ1 fp1 x f1 en1 rr1 q1 => ?_⟩
  refine ⟨F1, ρ1, fp1, _, en1.ok, q1, fun v2 H2 F2 ρ2 fp2 y f2 en2 rr2 q2 => ?_⟩
  exact hk v1 v2 H2 F2 ρ2 fp2 x y f1 f2 (en1.trans en2 rr1.dom) (rr1.step en2.st en1.ok.nf (nodup_d en1.nd)) rr2 q2
/-- the results' own ones are dropped -/
theorem En.drop (a : En G F H fp σ F1 H1 ρ1 fp1 fr1) (b : En G F1 H1 fp1 σ F2 H2 ρ2 fp2 fr2) : En G F H fp σ F2 H2 ρ2 fp2 fr2 where
  st := (a.st.less (fp2 := fp1) fun x z => List.mem_append_right _ z).trans b.st
  ok := b.ok
  nd := b.nd
theorem LE.op {r : R2} {o : O2} {wa wb : WE} (ho : O2Ok G r o) : ∀ σ H Q, LE G (wOp o wa wb) σ H Q → tOp r (LE G wa) (LE G wb) σ H Q := fun σ H Q q => by
  obtain ⟨F, ρ, fp, Qd, ok, h, k⟩ := q
  refine bin2 (k := fun x y ρ2 => o ρ2 x y fun d => Qd d ρ2) ok h fun v1 v2 H2 F2 ρ2 fp2 x y f1 f2 en r1 r2 q => ?_
  refine ho F2 H2 σ ρ2 fp2 v1 v2 x y f1 f2 (fun d => Qd d ρ2) Q en.ok r1 r2 en.nd q fun v H' F' d fr en' rp qd => ?_
  exact k v H' F' ρ2 fp2 d fr (en.drop en') (.inl rp) qd
theorem d_op {X : Cx} {op : Operator} {r : R2} {o : O2} {a b : Expr} {wa wb : WE} {pos : Pos} (hr : OpR X (binaryOp op) r) (ho : O2Ok G r o) (ha : PE X a (LE G wa)) (hb : PE X b (LE G wb)) : PE X (.BinOp a op b pos) (LE G (wOp o wa wb)) :=
  imE (pe_op hr ha hb) (LE.op ho)
theorem d_cmp {X : Cx} {op : CmpOp} {r : R2} {o : O2} {a b : Expr} {wa wb : WE} {pos : Pos} (hr : OpR X (compareOp op) r) (ho : O2Ok G r o) (ha : PE X a (LE G wa)) (hb : PE X b (LE G wb)) (hm : behindInMarks op b = false) : PE X (.Compare a [op] [b] pos) (LE G (wOp o wa wb)) :=
  imE (pe_cmpR hr ha hb hm) (LE.op ho)
/-- either of two rules -/
theorem OpR.or {X : Cx} {f : Value → Value → Sem Value} {r s : R2} (h1 : OpR X f r) (h2 : OpR X f s) : OpR X f fun x y H Q => r x y H Q ∨ s x y H Q := fun pins s σ H x y u v Q I rx ry h => by
  rcases h with h | h
  · exact h1 pins s σ H x y u v Q I rx ry h
  · exact h2 pins s σ H x y u v Q I rx ry h
def oOr (o p : O2) : O2 := fun ρ x y K => o ρ x y K ∨ p ρ x y K
theorem O2Ok.or {r s : R2} {o p : O2} (h1 : O2Ok G r o) (h2 : O2Ok G s p) : O2Ok G (fun x y H Q => r x y H Q ∨ s x y H Q) (oOr o p) := fun F H σ ρ fp v1 v2 x y f1 f2 Kd Q ok r1 r2 nd h k => by
  rcases h with h | h
  · exact .inl (h1 F H σ ρ fp v1 v2 x y f1 f2 Kd Q ok r1 r2 nd h k)
  · exact .inr (h2 F H σ ρ fp v1 v2 x y f1 f2 Kd Q ok r1 r2 nd h k)
end
end M
/-! M3: operators and comparisons on data. -/
namespace M
open PySem PySem.Spec PyProof.Rows L2

section
variable {G : Gc} {F F' F1 F2 : Addr → Prop} {H H' H1 H2 : Hp} {σ : L2.St} {ρ ρ' ρ1 ρ2 : Sl} {fp fp' fp1 fp2 fr fr1 fr2 : List Addr} {v v1 v2 : V} {r r1 r2 : D} {p : Addr} {o : HO}

theorem step_new {T : List (Addr × Str)} (hp : H p = none) : Step T F H [] F (upd H p o) [p] where
  mono := fun _ h => h
  new := fun _ h => .inl h
  kept := fun a u e _ _ => by rw [upd_ne (ne_of_none e hp)]; exact e
  there := fun a u e => ⟨u, by rw [upd_ne (ne_of_none e hp)]; exact e⟩
  fps := fun a h => .inr (by rw [List.mem_singleton.mp h]; exact hp)
  tab := tabs_new hp
theorem Ok.not_none (ok : Ok G F H σ ρ fp) (hp : H p = none) : ¬ F p ∧ p ∉ fp := by
  refine ⟨fun f => ?_, fun z => ?_⟩
  · obtain ⟨o, e⟩ := ok.dom p f; rw [hp] at e; cases e
  · obtain ⟨_, o, e, _⟩ := ok.rs.own p z; rw [hp] at e; cases e
/-- the state through a step that leaves the slots' own ones alone -/
theorem Ok.step {fq fq' : List Addr} (ok : Ok G F H σ ρ fp) (s : Step G.ca.tb F H fq F' H' fq') (hF : ∀ a ∈ fq, ¬ F a) (dj : ∀ a ∈ fp, a ∉ fq) (dm : ∀ a, F' a → ∃ o, H' a = some o) (hr : Step G.ca.tb G.F0 G.H0 G.fp0 F' H' fp) : Ok G F' H' σ ρ fp :=
  ⟨ok.rs.step s hF dj, ok.nd, dm, ok.pm, hr⟩
/-- what is new is reached -/
theorem step_new2 {T : List (Addr × Str)} (hp : H p = none) : Step T F H fp F (upd H p o) (p :: fp) where
  mono := fun _ h => h
  new := fun _ h => .inl h
  kept := fun a u e _ _ => by rw [upd_ne (ne_of_none e hp)]; exact e
  there := fun a u e => ⟨u, by rw [upd_ne (ne_of_none e hp)]; exact e⟩
  fps := fun a h => by
    rcases List.mem_cons.mp h with z | z
    · rw [z]; exact .inr hp
    · exact .inl z
  tab := tabs_new hp
theorem Ok.new (ok : Ok G F H σ ρ fp) (hp : H p = none) : Ok G F (upd H p o) σ ρ fp :=
  ok.step (step_new (F := F) hp) (fun a z => nomatch z) (fun a _ z => nomatch z) (fun a f => let ⟨u, e⟩ := ok.dom a f; ⟨u, by rw [upd_ne (ne_of_none e hp)]; exact e⟩) (ok.rch.trans ((step_new2 hp).less fun a z => List.mem_cons_of_mem _ z))
/-- a new owned object -/
theorem En.own (ok : Ok G F H σ ρ fp) (hp : H p = none) : En G F H fp σ F (upd H p o) ρ fp [p] where
  st := (step_new (F := F) (o := o) hp).more (fq := fp) (fun a z => nomatch z) |>.less (fp2 := [p]) (fun a z => z) |> fun s => by
    refine ⟨s.mono, s.new, s.kept, s.there, fun a z => ?_, s.tab⟩
    rcases List.mem_append.mp z with z | z
    · exact s.fps a z
    · exact .inl z
  ok := ok.new hp
  nd := nodup_of (by simp) ok.nd fun a z => by rw [List.mem_singleton.mp z]; exact (ok.not_none hp).2
/-- a new object that nobody owns (a tuple) -/
theorem En.tup (ok : Ok G F H σ ρ fp) (hp : H p = none) : En G F H fp σ F (upd H p o) ρ fp [] where
  st := (En.own (o := o) ok hp).st.less fun a z => List.mem_append_right _ z
  ok := ok.new hp
  nd := by simpa using ok.nd
theorem RpL.new {K : PySem.W.Frag} {ca : Cax} {vs : List V} {ds : List D} (h : RpL K ca F H vs ds fr) (hp : H p = none) : RpL K ca F (upd H p o) vs ds fr := h.step (step_new (T := []) (F := F) hp) (fun a z => nomatch z) fun a _ z => nomatch z
theorem Rp.new {K : PySem.W.Frag} {ca : Cax} {v : V} {d : D} (h : Rp K ca F H v d fr) (hp : H p = none) : Rp K ca F (upd H p o) v d fr := h.step (step_new (T := []) (F := F) hp) (fun a z => nomatch z) fun a _ z => nomatch z

/-! ### what is seen of lists and tuples -/
/-- the items of a list or tuple -/
def its : D → Option (List D)
  | .tup xs => some xs
  | .lst _ xs => some xs
  | _ => none
theorem RpL.nil_of {K : PySem.W.Frag} {ca : Cax} {d : D} {ds : List D} {v : V} {vs : List V} (h : RpL K ca F H (v :: vs) (d :: ds) []) : Rp K ca F H v d [] ∧ RpL K ca F H vs ds [] := by
  generalize e : ([] : List Addr) = z at h
  cases h with
  | cons r t =>
    obtain ⟨e1, e2⟩ := List.append_eq_nil_iff.mp e.symm
    subst e1; subst e2
    exact ⟨r, t⟩
theorem RpL.app {K : PySem.W.Frag} {ca : Cax} : ∀ {ds es : List D} {vs us : List V}, RpL K ca F H vs ds [] → RpL K ca F H us es [] → RpL K ca F H (vs ++ us) (ds ++ es) []
  | [], es, [], us, _, h => h
  | d :: ds, es, v :: vs, us, h, h' => by
    obtain ⟨r, t⟩ := h.nil_of
    exact .cons (fp := []) (fq := []) r (RpL.app t h')
theorem RpL.at_ {K : PySem.W.Frag} {ca : Cax} : ∀ {ds : List D} {vs : List V}, RpL K ca F H vs ds [] → ∀ {i : Nat} {d : D}, ds[i]? = some d → ∃ v, vs[i]? = some v ∧ Rp K ca F H v d []
  | [], _, _, i, d, e => by simp at e
  | x :: ds, v :: vs, h, 0, d, e => by
    simp at e; subst e
    exact ⟨v, rfl, h.nil_of.1⟩
  | x :: ds, v :: vs, h, i + 1, d, e => by
    obtain ⟨v', e1, r⟩ := RpL.at_ h.nil_of.2 (i := i) (d := d) (by simpa using e)
    exact ⟨v', by simpa using e1, r⟩
theorem RpL.at_v {K : PySem.W.Frag} {ca : Cax} : ∀ {ds : List D} {vs : List V}, RpL K ca F H vs ds [] → ∀ {i : Nat} {v : V}, vs[i]? = some v → ∃ d, ds[i]? = some d ∧ Rp K ca F H v d []
  | _, [], _, i, d, e => by simp at e
  | x :: ds, v :: vs, h, 0, d, e => by
    simp at e; subst e
    exact ⟨x, rfl, h.nil_of.1⟩
  | x :: ds, v :: vs, h, i + 1, d, e => by
    obtain ⟨v', e1, r⟩ := RpL.at_v h.nil_of.2 (i := i) (v := d) (by simpa using e)
    exact ⟨v', by simpa using e1, r⟩
theorem RpL.take {K : PySem.W.Frag} {ca : Cax} : ∀ {ds : List D} {vs : List V} (n : Nat), RpL K ca F H vs ds [] → RpL K ca F H (vs.take n) (ds.take n) []
  | _, _, 0, _ => by simp; exact .nil
  | [], [], n + 1, _ => by simp; exact .nil
  | d :: ds, v :: vs, n + 1, h => .cons (fp := []) (fq := []) h.nil_of.1 (RpL.take n h.nil_of.2)
theorem RpL.drop {K : PySem.W.Frag} {ca : Cax} : ∀ {ds : List D} {vs : List V} (n : Nat), RpL K ca F H vs ds [] → RpL K ca F H (vs.drop n) (ds.drop n) []
  | _, _, 0, h => by simpa using h
  | [], [], n + 1, h => by simp; exact .nil
  | d :: ds, v :: vs, n + 1, h => RpL.drop n h.nil_of.2
theorem RpL.set {K : PySem.W.Frag} {ca : Cax} {u : V} {e : D} (re : Rp K ca F H u e []) : ∀ {ds : List D} {vs : List V} (n : Nat), RpL K ca F H vs ds [] → RpL K ca F H (vs.set n u) (ds.set n e) []
  | [], [], n, h => by simpa using h
  | d :: ds, v :: vs, 0, h => .cons (fp := []) (fq := []) re h.nil_of.2
  | d :: ds, v :: vs, n + 1, h => .cons (fp := []) (fq := []) h.nil_of.1 (RpL.set re n h.nil_of.2)
theorem RpL.erase {K : PySem.W.Frag} {ca : Cax} : ∀ {ds : List D} {vs : List V} (n : Nat), RpL K ca F H vs ds [] → RpL K ca F H (vs.eraseIdx n) (ds.eraseIdx n) []
  | [], [], n, h => by simpa using h
  | d :: ds, v :: vs, 0, h => h.nil_of.2
  | d :: ds, v :: vs, n + 1, h => .cons (fp := []) (fq := []) h.nil_of.1 (RpL.erase n h.nil_of.2)
theorem RpL.one {K : PySem.W.Frag} {ca : Cax} {u : V} {e : D} (re : Rp K ca F H u e []) : RpL K ca F H [u] [e] [] := .cons (fp := []) (fq := []) re .nil

/-- a list or tuple that is seen -/
theorem Rp.its {K : PySem.W.Frag} {ca : Cax} {d : D} {xs : List D} (h : Rp K ca F H v d fr) (e : its d = some xs) :
    ∃ (a : Addr) (vs : List V), v = .ref a ∧ RpL K ca F H vs xs [] ∧ ((H a = some (.lst vs) ∧ ∃ b, d = .lst b xs) ∨ (SqX K H a vs ∧ d = .tup xs)) := by
  cases h <;> (try (simp [M.its] at e; done))
  · rename_i a vs ds s r
    have : ds = xs := by simpa [M.its] using e
    subst this
    exact ⟨a, vs, rfl, r, .inr ⟨s, rfl⟩⟩
  · rename_i a vs ds s f r
    have : ds = xs := by simpa [M.its] using e
    subst this
    exact ⟨a, vs, rfl, r, .inl ⟨s, false, rfl⟩⟩
  · rename_i a vs ds s f r
    have : ds = xs := by simpa [M.its] using e
    subst this
    exact ⟨a, vs, rfl, r, .inl ⟨s, true, rfl⟩⟩

/-! ### ints -/
/-- the ways of an operation on two ints -/
def oI (C : Int → Int → Prop) (g : Int → Int → D) : O2 := fun ρ x y K => ∃ i j, x = .int i ∧ y = .int j ∧ C i j ∧ K (g i j)
theorem Rr.int {i : Int} (h : Rr G F H σ v (.int i) fr) : v = .int i ∧ fr = [] := by
  rcases h with h | ⟨_, e, _⟩
  · cases h; exact ⟨rfl, rfl⟩
  · cases e
theorem Rr.str {x : Str} (h : Rr G F H σ v (.str x) fr) : v = .str x ∧ fr = [] := by
  rcases h with h | ⟨_, e, _⟩
  · cases h; exact ⟨rfl, rfl⟩
  · cases e
theorem Rr.bl {b : Bool} (h : Rr G F H σ v (.bl b) fr) : v = .bl b ∧ fr = [] := by
  rcases h with h | ⟨_, e, _⟩
  · cases h; exact ⟨rfl, rfl⟩
  · cases e
theorem oI_ok {C : Int → Int → Prop} {g : Int → Int → V} {g' : Int → Int → D} (hg : ∀ K ca F H i j, Rp K ca F H (g i j) (g' i j) []) : O2Ok G (rI C g) (oI C g') := fun F H σ ρ fp v1 v2 x y f1 f2 Kd Q ok r1 r2 nd h k => by
  obtain ⟨i, j, rfl, rfl, c, q⟩ := h
  obtain ⟨rfl, _⟩ := r1.int
  obtain ⟨rfl, _⟩ := r2.int
  exact ⟨i, j, rfl, rfl, c, k _ H F _ [] (En.refl ok) (hg _ _ _ _ i j) q⟩
theorem oI0_ok {g : Int → Int → V} {g' : Int → Int → D} (hg : ∀ K ca F H i j, Rp K ca F H (g i j) (g' i j) []) : O2Ok G (rI0 g) (oI (fun _ _ => True) g') := fun F H σ ρ fp v1 v2 x y f1 f2 Kd Q ok r1 r2 nd h k => by
  obtain ⟨i, j, rfl, rfl, c, q⟩ := h
  obtain ⟨rfl, _⟩ := r1.int
  obtain ⟨rfl, _⟩ := r2.int
  exact ⟨i, j, rfl, rfl, k _ H F _ [] (En.refl ok) (hg _ _ _ _ i j) q⟩
/-- strs -/
def oS (C : Str → Str → Prop) (g : Str → Str → D) : O2 := fun ρ x y K => ∃ i j, x = .str i ∧ y = .str j ∧ C i j ∧ K (g i j)
abbrev rS (C : Str → Str → Prop) (g : Str → Str → V) : R2 := fun x y H Q => ∃ i j, x = .str i ∧ y = .str j ∧ C i j ∧ Q (g i j) H
theorem oS_ok {C : Str → Str → Prop} {g : Str → Str → V} {g' : Str → Str → D} (hg : ∀ K ca F H i j, Rp K ca F H (g i j) (g' i j) []) : O2Ok G (rS C g) (oS C g') := fun F H σ ρ fp v1 v2 x y f1 f2 Kd Q ok r1 r2 nd h k => by
  obtain ⟨i, j, rfl, rfl, c, q⟩ := h
  obtain ⟨rfl, _⟩ := r1.str
  obtain ⟨rfl, _⟩ := r2.str
  exact ⟨i, j, rfl, rfl, c, k _ H F _ [] (En.refl ok) (hg _ _ _ _ i j) q⟩

/-! ### lists and tuples, one behind the other -/
def oCatL : O2 := fun ρ x y K => ∃ b c xs ys, pk ρ x = some (.lst b xs) ∧ pk ρ y = some (.lst c ys) ∧ xs.length + ys.length ≤ sizeLine ∧ K (.lst true (xs ++ ys))
def oCatT : O2 := fun ρ x y K => ∃ xs ys, x = .tup xs ∧ y = .tup ys ∧ xs.length + ys.length ≤ sizeLine ∧ K (.tup (xs ++ ys))
theorem Rr.lst {b : Bool} {xs : List D} (ok : Ok G F H σ ρ fp) (h : Rr G F H σ v r fr) (e : pk ρ r = some (.lst b xs)) : ∃ (a : Addr) (vs : List V), v = .ref a ∧ H a = some (.lst vs) ∧ RpL G.K G.ca F H vs xs [] := by
  obtain ⟨fs, rp, _⟩ := h.see ok e
  cases rp with
  | lfz s f r => exact ⟨_, _, rfl, s, r⟩
  | low s f r => exact ⟨_, _, rfl, s, r⟩
theorem Rr.tup {xs : List D} (h : Rr G F H σ v (.tup xs) fr) : ∃ (a : Addr) (vs : List V), v = .ref a ∧ SqX G.K H a vs ∧ RpL G.K G.ca F H vs xs [] := by
  rcases h with h | ⟨_, e, _⟩
  · cases h with
    | tup s r => exact ⟨_, _, rfl, s, r⟩
  · cases e
theorem oCatT_ok : O2Ok G (rCatF G.K) oCatT := fun F H σ ρ fp v1 v2 x y f1 f2 Kd Q ok r1 r2 nd h k => by
  obtain ⟨xs, ys, rfl, rfl, z, q⟩ := h
  obtain ⟨a, vs, rfl, s1, p1⟩ := r1.tup
  obtain ⟨b, us, rfl, s2, p2⟩ := r2.tup
  have l1 := p1.length
  have l2 := p2.length
  refine ⟨a, b, vs, us, rfl, rfl, s1.sq, s2.sq, by omega, fun e => ?_, fun _ e => ?_, fun _ _ p o hp h1 h2 => ?_⟩
  · have e2 : xs = [] := List.length_eq_zero_iff.mp (by rw [← l1, e]; rfl)
    subst e2
    exact k _ H F _ [] (En.refl ok) (.tup s2 p2) q
  · have e2 : ys = [] := List.length_eq_zero_iff.mp (by rw [← l2, e]; rfl)
    subst e2
    refine k _ H F _ [] (En.refl ok) ?_ q
    rw [List.append_nil]
    exact .tup s1 p1
  · exact k _ _ F _ [] (En.tup ok hp) (.tup (.of upd_same h1 h2) ((p1.app p2).new hp)) q
theorem oCatL_ok : O2Ok G rCat oCatL := fun F H σ ρ fp v1 v2 x y f1 f2 Kd Q ok r1 r2 nd h k => by
  obtain ⟨b, c, xs, ys, e1, e2, z, q⟩ := h
  obtain ⟨a, vs, rfl, s1, p1⟩ := r1.lst ok e1
  obtain ⟨d, us, rfl, s2, p2⟩ := r2.lst ok e2
  have l1 := p1.length
  have l2 := p2.length
  exact ⟨a, d, vs, us, rfl, rfl, s1, s2, by omega, fun p hp => k _ _ F _ [p] (En.own ok hp) (.low upd_same (ok.not_none hp).1 ((p1.app p2).new hp)) q⟩
end
end M
/-! M4: tests, and | or | not, arguments, displays; sharing and moving of results. -/
namespace M
open PySem PySem.Spec PyProof.Rows L2

section
variable {G : Gc} {X : Cx} {F F' F1 F2 : Addr → Prop} {H H' H1 H2 : Hp} {σ : L2.St} {ρ ρ' ρ1 ρ2 : Sl} {fp fp' fp1 fp2 fr fr1 fr2 : List Addr} {v v1 v2 : V} {r r1 r2 d : D} {p : Addr} {o : HO}
  {a b c : Expr} {wa wb wc : WE} {ta tb tc : WT} {rest : List Expr} {pos : Pos}

/-! ### tests -/
def wB (w : WE) : WT := fun ρ Q => w ρ fun x ρ1 => ∃ b, x = .bl b ∧ Q b ρ1
theorem le_b {w : WE} : ∀ σ H Q, LT G (wB w) σ H Q → LE G w σ H fun x H' => ∃ k, x = .bl k ∧ Q k H' := fun σ H Q q => by
  obtain ⟨F, ρ, fp, Qd, ok, h, k⟩ := q
  refine ⟨F, ρ, fp, _, ok, h, fun v H' F' ρ' fp' r fr en rr q => ?_⟩
  obtain ⟨b, rfl, q⟩ := q
  obtain ⟨rfl, rfl⟩ := rr.bl
  exact ⟨b, rfl, k b H' F' ρ' fp' en q⟩
theorem dt_cmp {op : CmpOp} {r : R2} {o : O2} (hr : OpR X (compareOp op) r) (ho : O2Ok G r o) (ha : PE X a (LE G wa)) (hb : PE X b (LE G wb)) (hm : behindInMarks op b = false) : PT X (.Compare a [op] [b] pos) (LT G (wB (wOp o wa wb))) :=
  imT (pt_cmpR hr ha hb hm) fun σ H Q q => LE.op ho σ H _ (le_b σ H Q q)
theorem dt_val {e : Expr} {w : WE} (h : PE X e (LE G w)) (he : ∀ whole, isTrue e X.env whole = (do let v ← whole; standAt e.pos; holding [v] (truthy v)) := by intro _; rfl) : PT X e (LT G (wB w)) :=
  imT (pt_val h he) fun σ H Q q => le_b σ H Q q
/-- truth of a value that may be no bool -/
def TruD (ρ : Sl) (x : D) (k : Bool) : Prop := ∃ d, pk ρ x = some d ∧ (match d with
  | .non => k = false
  | .bl b => k = b
  | .int i => k = (i != 0)
  | .str y => y.length ≤ sizeLine ∧ k = ((y.length : Int) != 0)
  | .lst _ xs => k = !xs.isEmpty
  | .tup xs => k = !xs.isEmpty
  | _ => False)
def wTru (w : WE) : WT := fun ρ Q => w ρ fun x ρ1 => ∃ k, TruD ρ1 x k ∧ Q k ρ1
theorem RpL.empty {K : PySem.W.Frag} {ca : Cax} {vs : List V} {ds : List D} (h : RpL K ca F H vs ds fr) : (!vs.isEmpty) = !ds.isEmpty := by
  cases h <;> rfl
theorem dt_truth {e : Expr} {w : WE} (h : PE X e (LE G w)) (hK : X.K = G.K) (he : ∀ whole, isTrue e X.env whole = (do let v ← whole; standAt e.pos; holding [v] (truthy v)) := by intro _; rfl) : PT X e (LT G (wTru w)) :=
  imT (pt_truth h he) fun σ H Q q => by
    obtain ⟨F, ρ, fp, Qd, ok, h, k⟩ := q
    refine ⟨F, ρ, fp, _, ok, h, fun v H' F' ρ' fp' r fr en rr q => ?_⟩
    obtain ⟨b, ⟨d, e, t⟩, q⟩ := q
    refine ⟨b, ?_, k b H' F' ρ' fp' ⟨en.st.less fun a z => List.mem_append_right _ z, en.ok, by simpa using en.ok.nd⟩ q⟩
    rw [hK]
    obtain ⟨fs, rp, sub⟩ := rr.see en.ok e
    clear sub
    cases rp with
    | tup s rl => exact .inr (.inl ⟨_, s.sq, by rw [rl.empty]; exact t⟩)
    | lfz s f rl => exact .inl ⟨_, .of s, by rw [rl.empty]; exact t⟩
    | low s f rl => exact .inl ⟨_, .of s, by rw [rl.empty]; exact t⟩
    | _ => first | exact t | exact t.elim
def wAnd (t u : WT) : WT := fun ρ Q => t ρ fun c ρ1 => if c = true then u ρ1 Q else Q false ρ1
def wOr (t u : WT) : WT := fun ρ Q => t ρ fun c ρ1 => if c = true then Q true ρ1 else u ρ1 Q
def wNot (t : WT) : WT := fun ρ Q => t ρ fun c ρ1 => Q (!c) ρ1
theorem En.trans0 (a : En G F H fp σ F1 H1 ρ1 fp1 []) (b : En G F1 H1 fp1 σ F2 H2 ρ2 fp2 fr2) : En G F H fp σ F2 H2 ρ2 fp2 fr2 := a.trans b fun x z => nomatch z
theorem lt_and {t u : WT} : ∀ σ H Q, LT G (wAnd t u) σ H Q → tAnd (LT G t) (LT G u) σ H Q := fun σ H Q q => by
  obtain ⟨F, ρ, fp, Qd, ok, h, k⟩ := q
  refine ⟨F, ρ, fp, _, ok, h, fun b H1 F1 ρ1 fp1 en q => ?_⟩
  cases b with
  | false => exact k false H1 F1 ρ1 fp1 en q
  | true => exact ⟨F1, ρ1, fp1, Qd, en.ok, q, fun b H2 F2 ρ2 fp2 en2 q2 => k b H2 F2 ρ2 fp2 (en.trans0 en2) q2⟩
theorem lt_or {t u : WT} : ∀ σ H Q, LT G (wOr t u) σ H Q → tOr (LT G t) (LT G u) σ H Q := fun σ H Q q => by
  obtain ⟨F, ρ, fp, Qd, ok, h, k⟩ := q
  refine ⟨F, ρ, fp, _, ok, h, fun b H1 F1 ρ1 fp1 en q => ?_⟩
  cases b with
  | true => exact k true H1 F1 ρ1 fp1 en q
  | false => exact ⟨F1, ρ1, fp1, Qd, en.ok, q, fun b H2 F2 ρ2 fp2 en2 q2 => k b H2 F2 ρ2 fp2 (en.trans0 en2) q2⟩
theorem dw_and1 (ha : PT X a (LT G ta)) : PW X (.BoolOp .And [a] pos) (LT G ta) := pw_and1 ha
theorem dw_or1 (ha : PT X a (LT G ta)) : PW X (.BoolOp .Or [a] pos) (LT G ta) := pw_or1 ha
theorem imW {e : Expr} {t u : TT} (h : PW X e t) (i : ∀ σ H Q, u σ H Q → t σ H Q) : PW X e u := ⟨fun wh pins s σ H Q I q => h.run wh pins s σ H Q I (i σ H Q q)⟩
theorem dw_and (ha : PT X a (LT G ta)) (hb : PW X (.BoolOp .And (b :: rest) pos) (LT G tb)) : PW X (.BoolOp .And (a :: b :: rest) pos) (LT G (wAnd ta tb)) := imW (pw_and ha hb) lt_and
theorem dw_or (ha : PT X a (LT G ta)) (hb : PW X (.BoolOp .Or (b :: rest) pos) (LT G tb)) : PW X (.BoolOp .Or (a :: b :: rest) pos) (LT G (wOr ta tb)) := imW (pw_or ha hb) lt_or
theorem dt_not (ha : PT X a (LT G ta)) : PT X (.UnaryOp .Not a pos) (LT G (wNot ta)) := imT (pt_not ha) fun σ H Q q => by
  obtain ⟨F, ρ, fp, Qd, ok, h, k⟩ := q
  exact ⟨F, ρ, fp, _, ok, h, fun b H1 F1 ρ1 fp1 en q => k _ H1 F1 ρ1 fp1 en q⟩
/-- as values -/
def wAndV (wa wb : WE) : WE := fun ρ Q => wa ρ fun x ρ1 => ∃ c, x = .bl c ∧ if c = true then wb ρ1 Q else Q (.bl false) ρ1
def wOrV (wa wb : WE) : WE := fun ρ Q => wa ρ fun x ρ1 => ∃ c, x = .bl c ∧ if c = true then Q (.bl true) ρ1 else wb ρ1 Q
def wNotV (wa : WE) : WE := fun ρ Q => wa ρ fun x ρ1 => ∃ c, x = .bl c ∧ Q (.bl (!c)) ρ1
theorem d_one {op} (h : PE X a (LE G wa)) : PE X (.BoolOp op [a] pos) (LE G wa) := pe_one h
theorem d_and (ha : PE X a (LE G wa)) (hb : PE X (.BoolOp .And (b :: rest) pos) (LE G wb)) : PE X (.BoolOp .And (a :: b :: rest) pos) (LE G (wAndV wa wb)) := imE (pe_and ha hb) fun σ H Q q => by
  obtain ⟨F, ρ, fp, Qd, ok, h, k⟩ := q
  refine ⟨F, ρ, fp, _, ok, h, fun v H1 F1 ρ1 fp1 r fr en rr q => ?_⟩
  obtain ⟨c, rfl, q⟩ := q
  obtain ⟨rfl, rfl⟩ := rr.bl
  refine ⟨c, rfl, ?_⟩
  cases c with
  | false => exact k _ H1 F1 ρ1 fp1 _ [] en (.inl (.bl _)) q
  | true => exact ⟨F1, ρ1, fp1, Qd, en.ok, q, fun v H2 F2 ρ2 fp2 r fr en2 rr2 q2 => k v H2 F2 ρ2 fp2 r fr (en.trans0 en2) rr2 q2⟩
theorem d_or (ha : PE X a (LE G wa)) (hb : PE X (.BoolOp .Or (b :: rest) pos) (LE G wb)) : PE X (.BoolOp .Or (a :: b :: rest) pos) (LE G (wOrV wa wb)) := imE (pe_or ha hb) fun σ H Q q => by
  obtain ⟨F, ρ, fp, Qd, ok, h, k⟩ := q
  refine ⟨F, ρ, fp, _, ok, h, fun v H1 F1 ρ1 fp1 r fr en rr q => ?_⟩
  obtain ⟨c, rfl, q⟩ := q
  obtain ⟨rfl, rfl⟩ := rr.bl
  refine ⟨c, rfl, ?_⟩
  cases c with
  | true => exact k _ H1 F1 ρ1 fp1 _ [] en (.inl (.bl _)) q
  | false => exact ⟨F1, ρ1, fp1, Qd, en.ok, q, fun v H2 F2 ρ2 fp2 r fr en2 rr2 q2 => k v H2 F2 ρ2 fp2 r fr (en.trans0 en2) rr2 q2⟩
theorem d_not (ha : PE X a (LE G wa)) : PE X (.UnaryOp .Not a pos) (LE G (wNotV wa)) := imE (pe_not ha) fun σ H Q q => by
  obtain ⟨F, ρ, fp, Qd, ok, h, k⟩ := q
  refine ⟨F, ρ, fp, _, ok, h, fun v H1 F1 ρ1 fp1 r fr en rr q => ?_⟩
  obtain ⟨c, rfl, q⟩ := q
  obtain ⟨rfl, rfl⟩ := rr.bl
  exact ⟨c, rfl, k _ H1 F1 ρ1 fp1 _ [] en (.inl (.bl _)) q⟩
def wIf (t : WT) (wa wb : WE) : WE := fun ρ Q => t ρ fun c ρ1 => if c = true then wa ρ1 Q else wb ρ1 Q
theorem d_if {t : WT} (hc : PT X c (LT G t)) (ha : PE X a (LE G wa)) (hb : PE X b (LE G wb)) : PE X (.IfExp c a b pos) (LE G (wIf t wa wb)) := imE (pe_ifExp hc ha hb) fun σ H Q q => by
  obtain ⟨F, ρ, fp, Qd, ok, h, k⟩ := q
  refine ⟨F, ρ, fp, _, ok, h, fun c H1 F1 ρ1 fp1 en q => ?_⟩
  cases c <;> exact ⟨F1, ρ1, fp1, Qd, en.ok, q, fun v H2 F2 ρ2 fp2 r fr en2 rr2 q2 => k v H2 F2 ρ2 fp2 r fr (en.trans0 en2) rr2 q2⟩
/-- a op b op' c -/
def wChain (o o' : O2) (wa wb wc : WE) : WE := fun ρ Q => wa ρ fun x ρ1 => wb ρ1 fun y ρ2 => pln y = true ∧ o ρ2 x y fun z => ∃ k, z = .bl k ∧ if k = true then wc ρ2 fun u ρ3 => o' ρ3 y u fun d => Q d ρ3 else Q (.bl false) ρ2
  where pln : D → Bool
    | .int _ => true
    | .str _ => true
    | _ => false
theorem le_chain {r r' : R2} {o o' : O2} (ho : O2Ok G r o) (ho' : O2Ok G r' o') : ∀ σ H Q, LE G (wChain o o' wa wb wc) σ H Q → tChain r r' (LE G wa) (LE G wb) (LE G wc) σ H Q := fun σ H Q q => by
  obtain ⟨F, ρ, fp, Qd, ok, h, k⟩ := q
  refine bin2 (k := fun x y ρ2 => wChain.pln y = true ∧ o ρ2 x y fun z => ∃ k, z = .bl k ∧ if k = true then wc ρ2 fun u ρ3 => o' ρ3 y u fun d => Qd d ρ3 else Qd (.bl false) ρ2) ok h
    fun v1 v2 H2 F2 ρ2 fp2 x y f1 f2 en r1 r2 q => ?_
  obtain ⟨py, q⟩ := q
  refine ho F2 H2 σ ρ2 fp2 v1 v2 x y f1 f2 _ _ en.ok r1 r2 en.nd q fun v H3 F3 d fr en3 rp3 q3 => ?_
  obtain ⟨b, rfl, q3⟩ := q3
  have e : v = .bl b ∧ fr = [] := by cases rp3; exact ⟨rfl, rfl⟩
  obtain ⟨rfl, rfl⟩ := e
  have en' := en.drop en3
  refine ⟨b, rfl, ?_⟩
  cases b with
  | false => exact k _ H3 F3 ρ2 fp2 _ [] en' (.inl (.bl _)) q3
  | true =>
    refine ⟨F3, ρ2, fp2, _, en3.ok, q3, fun v4 H4 F4 ρ4 fp4 u f4 en4 r4 q4 => ?_⟩
    have ry : Rr G F4 H4 σ v2 y [] := by
      cases y <;> (try (simp [wChain.pln] at py; done))
      · obtain ⟨rfl, _⟩ := r2.int; exact .inl (.int _)
      · obtain ⟨rfl, _⟩ := r2.str; exact .inl (.str _)
    refine ho' F4 H4 σ ρ4 fp4 v2 v4 y u [] f4 _ _ en4.ok ry r4 (by simpa using en4.nd) q4 fun v5 H5 F5 d f5 en5 r5 q5 => ?_
    exact k v5 H5 F5 ρ4 fp4 d f5 ((en'.trans0 en4).drop en5) (.inl r5) q5
theorem d_chain {op op' : CmpOp} {r r' : R2} {o o' : O2} (hr : OpR X (compareOp op) r) (hr' : OpR X (compareOp op') r') (ho : O2Ok G r o) (ho' : O2Ok G r' o') (ha : PE X a (LE G wa)) (hb : PE X b (LE G wb)) (hc : PE X c (LE G wc))
    (hm : lastMarks [op, op'] [b, c] = false := by with_unfolding_all rfl) : PE X (.Compare a [op, op'] [b, c] pos) (LE G (wChain o o' wa wb wc)) := imE (pe_chain hr hr' ha hb hc hm) (le_chain ho ho')
theorem dt_chain {op op' : CmpOp} {r r' : R2} {o o' : O2} (hr : OpR X (compareOp op) r) (hr' : OpR X (compareOp op') r') (ho : O2Ok G r o) (ho' : O2Ok G r' o') (ha : PE X a (LE G wa)) (hb : PE X b (LE G wb)) (hc : PE X c (LE G wc))
    (hm : lastMarks [op, op'] [b, c] = false := by with_unfolding_all rfl) : PT X (.Compare a [op, op'] [b, c] pos) (LT G (wB (wChain o o' wa wb wc))) :=
  imT (pt_chain hr hr' ha hb hc hm) fun σ H Q q => le_chain ho ho' σ H _ (le_b σ H Q q)

/-! ### arguments -/
def wNil : WA := fun ρ Q => Q [] ρ
def wCons (we : WE) (wr : WA) : WA := fun ρ Q => we ρ fun x ρ1 => wr ρ1 fun xs ρ2 => Q (x :: xs) ρ2
variable {e : Expr} {es : List Expr} {we : WE} {wr : WA}
theorem da_nil : PA X [] (LA G wNil) := imA pa_nil fun σ H Q q => by
  obtain ⟨F, ρ, fp, Qd, ok, h, k⟩ := q
  exact k [] H F ρ fp [] [] (En.refl ok) .nil h
theorem la_cons : ∀ σ H Q, LA G (wCons we wr) σ H Q → tCons (LE G we) (LA G wr) σ H Q := fun σ H Q q => by
  obtain ⟨F, ρ, fp, Qd, ok, h, k⟩ := q
  refine ⟨F, ρ, fp, _, ok, h, fun v1 H1 F1 ρ1 fp1 x f1 en1 rr1 q1 => ?_⟩
  refine ⟨F1, ρ1, fp1, _, en1.ok, q1, fun vs H2 F2 ρ2 fp2 xs f2 en2 rr2 q2 => ?_⟩
  exact k _ H2 F2 ρ2 fp2 _ _ (en1.trans en2 rr1.dom) (.cons (rr1.step en2.st en1.ok.nf (nodup_d en1.nd)) rr2) q2
theorem da_cons (ha : PE X e (LE G we)) (hr : PA X es (LA G wr)) (hs : starEach (e :: es) X.env = (false, eval e X.env) :: starEach es X.env := by rfl) : PA X (e :: es) (LA G (wCons we wr)) := imA (pa_cons ha hr hs) la_cons
/-- *e: the items, which are seen as they stand -/
def wStar (we : WE) (wr : WA) : WA := fun ρ Q => we ρ fun x ρ1 => ∃ d ds, pk ρ1 x = some d ∧ its d = some ds ∧ wr ρ1 fun xs ρ2 => Q (ds ++ xs) ρ2
theorem RpL.rr : ∀ {vs : List V} {ds : List D} {fr : List Addr}, RpL G.K G.ca F H vs ds fr → RrL G F H σ vs ds fr
  | _, _, _, .nil => .nil
  | _, _, _, .cons r t => .cons (.inl r) (RpL.rr t)
theorem RrL.app {vs us : List V} {ds es : List D} (h : RrL G F H σ vs ds fr1) (h' : RrL G F H σ us es fr2) : RrL G F H σ (vs ++ us) (ds ++ es) (fr1 ++ fr2) := by
  induction h with
  | nil => exact h'
  | cons r _ ih => rw [List.append_assoc]; exact .cons r ih
theorem da_star {p : Pos} (hK : X.K = G.K) (ha : PE X e (LE G we)) (hr : PA X es (LA G wr)) (hs : starEach (.Starred e p :: es) X.env = (true, eval e X.env) :: starEach es X.env := by rfl) : PA X (.Starred e p :: es) (LA G (wStar we wr)) := imA (StX.pa_star ha hr hs) fun σ H Q q => by
  obtain ⟨F, ρ, fp, Qd, ok, h, k⟩ := q
  refine ⟨F, ρ, fp, _, ok, h, fun v1 H1 F1 ρ1 fp1 x f1 en1 rr1 q1 => ?_⟩
  obtain ⟨d, ds, e1, e2, q1⟩ := q1
  obtain ⟨fs, rp, _⟩ := rr1.see en1.ok e1
  obtain ⟨a, vs, rfl, rl, hc⟩ := rp.its e2
  refine ⟨a, vs, rfl, ?_, F1, ρ1, fp1, _, en1.ok, q1, fun us H2 F2 ρ2 fp2 xs f2 en2 rr2 q2 => ?_⟩
  · rw [hK]
    rcases hc with ⟨s, _⟩ | ⟨s, _⟩
    · exact .inr (.of s)
    · exact .inl s.sq
  · refine k _ H2 F2 ρ2 fp2 (ds ++ xs) f2 (en1.drop en2) ?_ q2
    exact (RpL.rr (rl.step en2.st en1.ok.nf fun a z => nomatch z)).app rr2

/-! ### sharing, moving -/
def fzR (ρ : Sl) : D → Option (D × Sl)
  | .sl i => match ρ[i]? with
    | some (some d) => some (fz d, ρ.set i (some (fz d)))
    | _ => none
  | d => some (fz d, ρ)
def fzRs : Sl → List D → Option (List D × Sl)
  | ρ, [] => some ([], ρ)
  | ρ, r :: rs => match fzR ρ r with
    | some (d, ρ1) => match fzRs ρ1 rs with
      | some (ds, ρ2) => some (d :: ds, ρ2)
      | none => none
    | none => none
/-- what a sharing does to the state -/
structure Shd (G : Gc) (F : Addr → Prop) (H : Hp) (σ : L2.St) (ρ : Sl) (fp fr : List Addr) (F' : Addr → Prop) (ρ' : Sl) (fp' : List Addr) : Prop where
  mono : ∀ a, F a → F' a
  new : ∀ a, F' a → F a ∨ a ∈ fr ∨ (a ∈ fp ∧ a ∉ fp')
  ok : Ok G F' H σ ρ' fp'
  sub : ∀ a ∈ fp', a ∈ fp
theorem Rr.share (ok : Ok G F H σ ρ fp) (h : Rr G F H σ v r fr) (nd : (fr ++ fp).Nodup) (hr : ∀ a ∈ fr, a ∈ G.fp0 ∨ G.H0 a = none) (e : fzR ρ r = some (d, ρ')) : ∃ F' fp', Shd G F H σ ρ fp fr F' ρ' fp' ∧ Rp G.K G.ca F' H v d [] := by
  rcases h with h | ⟨i, rfl, ev, rfl⟩
  · have e' : (fz r, ρ) = (d, ρ') := by
      have : fzR ρ r = some (fz r, ρ) := by cases h <;> rfl
      rw [this] at e
      exact Option.some.inj e
    cases e'
    refine ⟨fun a => F a ∨ a ∈ fr, fp, ⟨fun _ z => .inl z, fun a z => z.imp id .inl, ⟨ok.rs.keep (fun _ _ e _ => e) (fun _ _ _ e _ => e) (fun _ _ _ e _ => e) (fun _ z => .inl z) (fun _ _ _ e _ => e) fun a z f => ?_, ok.nd, fun a f => ?_, ok.pm, ⟨fun a z => .inl (ok.rch.mono a z), fun a z => z.elim (ok.rch.new a) fun z => .inr (hr a z), ok.rch.kept, ok.rch.there, ok.rch.fps, ok.rch.tab⟩⟩, fun _ z => z⟩, ?_⟩
    · rcases f with f | f
      · exact ok.nf a z f
      · exact nodup_d nd a f z
    · rcases f with f | f
      · exact ok.dom a f
      · exact let ⟨_, o, q, _⟩ := h.own a f; ⟨o, q⟩
    · exact h.fz (fun _ z => .inl z) fun a z => .inr z
  · have hi : ∃ c, ρ[i]? = some (some c) ∧ (fz c, ρ.set i (some (fz c))) = (d, ρ') := by
      have e : (match ρ[i]? with
        | some (some d) => some (fz d, ρ.set i (some (fz d)))
        | _ => none) = some (d, ρ') := e
      cases q : ρ[i]? with
      | none => rw [q] at e; cases e
      | some x => cases x with
        | none => rw [q] at e; cases e
        | some c => rw [q] at e; exact ⟨c, rfl, Option.some.inj e⟩
    obtain ⟨c, q, e'⟩ := hi
    cases e'
    obtain ⟨l, fs, rr, e1, h1, _, _, h4⟩ := ok.rs.at_ (i := i) (by rw [List.getElem?_eq_some_iff] at q; exact q.1)
    obtain ⟨v', ev', rp⟩ := h1 c q
    rw [ev] at ev'; cases ev'
    have nd2 := ok.nd
    rw [e1] at nd2
    have lr : ∀ a, a ∈ l ++ rr → a ∉ fs := fun a z y => by
      rcases List.mem_append.mp z with z | z
      · exact nodup_d (nodup_l nd2) a z y
      · exact nodup_d nd2 a (List.mem_append_right _ y) z
    have rs1 : RpS G.K G.ca (fun a => F a ∨ a ∈ fs) H (σ.set i none) (ρ.set i none) (l ++ rr) := by
      obtain ⟨_, _, _, _, _, _, h3, _⟩ := ok.rs.at_ (i := i) (by rw [List.getElem?_eq_some_iff] at q; exact q.1)
      have : RpS G.K G.ca F H (σ.set i none) (ρ.set i none) (l ++ rr) := by
        obtain ⟨l', fs', rr', e1', h1', _, h3', h4'⟩ := ok.rs.at_ (i := i) (by rw [List.getElem?_eq_some_iff] at q; exact q.1)
        have := h4 (V.non) D.non [] .non
        obtain ⟨l2, fs2, r2, e2, g1, _, g3, _⟩ := this.at_ (i := i) (by rw [List.length_set]; rw [List.getElem?_eq_some_iff] at q; exact q.1)
        obtain ⟨_, _, rn⟩ := g1 .non (by rw [List.getElem?_set_self (by rw [List.getElem?_eq_some_iff] at q; exact q.1)])
        have efs : fs2 = [] := rn.free rfl
        have := g3 none
        rw [List.set_set, List.set_set] at this
        have ee : l ++ [] ++ rr = l2 ++ fs2 ++ r2 := e2
        rw [efs] at ee
        simp only [List.append_nil] at ee
        rw [ee]
        exact this
      exact this.keep (fun _ _ e _ => e) (fun _ _ _ e _ => e) (fun _ _ _ e _ => e) (fun _ z => .inl z) (fun _ _ _ e _ => e) fun a z f => by
        rcases f with f | f
        · exact (this.own a z).1 f
        · exact lr a z f
    have rpz : Rp G.K G.ca (fun a => F a ∨ a ∈ fs) H v (fz c) [] := rp.fz (fun _ z => .inl z) fun a z => .inr z
    have rs2 : RpS G.K G.ca (fun a => F a ∨ a ∈ fs) H σ (ρ.set i (some (fz c))) (l ++ rr) := by
      obtain ⟨l2, fs2, r2, e2, _, g2, _, g4⟩ := rs1.at_ (i := i) (by rw [List.length_set]; rw [List.getElem?_eq_some_iff] at q; exact q.1)
      have efs : fs2 = [] := g2 (by rw [List.getElem?_set_self (by rw [List.getElem?_eq_some_iff] at q; exact q.1)])
      have := g4 v (fz c) [] rpz
      rw [List.set_set, List.set_set] at this
      rw [efs] at e2
      simp only [List.append_nil] at e2 this
      rw [e2]
      have es : σ.set i (some v) = σ := by
        apply List.ext_getElem?
        intro j
        by_cases hj : i = j
        · subst hj
          rw [ev, List.getElem?_set_self (by rw [List.getElem?_eq_some_iff] at ev; exact ev.1)]
        · rw [List.getElem?_set_ne hj]
      rw [es] at this
      exact this
    refine ⟨fun a => F a ∨ a ∈ fs, l ++ rr, ⟨fun _ z => .inl z, fun a z => z.imp id fun y => .inr ⟨by rw [e1]; simp [y], fun w => lr a w y⟩, ⟨rs2, ?_, fun a f => ?_, ok.pm, ⟨fun a z => .inl (ok.rch.mono a z), fun a z => z.elim (ok.rch.new a) fun z => .inr (ok.rch.fps a (by rw [e1]; simp [z])), ok.rch.kept, ok.rch.there, fun a z => ok.rch.fps a (by rw [e1]; rcases List.mem_append.mp z with w | w <;> simp [w]), ok.rch.tab⟩⟩, fun a z => by rw [e1]; rcases List.mem_append.mp z with z | z <;> simp [z]⟩, rpz⟩
    · refine nodup_of (nodup_l (nodup_l nd2)) (nodup_r nd2) fun a z y => nodup_d nd2 a (List.mem_append_left _ z) y
    · rcases f with f | f
      · exact ok.dom a f
      · exact let ⟨_, o, q, _⟩ := rp.own a f; ⟨o, q⟩
theorem RrL.share : ∀ {rs : List D} {vs : List V} {F : Addr → Prop} {ρ : Sl} {fp fr : List Addr} {ds : List D} {ρ' : Sl}, Ok G F H σ ρ fp → RrL G F H σ vs rs fr → (fr ++ fp).Nodup → (∀ a ∈ fr, a ∈ G.fp0 ∨ G.H0 a = none) → fzRs ρ rs = some (ds, ρ') →
    ∃ F' fp', Shd G F H σ ρ fp fr F' ρ' fp' ∧ RpL G.K G.ca F' H vs ds []
  | [], _, F, ρ, fp, _, ds, ρ', ok, .nil, nd, hr, e => by
    cases e
    exact ⟨F, fp, ⟨fun _ z => z, fun _ z => .inl z, ok, fun _ z => z⟩, .nil⟩
  | r :: rs, _, F, ρ, fp, _, ds, ρ', ok, @RrL.cons _ _ _ _ v vs _ _ f1 f2 h1 h2, nd, hr, e => by
    unfold fzRs at e
    cases q1 : fzR ρ r with
    | none => rw [q1] at e; cases e
    | some x =>
      obtain ⟨d1, ρ1⟩ := x
      rw [q1] at e
      simp only at e
      cases q2 : fzRs ρ1 rs with
      | none => rw [q2] at e; cases e
      | some y =>
        obtain ⟨ds2, ρ2⟩ := y
        rw [q2] at e
        cases e
        have ndx : (f2 ++ fp).Nodup := by rw [List.append_assoc] at nd; exact nodup_r nd
        have nd1 : (f1 ++ fp).Nodup := by
          rw [List.append_assoc] at nd
          exact nodup_of (nodup_l nd) (nodup_r (nodup_r nd)) fun a z y => nodup_d nd a z (List.mem_append_right _ y)
        have d12 : ∀ a ∈ f1, a ∉ f2 := nodup_d (nodup_l nd)
        obtain ⟨F1, fp1, s1, p1⟩ := h1.share ok nd1 (fun a z => hr a (List.mem_append_left _ z)) q1
        have h2' : RrL G F1 H σ vs rs f2 := by
          refine h2.step (fp := f1 ++ fp) (fp' := fp1) ⟨s1.mono, fun a z => ?_, fun a o e _ _ => e, fun a o e => ⟨o, e⟩, fun a z => .inl (List.mem_append_right _ (s1.sub a z)), fun h => h⟩ (fun a z => ?_) fun a z y => ?_
          · rcases s1.new a z with y | y | y
            · exact .inl y
            · exact .inr (.inl (List.mem_append_left _ y))
            · exact .inr (.inl (List.mem_append_right _ y.1))
          · rcases List.mem_append.mp z with z | z
            · exact (h1.own a z).1
            · exact ok.nf a z
          · rcases List.mem_append.mp y with y | y
            · exact d12 a y z
            · exact nodup_d ndx a z y
        obtain ⟨F2, fp2, s2, p2⟩ := RrL.share s1.ok h2' (nodup_of (nodup_l ndx) s1.ok.nd fun a z y => nodup_d ndx a z (s1.sub a y)) (fun a z => hr a (List.mem_append_right _ z)) q2
        refine ⟨F2, fp2, ⟨fun a z => s2.mono a (s1.mono a z), fun a z => ?_, s2.ok, fun a z => s1.sub a (s2.sub a z)⟩, .cons (fp := []) (fq := []) (p1.keep (fun _ _ e _ => e) (fun _ _ _ e _ => e) (fun _ _ _ e _ => e) s2.mono (fun a z => nomatch z) fun a z => nomatch z) p2⟩
        rcases s2.new a z with y | y | ⟨y1, y2⟩
        · rcases s1.new a y with w | w | ⟨w1, w2⟩
          · exact .inl w
          · exact .inr (.inl (List.mem_append_left _ w))
          · exact .inr (.inr ⟨w1, fun x => w2 (s2.sub a x)⟩)
        · exact .inr (.inl (List.mem_append_right _ y))
        · exact .inr (.inr ⟨s1.sub a y1, y2⟩)
theorem Shd.step (s : Shd G F H σ ρ fp fr F' ρ' fp') : Step G.ca.tb F H (fr ++ fp) F' H fp' :=
  ⟨s.mono, fun a z => by
    rcases s.new a z with y | y | y
    · exact .inl y
    · exact .inr (.inl (List.mem_append_left _ y))
    · exact .inr (.inl (List.mem_append_right _ y.1)), fun _ _ e _ _ => e, fun _ o e => ⟨o, e⟩, fun a z => .inl (List.mem_append_right _ (s.sub a z)), fun h => h⟩
theorem En.share (en : En G F H fp σ F1 H1 ρ1 fp1 fr1) (s : Shd G F1 H1 σ ρ1 fp1 fr1 F2 ρ2 fp2) : En G F H fp σ F2 H1 ρ2 fp2 [] where
  st := en.st.trans s.step
  ok := s.ok
  nd := by simpa using s.ok.nd

theorem En.hr (en : En G F H fp σ F1 H1 ρ1 fp1 fr1) (ok : Ok G F H σ ρ fp) : ∀ a ∈ fr1, a ∈ G.fp0 ∨ G.H0 a = none := fun a z => (ok.rch.trans en.st).fps a (List.mem_append_left _ z)
/-! ### displays -/
def wTup (wa : WA) : WE := fun ρ Q => wa ρ fun rs ρ1 => ∃ ds ρ2, fzRs ρ1 rs = some (ds, ρ2) ∧ ds.length ≤ sizeLine ∧ Q (.tup ds) ρ2
def wLst (wa : WA) : WE := fun ρ Q => wa ρ fun rs ρ1 => ∃ ds ρ2, fzRs ρ1 rs = some (ds, ρ2) ∧ ds.length ≤ sizeLine ∧ Q (.lst true ds) ρ2
theorem d_tup {x1} {wa : WA} (h : PA X es (LA G wa)) : PE X (.Tuple es x1 pos) (LE G (wTup wa)) := imE (pe_tupF h) fun σ H Q q => by
  obtain ⟨F, ρ, fp, Qd, ok, h, k⟩ := q
  refine ⟨F, ρ, fp, _, ok, h, fun vs H1 F1 ρ1 fp1 rs fr en rr q => ?_⟩
  obtain ⟨ds, ρ2, e, z, q⟩ := q
  obtain ⟨F2, fp2, s, p⟩ := rr.share en.ok en.nd (en.hr ok) e
  refine ⟨by rw [p.length]; exact z, fun a o ha h1 h2 => ?_⟩
  have en2 := en.share s
  exact k _ _ F2 ρ2 fp2 (.tup ds) [] (en2.trans0 (En.tup en2.ok ha)) (.inl (.tup (.of upd_same h1 h2) (p.new ha))) q
theorem d_lst {wa : WA} (h : PA X es (LA G wa)) : PE X (.List es pos) (LE G (wLst wa)) := imE (pe_lst h) fun σ H Q q => by
  obtain ⟨F, ρ, fp, Qd, ok, h, k⟩ := q
  refine ⟨F, ρ, fp, _, ok, h, fun vs H1 F1 ρ1 fp1 rs fr en rr q => ?_⟩
  obtain ⟨ds, ρ2, e, z, q⟩ := q
  obtain ⟨F2, fp2, s, p⟩ := rr.share en.ok en.nd (en.hr ok) e
  refine ⟨by rw [p.length]; exact z, fun a ha => ?_⟩
  have en2 := en.share s
  exact k _ _ F2 ρ2 fp2 (.lst true ds) [a] (en2.trans0 (En.own en2.ok ha)) (.inl (.low upd_same (en2.ok.not_none ha).1 (p.new ha))) q
end
end M
/-! M5: statements. -/
namespace M
open PySem PySem.Spec PyProof.Rows L2

section
variable {G : Gc} {X : Cx} {F F' F1 F2 : Addr → Prop} {H H' H1 H2 : Hp} {σ σ' : L2.St} {ρ ρ' ρ1 ρ2 : Sl} {fp fp' fp1 fp2 fr fr1 fr2 : List Addr} {v v1 v2 : V} {r r1 r2 d : D} {p : Addr} {o : HO}
  {a b c e : Expr} {wa wb wc we : WE} {ta tb tc : WT} {rest : List Expr} {pos : Pos} {De : Ends} {Dd : EndD} {t u : WS} {st : Stmt} {sts sts2 : List Stmt}

theorem EnS.after (s : Step G.ca.tb F H fp F1 H1 fp1) (h : EnS G F H fp Dd De) : EnS G F1 H1 fp1 Dd De :=
  ⟨fun σ' H' F' ρ' fp' s' ok q => h.nx σ' H' F' ρ' fp' (s.trans s') ok q, fun v σ' H' F' ρ' fp' r fr s' ok nd rr q => h.rt v σ' H' F' ρ' fp' r fr (s.trans s') ok nd rr q,
    fun σ' H' F' ρ' fp' s' ok q => h.bk σ' H' F' ρ' fp' (s.trans s') ok q, fun σ' H' F' ρ' fp' s' ok q => h.ct σ' H' F' ρ' fp' (s.trans s') ok q⟩
theorem En.st0 (en : En G F H fp σ F1 H1 ρ1 fp1 fr) : Step G.ca.tb F H fp F1 H1 fp1 := en.st.less fun a z => List.mem_append_right _ z

/-! ### blocks -/
def wNext : WS := fun Dd ρ => Dd.nx ρ
def wSeq (t u : WS) : WS := fun Dd ρ => t { Dd with nx := u Dd } ρ
def wBreak : WS := fun Dd ρ => Dd.bk ρ
def wCont : WS := fun Dd ρ => Dd.ct ρ
def wNever : WS := fun _ _ => False
theorem ds_nil : PSs X [] (LS G wNext) := imSs pss_nil fun D σ H q => by
  obtain ⟨F, ρ, fp, Dd, ok, h, k⟩ := q
  exact k.nx σ H F ρ fp .refl ok h
theorem ls_seq : ∀ D σ H, LS G (wSeq t u) D σ H → tSeq (LS G t) (LS G u) D σ H := fun D σ H q => by
  obtain ⟨F, ρ, fp, Dd, ok, h, k⟩ := q
  exact ⟨F, ρ, fp, { Dd with nx := u Dd }, ok, h, ⟨fun σ' H' F' ρ' fp' s ok' q => ⟨F', ρ', fp', Dd, ok', q, k.after s⟩, k.rt, k.bk, k.ct⟩⟩
theorem ds_cons (h1 : PS X st (LS G t)) (h2 : PSs X sts (LS G u)) : PSs X (st :: sts) (LS G (wSeq t u)) := imSs (pss_cons h1 h2) ls_seq
theorem ds_one (h1 : PS X st (LS G t)) : PSs X [st] (LS G t) := pss_one h1
theorem ds_pass : PS X (.Pass pos) (LS G wNext) := imS ps_pass fun D σ H q => by
  obtain ⟨F, ρ, fp, Dd, ok, h, k⟩ := q
  exact k.nx σ H F ρ fp .refl ok h
theorem ds_break : PS X (.Break pos) (LS G wBreak) := imS ps_break fun D σ H q => by
  obtain ⟨F, ρ, fp, Dd, ok, h, k⟩ := q
  exact k.bk σ H F ρ fp .refl ok h
theorem ds_continue : PS X (.Continue pos) (LS G wCont) := imS ps_continue fun D σ H q => by
  obtain ⟨F, ρ, fp, Dd, ok, h, k⟩ := q
  exact k.ct σ H F ρ fp .refl ok h
theorem ds_never : PS X st (LS G wNever) := imS ps_never fun D σ H q => by
  obtain ⟨F, ρ, fp, Dd, ok, h, k⟩ := q
  exact h
theorem dss_never : PSs X sts (LS G wNever) := imSs pss_never fun D σ H q => by
  obtain ⟨F, ρ, fp, Dd, ok, h, k⟩ := q
  exact h
def wDrop (we : WE) : WS := fun Dd ρ => we ρ fun _ ρ1 => Dd.nx ρ1
theorem ds_expr (he : PE X e (LE G we)) (hs : swapsWith e none pos.line X.env = pure false := by rfl) : PS X (.Expr e pos) (LS G (wDrop we)) := imS (ps_expr he hs) fun D σ H q => by
  obtain ⟨F, ρ, fp, Dd, ok, h, k⟩ := q
  exact ⟨F, ρ, fp, _, ok, h, fun v H1 F1 ρ1 fp1 r fr en rr q => k.nx σ H1 F1 ρ1 fp1 en.st0 en.ok q⟩
theorem ds_doc {x j pos pos'} : PS X (.Expr (.Constant (.str x) j pos) pos') (LS G wNext) := imS ps_doc fun D σ H q => by
  obtain ⟨F, ρ, fp, Dd, ok, h, k⟩ := q
  exact k.nx σ H F ρ fp .refl ok h
def wRet (we : WE) : WS := fun Dd ρ => we ρ Dd.rt
def wRetN : WS := fun Dd ρ => Dd.rt .non ρ
theorem ds_ret (he : PE X e (LE G we)) : PS X (.Return (some e) pos) (LS G (wRet we)) := imS (ps_ret he) fun D σ H q => by
  obtain ⟨F, ρ, fp, Dd, ok, h, k⟩ := q
  exact ⟨F, ρ, fp, _, ok, h, fun v H1 F1 ρ1 fp1 r fr en rr q => k.rt v σ H1 F1 ρ1 fp1 r fr en.st en.ok en.nd rr q⟩
theorem ds_retN : PS X (.Return none pos) (LS G wRetN) := imS ps_retN fun D σ H q => by
  obtain ⟨F, ρ, fp, Dd, ok, h, k⟩ := q
  exact k.rt .non σ H F ρ fp .non [] .refl ok (by simpa using ok.nd) (.inl .non) h
def wIfS (c : WT) (t u : WS) : WS := fun Dd ρ => c ρ fun b ρ1 => if b = true then t Dd ρ1 else u Dd ρ1
theorem ds_if (hc : PT X c (LT G tc)) (ha : PSs X sts (LS G t)) (hb : PSs X sts2 (LS G u)) : PS X (.If c sts sts2 pos) (LS G (wIfS tc t u)) := imS (ps_if hc ha hb) fun D σ H q => by
  obtain ⟨F, ρ, fp, Dd, ok, h, k⟩ := q
  refine ⟨F, ρ, fp, _, ok, h, fun b H1 F1 ρ1 fp1 en q => ?_⟩
  cases b <;> exact ⟨F1, ρ1, fp1, Dd, en.ok, q, k.after en.st0⟩

/-! ### targets -/
abbrev WG := D → Sl → (Sl → Prop) → Prop
abbrev WGs := List D → Sl → (Sl → Prop) → Prop
/-- the slots but those of S are as they were -/
structure Off (S : List Nat) (σ σ' : L2.St) : Prop where
  len : σ'.length = σ.length
  at_ : ∀ j, j ∉ S → σ'[j]? = σ[j]?
def LG (G : Gc) (g : WG) (S : List Nat) : TG := fun v σ H Q => ∃ F ρ fp r fr Qd, Ok G F H σ ρ fp ∧ Rr G F H σ v r fr ∧ ((fr ++ fp).Nodup ∧ ∀ a ∈ fr, a ∈ G.fp0 ∨ G.H0 a = none) ∧ g r ρ Qd ∧
  ∀ σ' H' F' ρ' fp', Step G.ca.tb F H (fr ++ fp) F' H' fp' → Ok G F' H' σ' ρ' fp' → Off S σ σ' → Qd ρ' → Q σ' H'
def LGs (G : Gc) (g : WGs) (S : List Nat) : TGs := fun vs σ H Q => ∃ F ρ fp ds fr Qd, Ok G F H σ ρ fp ∧ RpL G.K G.ca F H vs ds fr ∧ ((fr ++ fp).Nodup ∧ ∀ a ∈ fr, a ∈ G.fp0 ∨ G.H0 a = none) ∧ g ds ρ Qd ∧
  ∀ σ' H' F' ρ' fp', Step G.ca.tb F H (fr ++ fp) F' H' fp' → Ok G F' H' σ' ρ' fp' → Off S σ σ' → Qd ρ' → Q σ' H'
theorem imG {t u : TG} (h : PG X e t) (i : ∀ v σ H Q, u v σ H Q → t v σ H Q) : PG X e u := ⟨fun pins s σ H x v Q I r q => h.run pins s σ H x v Q I r (i x σ H Q q)⟩
theorem imGs {es : List Expr} {t u : TGs} (h : PGs X es t) (i : ∀ v σ H Q, u v σ H Q → t v σ H Q) : PGs X es u := ⟨fun pins s σ H x v Q I r q => h.run pins s σ H x v Q I r (i x σ H Q q)⟩
/-- a name: what is stored is shared -/
def gFz (i : Nat) : WG := fun r ρ Q => ∃ d ρ1, fzR ρ r = some (d, ρ1) ∧ Q (ρ1.set i (some d))
/-- a name: what is new stays owned -/
def owR (ρ : Sl) : D → Option (D × Sl)
  | .sl j => fzR ρ (.sl j)
  | r => some (r, ρ)
def gOw (i : Nat) : WG := fun r ρ Q => ∃ d ρ1, owR ρ r = some (d, ρ1) ∧ Q (ρ1.set i (some d))
theorem off_set {i : Nat} {x : Option V} : Off [i] σ (σ.set i x) := ⟨by simp, fun j hj => by rw [List.getElem?_set_ne (fun e => hj (by simp [e]))]⟩
theorem Ok.setV {i : Nat} (ok : Ok G F H σ ρ fp) (hi : i < ρ.length) (hpm : ∀ p ∈ G.pm, p.1 ≠ i) (rp : Rp G.K G.ca F H v d fr) (dj : ∀ a ∈ fr, a ∉ fp) (nd : fr.Nodup) (hr : ∀ a ∈ fr, a ∈ G.fp0 ∨ G.H0 a = none) : ∃ fp', Ok G F H (σ.set i (some v)) (ρ.set i (some d)) fp' ∧ ∀ a ∈ fp', a ∈ fr ++ fp := by
  obtain ⟨l, fs, r, e1, _, _, _, h4⟩ := ok.rs.at_ hi
  have nd2 := ok.nd
  rw [e1] at nd2
  refine ⟨l ++ fr ++ r, ⟨h4 v d fr rp, ?_, ok.dom, fun p hp => ?_, ⟨ok.rch.mono, ok.rch.new, ok.rch.kept, ok.rch.there, fun a z => ?_, ok.rch.tab⟩⟩, fun a z => ?_⟩
  · rw [e1] at dj
    refine nodup_of (nodup_of (nodup_l (nodup_l nd2)) nd fun a z y => dj a y (by simp [z])) (nodup_r nd2) fun a z y => ?_
    rcases List.mem_append.mp z with z | z
    · exact nodup_d nd2 a (List.mem_append_left _ z) y
    · exact dj a z (by simp [y])
  · rw [List.getElem?_set_ne (Ne.symm (hpm p hp))]
    exact ok.pm p hp
  · rcases List.mem_append.mp z with z | z
    · rcases List.mem_append.mp z with z | z
      · exact ok.rch.fps a (by rw [e1]; simp [z])
      · exact hr a z
    · exact ok.rch.fps a (by rw [e1]; simp [z])
  · rw [e1]
    rcases List.mem_append.mp z with z | z
    · rcases List.mem_append.mp z with z | z <;> simp [z]
    · simp [z]
theorem pmne {own : List Nat} {i : Nat} (h : G.pm.map (·.1) = own) (hi : own.all (fun j => j != i) = true := by decide) : ∀ p ∈ G.pm, p.1 ≠ i := fun p hp e => by
  have : p.1 ∈ own := by rw [← h]; exact List.mem_map.mpr ⟨p, hp, rfl⟩
  have := List.all_eq_true.mp hi _ this
  simp [e] at this
theorem fz_len {ρ : Sl} {r d : D} {ρ1 : Sl} (h : fzR ρ r = some (d, ρ1)) : ρ1.length = ρ.length := by
  unfold fzR at h
  split at h
  · split at h
    · cases h; simp
    · cases h
  · cases h; rfl
theorem dg_name {i : Nat} {x : Str} {pos : Pos} (hN : X.N.Nodup) (hi : X.N[i]? = some x) (hx : Loc X.env.scope x) (hpm : ∀ p ∈ G.pm, p.1 ≠ i) (hf : X.fn x = true ∨ X.env.scope.names.lookup x = some .local := by first | exact .inl rfl | exact .inr rfl | assumption) :
    PG X (.Name x pos) (LG G (gFz i) [i]) := ⟨fun pins s σ H v u Q I rv q => by
  obtain ⟨F, ρ, fp, r, fr, Qd, ok, rr, ⟨nd, hr⟩, ⟨d, ρ1, e, q⟩, k⟩ := q
  have hl : i < ρ.length := by
    rw [← ok.rs.length, I.len]
    exact (List.getElem?_eq_some_iff.mp hi).1
  obtain ⟨F1, fp1, s1, rp⟩ := rr.share ok nd hr e
  obtain ⟨fp2, ok2, sub⟩ := s1.ok.setV (i := i) (by rw [fz_len e]; exact hl) hpm rp (fun a z => nomatch z) (by simp) (fun a z => nomatch z)
  exact (pg_name hN hi hx hf).run pins s σ H v u Q I rv (k _ H F1 _ fp2 (s1.step.less sub) ok2 off_set q)⟩
theorem dg_own {i : Nat} {x : Str} {pos : Pos} (hN : X.N.Nodup) (hi : X.N[i]? = some x) (hx : Loc X.env.scope x) (hpm : ∀ p ∈ G.pm, p.1 ≠ i) (hf : X.fn x = true ∨ X.env.scope.names.lookup x = some .local := by first | exact .inl rfl | exact .inr rfl | assumption) :
    PG X (.Name x pos) (LG G (gOw i) [i]) := ⟨fun pins s σ H v u Q I rv q => by
  obtain ⟨F, ρ, fp, r, fr, Qd, ok, rr, ⟨nd, hr⟩, ⟨d, ρ1, e, q⟩, k⟩ := q
  have hl : i < ρ.length := by
    rw [← ok.rs.length, I.len]
    exact (List.getElem?_eq_some_iff.mp hi).1
  rcases rr with rp | ⟨j, rfl, ev, rfl⟩
  · have e' : (r, ρ) = (d, ρ1) := by
      have : owR ρ r = some (r, ρ) := by cases rp <;> rfl
      rw [this] at e
      exact Option.some.inj e
    cases e'
    obtain ⟨fp2, ok2, sub⟩ := ok.setV hl hpm rp (nodup_d nd) (nodup_l nd) hr
    exact (pg_name hN hi hx hf).run pins s σ H v u Q I rv (k _ H F _ fp2 ⟨fun _ z => z, fun _ z => .inl z, fun _ _ e _ _ => e, fun _ o e => ⟨o, e⟩, fun a z => .inl (sub a z), fun h => h⟩ ok2 off_set q)
  · have e : fzR ρ (.sl j) = some (d, ρ1) := e
    obtain ⟨F1, fp1, s1, rp⟩ := Rr.share ok (.inr ⟨j, rfl, ev, rfl⟩) nd (fun a z => nomatch z) e
    obtain ⟨fp2, ok2, sub⟩ := s1.ok.setV (i := i) (by rw [fz_len e]; exact hl) hpm rp (fun a z => nomatch z) (by simp) (fun a z => nomatch z)
    exact (pg_name hN hi hx hf).run pins s σ H v u Q I rv (k _ H F1 _ fp2 (s1.step.less sub) ok2 off_set q)⟩
def wgNil : WGs := fun ds ρ Q => ds = [] ∧ Q ρ
def wgCons (g : WG) (gs : WGs) : WGs := fun ds ρ Q => ∃ d r, ds = d :: r ∧ g d ρ fun ρ1 => gs r ρ1 Q
theorem dgs_nil : PGs X [] (LGs G wgNil []) := imGs pgs_nil fun vs σ H Q q => by
  obtain ⟨F, ρ, fp, ds, fr, Qd, ok, rl, ⟨nd, hr⟩, ⟨rfl, q⟩, k⟩ := q
  cases rl
  exact ⟨rfl, k σ H F ρ fp .refl ok ⟨rfl, fun _ _ => rfl⟩ q⟩
theorem dgs_cons {es : List Expr} {g : WG} {gs : WGs} {S S' : List Nat} (h1 : PG X e (LG G g S)) (h2 : PGs X es (LGs G gs S'))
    (hs : (assignEach (e :: es) X.env).map (·.2) = assign e X.env :: (assignEach es X.env).map (·.2) := by rfl) : PGs X (e :: es) (LGs G (wgCons g gs) (S ++ S')) := imGs (pgs_cons h1 h2 hs) fun vs σ H Q q => by
  obtain ⟨F, ρ, fp, ds, fr, Qd, ok, rl, ⟨nd, hr⟩, ⟨d, r, rfl, q⟩, k⟩ := q
  cases rl with
  | @cons v vs _ _ f1 f2 rp rt =>
    rw [List.append_assoc] at nd
    have nd1 : (f1 ++ fp).Nodup := nodup_of (nodup_l nd) (nodup_r (nodup_r nd)) fun a z y => nodup_d nd a z (List.mem_append_right _ y)
    refine ⟨v, vs, rfl, F, ρ, fp, d, f1, _, ok, .inl rp, ⟨nd1, fun a z => hr a (List.mem_append_left _ z)⟩, q, fun σ1 H1 F1 ρ1 fp1 s1 ok1 of1 q1 => ?_⟩
    have hF : ∀ a ∈ f1 ++ fp, ¬ F a := fun a z => (List.mem_append.mp z).elim (fun z => (rp.own a z).1) (ok.nf a)
    have dj : ∀ a ∈ f2, a ∉ f1 ++ fp := fun a z y => (List.mem_append.mp y).elim (fun y => nodup_d nd a y (List.mem_append_left _ z)) fun y => nodup_d (nodup_r nd) a z y
    refine ⟨F1, ρ1, fp1, r, f2, Qd, ok1, rt.step s1 hF dj, ⟨nodup_of (nodup_l (nodup_r nd)) ok1.nd fun a z y => ?_, fun a z => hr a (List.mem_append_right _ z)⟩, q1, fun σ2 H2 F2 ρ2 fp2 s2 ok2 of2 q2 => k σ2 H2 F2 ρ2 fp2 ?_ ok2 ⟨of2.len.trans of1.len, fun j hj => (of2.at_ j fun z => hj (List.mem_append_right _ z)).trans (of1.at_ j fun z => hj (List.mem_append_left _ z))⟩ q2⟩
    · rcases s1.fps a y with w | w
      · exact dj a z w
      · obtain ⟨_, o, eo, _⟩ := rt.own a z
        rw [eo] at w; cases w
    · have := (s1.frame f2).trans s2
      exact this.more fun x z => by
        rcases List.mem_append.mp z with z | z
        · simp [z]
        · rcases List.mem_append.mp z with z | z <;> simp [z]
/-- a tuple's items to targets -/
def gUnp (n : Nat) (gs : WGs) : WG := fun r ρ Q => ∃ ds, (r = .tup ds ∨ r = .tpo ds) ∧ ds.length = n ∧ gs ds ρ Q
theorem dg_tup {es : List Expr} {k : Nat} {gs : WGs} {n : Nat} {S : List Nat} (hc : X.calm = true) (hK : X.K = G.K) (h : PGs X es (LGs G gs S)) (hn : (assignEach es X.env).length = n := by rfl) (hst : (assignEach es X.env).findIdx? (·.1) = none := by rfl) : PG X (.Tuple es k pos) (LG G (gUnp n gs) S) := by
  refine imG (pg_tup hc h hn hst) fun v σ H Q q => ?_
  obtain ⟨F, ρ, fp, r, fr, Qd, ok, rr, nd, ⟨ds, e, l, q⟩, kk⟩ := q
  have z : ∃ a vs, v = .ref a ∧ SqT G.K H a vs ∧ RpL G.K G.ca F H vs ds fr := by
    rcases rr with rp | ⟨i, rfl, _, _⟩
    · rcases e with rfl | rfl
      · cases rp with
        | tup s t => exact ⟨_, _, rfl, s.sq, t⟩
      · cases rp with
        | tpo s t => exact ⟨_, _, rfl, s.sq, t⟩
    · rcases e with e | e <;> cases e
  obtain ⟨a, vs, rfl, s, rl⟩ := z
  rw [hK]
  exact ⟨a, vs, rfl, s, by rw [rl.length]; exact l, F, ρ, fp, ds, fr, Qd, ok, rl, nd, q, kk⟩
/-- a list's items to targets -/
def gUnpL (n : Nat) (gs : WGs) : WG := fun r ρ Q => ∃ b ds, pk ρ r = some (.lst b ds) ∧ ds.length = n ∧ gs ds ρ Q

/-! ### assignment -/
def wAsg (we : WE) (g : WG) : WS := fun Dd ρ => we ρ fun r ρ1 => g r ρ1 Dd.nx
theorem ls_asg {g : WG} {S : List Nat} : ∀ D σ H, LS G (wAsg we g) D σ H → tAsg (LE G we) (LG G g S) D σ H := fun D σ H q => by
  obtain ⟨F, ρ, fp, Dd, ok, h, k⟩ := q
  exact ⟨F, ρ, fp, _, ok, h, fun v H1 F1 ρ1 fp1 r fr en rr q => ⟨F1, ρ1, fp1, r, fr, Dd.nx, en.ok, rr, ⟨en.nd, en.hr ok⟩, q, fun σ' H' F' ρ' fp' s ok' _ q' => k.nx σ' H' F' ρ' fp' (en.st.trans s) ok' q'⟩⟩
theorem ds_asg {tg e : Expr} {g : WG} {S : List Nat} (he : PE X e (LE G we)) (hg : PG X tg (LG G g S)) (hs : swapsWithSole [tg] e pos.line X.env = pure false := by rfl) (hw : swappedStores [tg] e X.env = pure none := by rfl) (h1 : (assignEach [tg] X.env).map (·.2) = [assign tg X.env] := by rfl) : PS X (.Assign [tg] e pos) (LS G (wAsg we g)) := imS (ps_asg he hg hs hw h1) ls_asg

/-! ### while -/
def wWhile (t : WT) (wb : WS) : WS := fun Dd ρ => ∃ (I : Sl → Prop) (μ : Sl → Nat), I ρ ∧ ∀ ρ, I ρ → t ρ fun b ρ1 => if b = true then wb { Dd with nx := fun ρ' => I ρ' ∧ μ ρ' < μ ρ, ct := fun ρ' => I ρ' ∧ μ ρ' < μ ρ, bk := Dd.nx } ρ1 else Dd.nx ρ1
theorem ds_while (hp : PassesOwn (model X.prog X.w) X.A X.env X.xe) (hc : PT X c (LT G tc)) (hb : PSs X sts (LS G u)) : PS X (.While c sts [] pos) (LS G (wWhile tc u)) := imS (ps_while hp hc hb) fun D σ H q => by
  obtain ⟨F, ρ, fp, Dd, ok, ⟨I, μ, i0, h⟩, k⟩ := q
  refine ⟨fun m σ' H' => ∃ F' ρ' fp', Step G.ca.tb F H fp F' H' fp' ∧ Ok G F' H' σ' ρ' fp' ∧ I ρ' ∧ m = μ ρ', ⟨_, F, ρ, fp, .refl, ok, i0, rfl⟩, ?_⟩
  rintro m σ1 H1 ⟨F1, ρ1, fp1, s1, ok1, i1, rfl⟩
  refine ⟨F1, ρ1, fp1, _, ok1, h ρ1 i1, fun b H2 F2 ρ2 fp2 en q => ?_⟩
  have s2 := s1.trans en.st0
  cases b with
  | false => exact k.nx σ1 H2 F2 ρ2 fp2 s2 en.ok q
  | true =>
    refine ⟨fun σ' H' => ∃ F' ρ' fp', Step G.ca.tb F H fp F' H' fp' ∧ Ok G F' H' σ' ρ' fp' ∧ I ρ' ∧ μ ρ' < μ ρ1, fun σ' H' ⟨F', ρ', fp', s, ok', i', l⟩ => ⟨_, l, F', ρ', fp', s, ok', i', rfl⟩, ?_⟩
    exact ⟨F2, ρ2, fp2, _, en.ok, q, ⟨fun σ' H' F' ρ' fp' s ok' q => ⟨F', ρ', fp', s2.trans s, ok', q⟩, (k.after s2).rt, (k.after s2).nx, fun σ' H' F' ρ' fp' s ok' q => ⟨F', ρ', fp', s2.trans s, ok', q⟩⟩⟩

/-! ### for -/
/-- a walk: its items -/
abbrev WI := Sl → (List D → Sl → Prop) → Prop
structure ItOk (G : Gc) (F0 : Addr → Prop) (H0 : Hp) (fp0 : List Addr) (J : It) (ds : List D) : Prop where
  go : ∀ i d F H σ ρ fp fq fq', (∀ a ∈ fq, ¬ F0 a) → Step G.ca.tb F0 H0 fq F H fq' → Ok G F H σ ρ fp → ds[i]? = some d → J.go i H ∧ ∀ x H', J.yld i H x H' → ∃ F', En G F H fp σ F' H' ρ fp [] ∧ Rp G.K G.ca F' H' x d []
  stop : ∀ F H σ ρ fp fq fq', (∀ a ∈ fq, ¬ F0 a) → Step G.ca.tb F0 H0 fq F H fq' → Ok G F H σ ρ fp → J.stop ds.length H
def LW (G : Gc) (wi : WI) : TI := fun σ H R => ∃ F ρ fp Kd, Ok G F H σ ρ fp ∧ wi ρ Kd ∧ ∀ J H' F' ρ' fp' ds, En G F H fp σ F' H' ρ' fp' [] → ItOk G F' H' fp' J ds → Kd ds ρ' → R J H'
theorem imI {tg iter : Expr} {t u : TI} (h : PI X tg iter t) (i : ∀ σ H Q, u σ H Q → t σ H Q) : PI X tg iter u := ⟨fun pins s σ H Q I q => h.run pins s σ H Q I (i σ H Q q)⟩
def wFor (wi : WI) (g : WG) (wb : WS) : WS := fun Dd ρ => wi ρ fun ds ρ1 => ∃ I : Nat → Sl → Prop, I 0 ρ1 ∧
  (∀ i d ρ, ds[i]? = some d → I i ρ → g d ρ fun ρ2 => wb { Dd with nx := I (i + 1), ct := I (i + 1), bk := Dd.nx } ρ2) ∧ ∀ ρ, I ds.length ρ → Dd.nx ρ
theorem ds_for {iter tg : Expr} {wi : WI} {g : WG} {S : List Nat} (hp : PassesOwn (model X.prog X.w) X.A X.env X.xe) (hc : X.calm = true) (hi : PI X tg iter (LW G wi)) (hg : PG X tg (LG G g S)) (hb : PSs X sts (LS G u))
    (hs : ∀ x, foldedSetIterable iter X.env x = pure x := by intro _; rfl) : PS X (.For tg iter sts [] pos) (LS G (wFor wi g u)) := imS (ps_for hp hc hi hg hb hs) fun D σ H q => by
  obtain ⟨F, ρ, fp, Dd, ok, h, k⟩ := q
  refine ⟨F, ρ, fp, _, ok, h, fun J H1 F1 ρ1 fp1 ds en it q => ?_⟩
  obtain ⟨I, i0, turn, done⟩ := q
  refine ⟨fun i m σ' H' => m = ds.length - i ∧ i ≤ ds.length ∧ ∃ F' ρ' fp', Step G.ca.tb F1 H1 fp1 F' H' fp' ∧ Ok G F' H' σ' ρ' fp' ∧ I i ρ', ⟨_, rfl, Nat.zero_le _, F1, ρ1, fp1, .refl, en.ok, i0⟩, ?_⟩
  rintro i m σ2 H2 ⟨rfl, hi, F2, ρ2, fp2, s2, ok2, i2⟩
  have sA := en.st0.trans s2
  by_cases hlt : i < ds.length
  · obtain ⟨go, yl⟩ := it.go i ds[i] F2 H2 σ2 ρ2 fp2 _ _ en.ok.nf s2 ok2 (by simp [hlt])
    refine .inr ⟨go, fun σ' H' => ∃ F' ρ' fp', Step G.ca.tb F1 H1 fp1 F' H' fp' ∧ Ok G F' H' σ' ρ' fp' ∧ I (i + 1) ρ', fun σ' H' z => ⟨_, by omega, rfl, hlt, z⟩, fun x H3 y => ?_⟩
    obtain ⟨F3, en3, rp⟩ := yl x H3 y
    refine ⟨F3, ρ2, fp2, ds[i], [], _, en3.ok, .inl rp, ⟨by simpa using en3.ok.nd, fun a z => nomatch z⟩, turn i ds[i] ρ2 (by simp [hlt]) i2, fun σ4 H4 F4 ρ4 fp4 s4 ok4 _ q4 => ?_⟩
    have s3 : Step G.ca.tb F1 H1 fp1 F4 H4 fp4 := s2.trans (en3.st0.trans s4)
    exact ⟨F4, ρ4, fp4, _, ok4, q4, ⟨fun σ' H' F' ρ' fp' s ok' q => ⟨F', ρ', fp', s3.trans s, ok', q⟩, (k.after (en.st0.trans s3)).rt, (k.after (en.st0.trans s3)).nx, fun σ' H' F' ρ' fp' s ok' q => ⟨F', ρ', fp', s3.trans s, ok', q⟩⟩⟩
  · have e : i = ds.length := by omega
    subst e
    exact .inl ⟨it.stop F2 H2 σ2 ρ2 fp2 _ _ en.ok.nf s2 ok2, k.nx σ2 H2 F2 ρ2 fp2 sA ok2 (done _ i2)⟩
end
end M
/-! M6: the operators by name, equality, in, subscripts, slices. -/
namespace M
open PySem PySem.Spec PyProof.Rows L2

mutual
/-- pure data of the library's own kind -/
def toP : D → PyData
  | .non => .none
  | .bl b => .bool b
  | .int i => .int i
  | .str x => .str x
  | .tup xs => .tuple (toPL xs)
  | .tpo xs => .tuple (toPL xs)
  | .lst _ xs => .list (toPL xs)
  | .lso xs => .list (toPL xs)
  | .dct _ _ _ => .none
  | .dcu _ _ _ => .none
  | .ins _ _ _ _ => .none
  | .opq _ => .none
  | .cls _ => .none
  | .exc _ _ _ => .none
  | .scr _ => .none
  | .sl _ => .none
def toPL : List D → List PyData
  | [] => []
  | x :: xs => toP x :: toPL xs
end
mutual
def dt : D → Bool
  | .tup xs => dtL xs
  | .tpo xs => dtL xs
  | .lst _ xs => dtL xs
  | .lso xs => dtL xs
  | .non => true
  | .bl _ => true
  | .int _ => true
  | .str _ => true
  | .dct _ _ _ => false
  | .dcu _ _ _ => false
  | .ins _ _ _ _ => false
  | .opq _ => false
  | .cls _ => false
  | .exc _ _ _ => false
  | .scr _ => false
  | .sl _ => false
def dtL : List D → Bool
  | [] => true
  | x :: xs => dt x && dtL xs
end
/-- pure data of good strs, not deep -/
def shp (d : D) : Bool := dt d && SeqAt.shaped (toP d)
def eqD (x y : D) : Bool := PyData.eqv (toP x) (toP y)

section
variable {G : Gc} {X : Cx} {F F' F1 F2 : Addr → Prop} {H H' H1 H2 : Hp} {σ σ' : L2.St} {ρ ρ' ρ1 ρ2 : Sl} {fp fp' fp1 fp2 fr fr1 fr2 : List Addr} {v v1 v2 : V} {r r1 r2 d : D} {p : Addr} {o : HO}
  {a b c e : Expr} {wa wb wc we : WE} {ta tb tc : WT} {rest : List Expr} {pos : Pos} {K : PySem.W.Frag} {ca : Cax}

mutual
theorem Rp.dp : ∀ {d : D} {v : V} {fr : List Addr}, Rp K ca F H v d fr → dt d = true → Dp K H v (toP d)
  | .non, _, _, .non, _ => .non
  | .bl _, _, _, .bl b, _ => .bl b
  | .int _, _, _, .int i, _ => .int i
  | .str _, _, _, .str x, _ => .str x
  | .tup ds, _, _, .tup s r, h => .tup s.sq (RpL.dp r h)
  | .tpo ds, _, _, .tpo s r, h => .tup s.sq (RpL.dp r h)
  | .lst false ds, _, _, .lfz s f r, h => .lst (.of s) (RpL.dp r h)
  | .lst true ds, _, _, .low s f r, h => .lst (.of s) (RpL.dp r h)
  | .lso ds, _, _, .lso s f r, h => .lst (.of s) (RpL.dp r h)
theorem RpL.dp : ∀ {ds : List D} {vs : List V} {fr : List Addr}, RpL K ca F H vs ds fr → dtL ds = true → DpAll K H vs (toPL ds)
  | [], _, _, .nil, _ => .nil
  | _ :: _, _, _, .cons r t, h => by
    have h' := Bool.and_eq_true_iff.mp h
    exact .cons (Rp.dp r h'.1) (RpL.dp t h'.2)
end
theorem Rr.dp (ok : Ok G F H σ ρ fp) (h : Rr G F H σ v r fr) (e : pk ρ r = some d) (hd : dt d = true) : Dp G.K H v (toP d) := by
  obtain ⟨_, rp, _⟩ := h.see ok e
  exact rp.dp hd

/-! ### equality -/
/-- scalars as values -/
def sc : D → Option V
  | .non => some .non
  | .bl b => some (.bl b)
  | .int i => some (.int i)
  | .str x => some (.str x)
  | _ => none
theorem Rp.sc {d : D} {u : V} (h : Rp K ca F H v d fr) (e : sc d = some u) : v = u ∧ fr = [] := by
  cases h <;> first | (cases e; exact ⟨rfl, rfl⟩) | (simp [M.sc] at e)
theorem Rr.sc {d : D} {u : V} (h : Rr G F H σ v d fr) (e : sc d = some u) : v = u ∧ fr = [] := by
  rcases h with h | ⟨i, rfl, _⟩
  · exact h.sc e
  · simp [M.sc] at e
/-- == | != of scalars, by value -/
def oSc (g : Bool → Bool) : O2 := fun ρ x y K => ∃ u w, sc x = some u ∧ sc y = some w ∧ scal u w = true ∧ K (.bl (g (decide (u = w))))
theorem oSc_eq : O2Ok G rEq (oSc id) := fun F H σ ρ fp v1 v2 x y f1 f2 Kd Q ok r1 r2 nd h k => by
  obtain ⟨u, w, e1, e2, s, q⟩ := h
  obtain ⟨rfl, _⟩ := r1.sc e1
  obtain ⟨rfl, _⟩ := r2.sc e2
  exact ⟨s, k _ H F _ [] (En.refl ok) (.bl _) q⟩
theorem oSc_ne : O2Ok G rNe (oSc not) := fun F H σ ρ fp v1 v2 x y f1 f2 Kd Q ok r1 r2 nd h k => by
  obtain ⟨u, w, e1, e2, s, q⟩ := h
  obtain ⟨rfl, _⟩ := r1.sc e1
  obtain ⟨rfl, _⟩ := r2.sc e2
  exact ⟨s, k _ H F _ [] (En.refl ok) (.bl _) q⟩
/-- == | != of data -/
def oDt (g : Bool → Bool) : O2 := fun ρ x y K => ∃ d e, pk ρ x = some d ∧ pk ρ y = some e ∧ shp d = true ∧ shp e = true ∧ K (.bl (g (eqD d e)))
theorem oDt_eq : O2Ok G (rEqD G.K) (oDt id) := fun F H σ ρ fp v1 v2 x y f1 f2 Kd Q ok r1 r2 nd h k => by
  obtain ⟨d, e, e1, e2, s1, s2, q⟩ := h
  have t1 := Bool.and_eq_true_iff.mp s1
  have t2 := Bool.and_eq_true_iff.mp s2
  exact ⟨toP d, toP e, r1.dp ok e1 t1.1, r2.dp ok e2 t2.1, t1.2, t2.2, k _ H F _ [] (En.refl ok) (.bl _) q⟩
theorem oDt_ne : O2Ok G (rNeD G.K) (oDt not) := fun F H σ ρ fp v1 v2 x y f1 f2 Kd Q ok r1 r2 nd h k => by
  obtain ⟨d, e, e1, e2, s1, s2, q⟩ := h
  have t1 := Bool.and_eq_true_iff.mp s1
  have t2 := Bool.and_eq_true_iff.mp s2
  exact ⟨toP d, toP e, r1.dp ok e1 t1.1, r2.dp ok e2 t2.1, t1.2, t2.2, k _ H F _ [] (En.refl ok) (.bl _) q⟩
def oEq : O2 := oOr (oSc id) (oDt id)
def oNe : O2 := oOr (oSc not) (oDt not)
/-- is None -/
def isN : D → Bool
  | .non => true
  | .opq v => decide (v = .non)
  | _ => false
def oIsN (g : Bool → Bool) : O2 := fun ρ x y K => y = .non ∧ ∃ d, pk ρ x = some d ∧ K (.bl (g (isN d)))
theorem Rp.isN {d : D} (h : Rp K ca F H v d fr) : decide (v = .non) = M.isN d := by
  cases h <;> first | rfl | simp [M.isN]
theorem oIsN_is : O2Ok G (fun x y H Q => y = .non ∧ Q (.bl (decide (x = .non))) H) (oIsN id) := fun F H σ ρ fp v1 v2 x y f1 f2 Kd Q ok r1 r2 nd h k => by
  obtain ⟨rfl, d, e, q⟩ := h
  obtain ⟨rfl, _⟩ := r2.sc (u := .non) rfl
  obtain ⟨_, rp, _⟩ := r1.see ok e
  refine ⟨rfl, ?_⟩
  rw [rp.isN]
  exact k _ H F _ [] (En.refl ok) (.bl _) q
theorem oIsN_not : O2Ok G (fun x y H Q => y = .non ∧ Q (.bl (!decide (x = .non))) H) (oIsN not) := fun F H σ ρ fp v1 v2 x y f1 f2 Kd Q ok r1 r2 nd h k => by
  obtain ⟨rfl, d, e, q⟩ := h
  obtain ⟨rfl, _⟩ := r2.sc (u := .non) rfl
  obtain ⟨_, rp, _⟩ := r1.see ok e
  refine ⟨rfl, ?_⟩
  rw [rp.isN]
  exact k _ H F _ [] (En.refl ok) (.bl _) q

/-! ### in -/
def scL : List D → Option (List V)
  | [] => some []
  | x :: xs => match sc x, scL xs with
    | some v, some vs => some (v :: vs)
    | _, _ => none
theorem sc_flat {d : D} {u : V} (e : sc d = some u) : flatV u = true := by
  cases d <;> simp [sc] at e <;> subst e <;> rfl
theorem scL_flat : ∀ {ds : List D} {us : List V}, scL ds = some us → us.all flatV = true
  | [], us, e => by cases e; rfl
  | d :: ds, us, e => by
    unfold scL at e
    split at e
    · rename_i v vs h1 h2
      cases e
      rw [List.all_cons, sc_flat h1, scL_flat h2]; rfl
    · cases e
theorem RpL.scL : ∀ {ds : List D} {vs us : List V} {fr : List Addr}, RpL K ca F H vs ds fr → scL ds = some us → vs = us
  | [], _, us, _, .nil, e => by cases e; rfl
  | d :: ds, _, us, _, .cons r t, e => by
    unfold M.scL at e
    split at e
    · rename_i v vs h1 h2
      cases e
      rw [(r.sc h1).1, RpL.scL t h2]
    · cases e
/-- of scalars in a list or tuple of scalars -/
def oInF (neg : Bool) : O2 := fun ρ x y K => ∃ u d ds us, sc x = some u ∧ pk ρ y = some d ∧ its d = some ds ∧ scL ds = some us ∧ K (.bl (if neg then !inV u us else inV u us))
theorem oInF_ok (neg : Bool) : O2Ok G (rIn G.K neg) (oInF neg) := fun F H σ ρ fp v1 v2 x y f1 f2 Kd Q ok r1 r2 nd h k => by
  obtain ⟨u, d, ds, us, e1, e2, e3, e4, q⟩ := h
  obtain ⟨rfl, _⟩ := r1.sc e1
  obtain ⟨fs, rp, _⟩ := r2.see ok e2
  obtain ⟨a, vs, rfl, rl, s⟩ := rp.its e3
  have ev := rl.scL e4
  subst ev
  refine ⟨a, vs, rfl, ?_, sc_flat e1, scL_flat e4, k _ H F _ [] (En.refl ok) (.bl _) q⟩
  rcases s with ⟨s, _⟩ | ⟨s, _⟩
  · exact .inl (.of s)
  · exact .inr s.sq
/-- data in a list of data -/
def oInD (g : Bool → Bool) : O2 := fun ρ x y K => ∃ d b ds, pk ρ x = some d ∧ pk ρ y = some (.lst b ds) ∧ shp d = true ∧ shp (.lst b ds) = true ∧ K (.bl (g (ds.any fun z => eqD z d)))
theorem toPL_any (d : D) : ∀ ds : List D, (toPL ds).any (fun z => PyData.eqv z (toP d)) = ds.any fun z => eqD z d
  | [] => rfl
  | x :: xs => by
    show (PyData.eqv (toP x) (toP d) || (toPL xs).any _) = _
    rw [toPL_any d xs]; rfl
theorem oInD_in : O2Ok G (rInD G.K) (oInD id) := fun F H σ ρ fp v1 v2 x y f1 f2 Kd Q ok r1 r2 nd h k => by
  obtain ⟨d, b, ds, e1, e2, s1, s2, q⟩ := h
  have t1 := Bool.and_eq_true_iff.mp s1
  have t2 := Bool.and_eq_true_iff.mp s2
  refine ⟨toP d, toPL ds, r1.dp ok e1 t1.1, r2.dp ok e2 t2.1, t1.2, t2.2, ?_⟩
  rw [toPL_any]
  exact k _ H F _ [] (En.refl ok) (.bl _) q
theorem oInD_not : O2Ok G (rNotInD G.K) (oInD not) := fun F H σ ρ fp v1 v2 x y f1 f2 Kd Q ok r1 r2 nd h k => by
  obtain ⟨d, b, ds, e1, e2, s1, s2, q⟩ := h
  have t1 := Bool.and_eq_true_iff.mp s1
  have t2 := Bool.and_eq_true_iff.mp s2
  refine ⟨toP d, toPL ds, r1.dp ok e1 t1.1, r2.dp ok e2 t2.1, t1.2, t2.2, ?_⟩
  rw [toPL_any]
  exact k _ H F _ [] (En.refl ok) (.bl _) q
/-- a str in a str -/
def occ (i j : Str) : Bool := !(Builtin.Str.occurrences j i 0 j.length 1).isEmpty
def oIn : O2 := oOr (oInF false) (oOr (oInD id) (oS (fun _ _ => True) fun i j => .bl (occ i j)))
def oNotIn : O2 := oOr (oInF true) (oOr (oInD not) (oS (fun _ _ => True) fun i j => .bl (!occ i j)))
theorem oS0_ok {g : Str → Str → V} {g' : Str → Str → D} (hg : ∀ K ca F H i j, Rp K ca F H (g i j) (g' i j) []) : O2Ok G (fun x y H Q => ∃ i j, x = .str i ∧ y = .str j ∧ Q (g i j) H) (oS (fun _ _ => True) g') := fun F H σ ρ fp v1 v2 x y f1 f2 Kd Q ok r1 r2 nd h k => by
  obtain ⟨i, j, rfl, rfl, c, q⟩ := h
  obtain ⟨rfl, _⟩ := r1.str
  obtain ⟨rfl, _⟩ := r2.str
  exact ⟨i, j, rfl, rfl, k _ H F _ [] (En.refl ok) (hg _ _ _ _ i j) q⟩

/-! ### the operators by name -/
def oAdd : O2 := oOr (oI (fun _ _ => True) fun i j => .int (i + j)) (oOr (oS (fun i j => i.length + j.length ≤ sizeLine) fun i j => .str (i ++ j)) (oOr oCatL oCatT))
def oSub : O2 := oI (fun _ _ => True) fun i j => .int (i - j)
def oMul : O2 := oI CMul fun i j => .int (i * j)
def oFdiv : O2 := oI CDiv fun i j => .int (i / j)
def oMod : O2 := oI (fun _ j => 0 < j) fun i j => .int (i % j)
def oPow : O2 := oI CPow fun i j => .int (i ^ j.toNat)
def oLt : O2 := oI (fun _ _ => True) fun i j => .bl (decide (i < j))
def oLe : O2 := oI (fun _ _ => True) fun i j => .bl (decide (i ≤ j))
def oGt : O2 := oI (fun _ _ => True) fun i j => .bl (decide (j < i))
def oGe : O2 := oI (fun _ _ => True) fun i j => .bl (decide (j ≤ i))
variable (hK : X.K = G.K)
include hK
theorem d_add (ha : PE X a (LE G wa)) (hb : PE X b (LE G wb)) : PE X (.BinOp a .Add b pos) (LE G (wOp oAdd wa wb)) :=
  d_op (op_add.or (op_add_str.or (op_cat.or op_catF))) ((oI0_ok fun _ _ _ _ _ _ => .int _).or ((oS_ok (C := fun i j => i.length + j.length ≤ sizeLine) (g := fun i j => .str (i ++ j)) fun _ _ _ _ _ _ => .str _).or (oCatL_ok.or (hK ▸ oCatT_ok)))) ha hb
omit hK
theorem d_sub (ha : PE X a (LE G wa)) (hb : PE X b (LE G wb)) : PE X (.BinOp a .Sub b pos) (LE G (wOp oSub wa wb)) := d_op op_sub (oI0_ok fun _ _ _ _ _ _ => .int _) ha hb
theorem d_mul (ha : PE X a (LE G wa)) (hb : PE X b (LE G wb)) : PE X (.BinOp a .Mult b pos) (LE G (wOp oMul wa wb)) := d_op op_mul (oI_ok fun _ _ _ _ _ _ => .int _) ha hb
theorem d_fdiv (ha : PE X a (LE G wa)) (hb : PE X b (LE G wb)) : PE X (.BinOp a .FloorDiv b pos) (LE G (wOp oFdiv wa wb)) := d_op op_fdiv (oI_ok fun _ _ _ _ _ _ => .int _) ha hb
theorem d_mod (ha : PE X a (LE G wa)) (hb : PE X b (LE G wb)) : PE X (.BinOp a .Mod b pos) (LE G (wOp oMod wa wb)) := d_op op_mod (oI_ok fun _ _ _ _ _ _ => .int _) ha hb
theorem d_pow (ha : PE X a (LE G wa)) (hb : PE X b (LE G wb)) : PE X (.BinOp a .Pow b pos) (LE G (wOp oPow wa wb)) := d_op op_pow (oI_ok fun _ _ _ _ _ _ => .int _) ha hb
/-- a comparison: its rule, its reading, what stands behind in -/
structure CmpR (X : Cx) (G : Gc) (op : CmpOp) (o : O2) : Prop where
  ex : ∃ r, OpR X (compareOp op) r ∧ O2Ok G r o
theorem c_lt : CmpR X G .Lt oLt := ⟨_, op_lt, oI0_ok fun _ _ _ _ _ _ => .bl _⟩
theorem c_le : CmpR X G .LtE oLe := ⟨_, op_le, oI0_ok fun _ _ _ _ _ _ => .bl _⟩
theorem c_gt : CmpR X G .Gt oGt := ⟨_, op_gt, oI0_ok fun _ _ _ _ _ _ => .bl _⟩
theorem c_ge : CmpR X G .GtE oGe := ⟨_, op_ge, oI0_ok fun _ _ _ _ _ _ => .bl _⟩
theorem c_eq (hK : X.K = G.K) (hu : X.A.units + 64 < cLine) : CmpR X G .Eq oEq := ⟨_, op_eq.or (op_eqD hu), oSc_eq.or (hK ▸ oDt_eq)⟩
theorem c_ne (hK : X.K = G.K) (hu : X.A.units + 64 < cLine) : CmpR X G .NotEq oNe := ⟨_, op_ne.or (op_neD hu), oSc_ne.or (hK ▸ oDt_ne)⟩
theorem c_in (hK : X.K = G.K) (hu : X.A.units + 65 < cLine) : CmpR X G .In oIn := ⟨_, op_in_seq.or ((op_inD hu).or op_in_str), (hK ▸ oInF_ok false).or ((hK ▸ oInD_in).or (oS0_ok fun _ _ _ _ _ _ => .bl _))⟩
theorem c_notIn (hK : X.K = G.K) (hu : X.A.units + 65 < cLine) : CmpR X G .NotIn oNotIn := ⟨_, op_notIn_seq.or ((op_notInD hu).or op_notIn_str), (hK ▸ oInF_ok true).or ((hK ▸ oInD_not).or (oS0_ok fun i j _ _ _ _ => .bl _))⟩
theorem c_is : CmpR X G .Is (oIsN id) := ⟨_, op_isN, oIsN_is⟩
theorem c_isNot : CmpR X G .IsNot (oIsN not) := ⟨_, op_notN, oIsN_not⟩
theorem d_cm {op : CmpOp} {o : O2} (c : CmpR X G op o) (ha : PE X a (LE G wa)) (hb : PE X b (LE G wb)) (hm : behindInMarks op b = false := by rfl) : PE X (.Compare a [op] [b] pos) (LE G (wOp o wa wb)) := let ⟨_, h1, h2⟩ := c.ex; d_cmp h1 h2 ha hb hm
theorem dt_cm {op : CmpOp} {o : O2} (c : CmpR X G op o) (ha : PE X a (LE G wa)) (hb : PE X b (LE G wb)) (hm : behindInMarks op b = false := by rfl) : PT X (.Compare a [op] [b] pos) (LT G (wB (wOp o wa wb))) := let ⟨_, h1, h2⟩ := c.ex; dt_cmp h1 h2 ha hb hm
theorem d_ch {op op' : CmpOp} {o o' : O2} (k : CmpR X G op o) (k' : CmpR X G op' o') (ha : PE X a (LE G wa)) (hb : PE X b (LE G wb)) (hc : PE X c (LE G wc)) (hm : lastMarks [op, op'] [b, c] = false := by with_unfolding_all rfl) :
    PE X (.Compare a [op, op'] [b, c] pos) (LE G (wChain o o' wa wb wc)) := let ⟨_, h1, h2⟩ := k.ex; let ⟨_, h3, h4⟩ := k'.ex; d_chain h1 h3 h2 h4 ha hb hc hm
theorem dt_ch {op op' : CmpOp} {o o' : O2} (k : CmpR X G op o) (k' : CmpR X G op' o') (ha : PE X a (LE G wa)) (hb : PE X b (LE G wb)) (hc : PE X c (LE G wc)) (hm : lastMarks [op, op'] [b, c] = false := by with_unfolding_all rfl) :
    PT X (.Compare a [op, op'] [b, c] pos) (LT G (wB (wChain o o' wa wb wc))) := let ⟨_, h1, h2⟩ := k.ex; let ⟨_, h3, h4⟩ := k'.ex; dt_chain h1 h3 h2 h4 ha hb hc hm
theorem d_neg (ha : PE X a (LE G wa)) : PE X (.UnaryOp .USub a pos) (LE G fun ρ Q => wa ρ fun x ρ1 => ∃ i, x = .int i ∧ Q (.int (-i)) ρ1) := imE (pe_un un_neg ha) fun σ H Q q => by
  obtain ⟨F, ρ, fp, Qd, ok, h, k⟩ := q
  refine ⟨F, ρ, fp, _, ok, h, fun v H1 F1 ρ1 fp1 r fr en rr q => ?_⟩
  obtain ⟨i, rfl, q⟩ := q
  obtain ⟨rfl, rfl⟩ := rr.int
  exact ⟨i, rfl, k _ H1 F1 ρ1 fp1 _ [] en (.inl (.int _)) q⟩

/-! ### subscripts -/
def oIx : O2 := fun ρ x y K => (∃ d ds i u, pk ρ x = some d ∧ its d = some ds ∧ y = .int i ∧ atI ds i = some u ∧ K u) ∨ ∃ z i c, x = .str z ∧ y = .int i ∧ z.length ≤ sizeLine ∧ atI z.cps.toList i = some c ∧ K (.str ⟨#[c]⟩)
theorem RpL.atI {ds : List D} {vs : List V} (h : RpL K ca F H vs ds []) {i : Int} {u : D} (e : atI ds i = some u) : ∃ w, atI vs i = some w ∧ Rp K ca F H w u [] := by
  unfold L2.atI at e ⊢
  rw [h.length]
  cases q : ixN ds.length i with
  | none => rw [q] at e; cases e
  | some j =>
    rw [q] at e
    exact h.at_ (i := j) (d := u) e
theorem oIx_ok : O2Ok G (rIx G.K) oIx := fun F H σ ρ fp v1 v2 x y f1 f2 Kd Q ok r1 r2 nd h k => by
  rcases h with ⟨d, ds, i, u, e1, e2, rfl, e3, q⟩ | ⟨z, i, c, rfl, rfl, hz, e, q⟩
  · obtain ⟨rfl, _⟩ := r2.int
    obtain ⟨fs, rp, _⟩ := r1.see ok e1
    obtain ⟨a, vs, rfl, rl, s⟩ := rp.its e2
    obtain ⟨w, ew, rw_⟩ := rl.atI e3
    have kk := k w H F u [] (En.refl ok) rw_ q
    rcases s with ⟨s, _⟩ | ⟨s, _⟩
    · exact .inl ⟨a, vs, i, w, rfl, rfl, .of s, ew, kk⟩
    · exact .inr (.inl ⟨a, vs, i, w, rfl, rfl, s.sq, ew, kk⟩)
  · obtain ⟨rfl, _⟩ := r1.str
    obtain ⟨rfl, _⟩ := r2.int
    exact .inr (.inr ⟨z, i, c, rfl, rfl, hz, e, k _ H F _ [] (En.refl ok) (.str _) q⟩)
theorem d_ix (hK : X.K = G.K) (ha : PE X a (LE G wa)) (hb : PE X b (LE G wb)) (hs : PlainIx b := by exact fun _ _ => rfl) : PE X (.Subscript a b pos) (LE G (wOp oIx wa wb)) :=
  imE (pe_ix ix_seq ha hb hs) (LE.op (hK ▸ oIx_ok))

/-! ### slices -/
abbrev WO := Sl → (Option Int → Sl → Prop) → Prop
def LO (G : Gc) (w : WO) : TO := fun σ H Q => ∃ F ρ fp Qd, Ok G F H σ ρ fp ∧ w ρ Qd ∧ ∀ i H' F' ρ' fp', En G F H fp σ F' H' ρ' fp' [] → Qd i ρ' → Q i H'
def wNoP : WO := fun ρ Q => Q none ρ
def wP (we : WE) : WO := fun ρ Q => we ρ fun x ρ1 => ∃ i, x = .int i ∧ Q (some i) ρ1
theorem imO {e : Option Expr} {t u : TO} (h : PO X e t) (i : ∀ σ H Q, u σ H Q → t σ H Q) : PO X e u := ⟨fun pins s σ H Q I q => h.run pins s σ H Q I (i σ H Q q)⟩
theorem do_none : PO X none (LO G wNoP) := imO po_none fun σ H Q q => by
  obtain ⟨F, ρ, fp, Qd, ok, h, k⟩ := q
  exact k none H F ρ fp (En.refl ok) h
theorem do_some (he : PE X e (LE G we)) : PO X (some e) (LO G (wP we)) := imO (po_some he) fun σ H Q q => by
  obtain ⟨F, ρ, fp, Qd, ok, h, k⟩ := q
  refine ⟨F, ρ, fp, _, ok, h, fun v H1 F1 ρ1 fp1 r fr en rr q => ?_⟩
  obtain ⟨i, rfl, q⟩ := q
  obtain ⟨rfl, rfl⟩ := rr.int
  exact ⟨i, rfl, k _ H1 F1 ρ1 fp1 en q⟩
/-- the places lo .. hi -/
def cut {α : Type} (xs : List α) (lo hi : Option Int) : List α := (xs.drop (HT.sIx xs.length 0 lo)).take (HT.sIx xs.length xs.length hi - HT.sIx xs.length 0 lo)
def oSl : Sl → D → Option Int → Option Int → (D → Prop) → Prop := fun ρ x lo hi K => (∃ b xs, pk ρ x = some (.lst b xs) ∧ K (.lst true (cut xs lo hi))) ∨ (∃ xs, x = .tup xs ∧ K (.tup (cut xs lo hi))) ∨
  ∃ z, x = .str z ∧ z.length ≤ sizeLine ∧ K (.str (cutS z lo hi))
def wSl (we : WE) (wl wh : WO) : WE := fun ρ Q => we ρ fun x ρ1 => wl ρ1 fun lo ρ2 => wh ρ2 fun hi ρ3 => oSl ρ3 x lo hi fun d => Q d ρ3
end
end M
/-! M7: slices, calls of built-ins, methods. -/
namespace M
open PySem PySem.Spec PyProof.Rows L2

section
variable {G : Gc} {X : Cx} {F F' F1 F2 : Addr → Prop} {H H' H1 H2 : Hp} {σ σ' : L2.St} {ρ ρ' ρ1 ρ2 : Sl} {fp fp' fp1 fp2 fr fr1 fr2 : List Addr} {v v1 v2 : V} {r r1 r2 d : D} {p : Addr} {o : HO}
  {a b c e : Expr} {es : List Expr} {wa wb wc we : WE} {ta tb tc : WT} {rest : List Expr} {pos : Pos} {K : PySem.W.Frag} {ca : Cax}

theorem RpL.cut {ds : List D} {vs : List V} (h : RpL K ca F H vs ds []) (lo hi : Option Int) : RpL K ca F H (cutV vs lo hi) (cut ds lo hi) [] := by
  unfold cutV M.cut
  rw [h.length]
  exact (h.drop _).take _
theorem d_sl {lo hi : Option Expr} {wl wh : WO} {p2 : Pos} (hK : X.K = G.K) (he : PE X e (LE G we)) (hl : PO X lo (LO G wl)) (hu : PO X hi (LO G wh)) : PE X (.Subscript e (.Slice lo hi none p2) pos) (LE G (wSl we wl wh)) :=
  imE (pe_slice (sl_list.or (sl_tupF.or sl_str)) he hl hu) fun σ H Q q => by
    obtain ⟨F, ρ, fp, Qd, ok, h, k⟩ := q
    refine ⟨F, ρ, fp, _, ok, h, fun v H1 F1 ρ1 fp1 x f1 en1 rr1 q => ?_⟩
    refine ⟨F1, ρ1, fp1, _, en1.ok, q, fun i H2 F2 ρ2 fp2 en2 q => ?_⟩
    refine ⟨F2, ρ2, fp2, _, en2.ok, q, fun j H3 F3 ρ3 fp3 en3 q => ?_⟩
    have en := (en1.drop en2).drop en3
    have rr := (rr1.step en2.st en1.ok.nf (nodup_d en1.nd))
    have nd2 : (f1 ++ fp2).Nodup := ((en1.trans en2 rr1.dom)).nd |> fun z => by simpa using z
    have rr3 := rr.step en3.st en2.ok.nf (nodup_d nd2)
    rcases q with ⟨b, xs, e, qq⟩ | ⟨xs, rfl, qq⟩ | ⟨z, rfl, hz, qq⟩
    · obtain ⟨a, vs, rfl, s, rl⟩ := rr3.lst en.ok e
      exact .inl ⟨a, vs, rfl, .of s, fun p hp => k _ _ F3 ρ3 fp3 _ [p] (en.trans0 (En.own en.ok hp)) (.inl (.low upd_same (en.ok.not_none hp).1 ((rl.cut _ _).new hp))) qq⟩
    · obtain ⟨a, vs, rfl, s, rl⟩ := rr3.tup
      refine .inr (.inl ⟨a, vs, rfl, hK ▸ s.sq, fun w => ?_, fun _ p o hp h1 h2 => k _ _ F3 ρ3 fp3 _ [] (en.trans0 (En.tup en.ok hp)) (.inl (.tup (.of upd_same h1 h2) ((rl.cut _ _).new hp))) qq⟩)
      have : cut xs i j = xs := by
        unfold cut
        rw [rl.length] at w
        rw [w.1, w.2]; simp
      rw [this] at qq
      exact k _ H3 F3 ρ3 fp3 _ [] en (.inl (.tup s rl)) qq
    · obtain ⟨rfl, rfl⟩ := rr3.str
      exact .inr (.inr ⟨z, rfl, hz, k _ H3 F3 ρ3 fp3 _ [] en (.inl (.str _)) qq⟩)

/-! ### calls by values -/
abbrev ON := Sl → List D → (D → Sl → Prop) → Prop
def ONOk (G : Gc) (r : List V → Hp → VK → Prop) (o : ON) : Prop := ∀ (F : Addr → Prop) (H : Hp) (σ : L2.St) (ρ : Sl) (fp : List Addr) (vs : List V) (rs : List D) (fr : List Addr) (Kd : D → Sl → Prop) (Q : VK),
  Ok G F H σ ρ fp → RrL G F H σ vs rs fr → (fr ++ fp).Nodup ∧ (∀ a ∈ fr, a ∈ G.fp0 ∨ G.H0 a = none) → o ρ rs Kd →
  (∀ v H' F' ρ' fp' d fr', En G F H (fr ++ fp) σ F' H' ρ' fp' fr' → Rr G F' H' σ v d fr' → Kd d ρ' → Q v H') → r vs H Q
def wCB (o : ON) (wa : WA) : WE := fun ρ Q => wa ρ fun rs ρ1 => o ρ1 rs Q
/-- an end behind a call: its results were taken -/
theorem En.call (a : En G F H fp σ F1 H1 ρ1 fp1 fr1) (b : En G F1 H1 (fr1 ++ fp1) σ F2 H2 ρ2 fp2 fr2) : En G F H fp σ F2 H2 ρ2 fp2 fr2 := ⟨a.st.trans b.st, b.ok, b.nd⟩
theorem le_cb {r : List V → Hp → VK → Prop} {o : ON} {wa : WA} (ho : ONOk G r o) : ∀ σ H Q, LE G (wCB o wa) σ H Q → tCB r (LA G wa) σ H Q := fun σ H Q q => by
  obtain ⟨F, ρ, fp, Qd, ok, h, k⟩ := q
  refine ⟨F, ρ, fp, _, ok, h, fun vs H1 F1 ρ1 fp1 rs fr en rr q => ?_⟩
  exact ho F1 H1 σ ρ1 fp1 vs rs fr Qd Q en.ok rr ⟨en.nd, en.hr ok⟩ q fun v H2 F2 ρ2 fp2 d f2 en2 rr2 q2 => k v H2 F2 ρ2 fp2 d f2 (en.call en2) rr2 q2
theorem d_cb {id : String} {r : List V → Hp → VK → Prop} {o : ON} {x : Str} {p : Pos} {wa : WA} (hc : CallR X (.builtin id) r) (ho : ONOk G r o) (hg : Gl X x) (hm : X.mg x = none) (hv : bootBuiltins x = some (.builtin id)) (ha : PA X (e :: es) (LA G wa)) (hn : x ≠ "__name__" := by decide) (hdb : (x == ("__debug__" : Str)) = false := by decide)
    (he : starEach (e :: es) X.env = (false, eval e X.env) :: starEach es X.env := by rfl) (hpl : (backTo pos (starEach es X.env)).any (·.1) = false := by rfl) : PE X (.Call (.Name x p) (e :: es) [] pos) (LE G (wCB o wa)) := imE (pe_callB hc hg hm hv ha hn hdb he hpl) (le_cb ho)
theorem d_cty {T : String} {r : List V → Hp → VK → Prop} {o : ON} {x : Str} {p : Pos} {wa : WA} (hc : CallR X (.type T) r) (ho : ONOk G r o) (hg : Gl X x) (hm : X.mg x = none) (hv : bootBuiltins x = some (.type T)) (ha : PA X (e :: es) (LA G wa)) (hn : x ≠ "__name__" := by decide) (hdb : (x == ("__debug__" : Str)) = false := by decide)
    (he : starEach (e :: es) X.env = (false, eval e X.env) :: starEach es X.env := by rfl) (hpl : (backTo pos (starEach es X.env)).any (·.1) = false := by rfl) : PE X (.Call (.Name x p) (e :: es) [] pos) (LE G (wCB o wa)) := imE (pe_callTy hc hg hm hv ha hn hdb he hpl) (le_cb ho)
def onOr (o p : ON) : ON := fun ρ rs K => o ρ rs K ∨ p ρ rs K
theorem ONOk.or {r s : List V → Hp → VK → Prop} {o p : ON} (h1 : ONOk G r o) (h2 : ONOk G s p) : ONOk G (fun vs H Q => r vs H Q ∨ s vs H Q) (onOr o p) := fun F H σ ρ fp vs rs fr Kd Q ok rr nd h k => by
  rcases h with h | h
  · exact .inl (h1 F H σ ρ fp vs rs fr Kd Q ok rr nd h k)
  · exact .inr (h2 F H σ ρ fp vs rs fr Kd Q ok rr nd h k)
theorem CallR.or {f : Value} {r s : List V → Hp → VK → Prop} (h1 : CallR X f r) (h2 : CallR X f s) : CallR X f fun vs H Q => r vs H Q ∨ s vs H Q := fun pins st σ H xs us Q I rx h => by
  rcases h with h | h
  · exact h1 pins st σ H xs us Q I rx h
  · exact h2 pins st σ H xs us Q I rx h

theorem RrL.one {vs : List V} (h : RrL G F H σ vs [r] fr) : ∃ v, vs = [v] ∧ Rr G F H σ v r fr := by
  cases h with
  | cons h t => cases t; exact ⟨_, rfl, by simpa using h⟩
theorem RrL.two {vs : List V} (h : RrL G F H σ vs [r1, r2] fr) : ∃ v1 v2 f1 f2, vs = [v1, v2] ∧ fr = f1 ++ f2 ∧ Rr G F H σ v1 r1 f1 ∧ Rr G F H σ v2 r2 f2 := by
  cases h with
  | cons h t =>
    obtain ⟨v2, rfl, h2⟩ := t.one
    exact ⟨_, _, _, _, rfl, rfl, h, h2⟩
/-- nothing happens: a scalar comes -/
theorem En.stay (ok : Ok G F H σ ρ fp) : En G F H (fr ++ fp) σ F H ρ fp [] := ⟨⟨fun _ z => z, fun _ z => .inl z, fun _ _ e _ _ => e, fun _ o e => ⟨o, e⟩, fun a z => .inl (List.mem_append_right _ z), fun h => h⟩, ok, by simpa using ok.nd⟩
theorem En.wide (en : En G F H fp σ F1 H1 ρ1 fp1 fr1) : En G F H (fr ++ fp) σ F1 H1 ρ1 fp1 fr1 := ⟨en.st.more fun _ z => List.mem_append_right _ z, en.ok, en.nd⟩

/-- len -/
def nLen : ON := fun ρ rs K => ∃ r d, rs = [r] ∧ pk ρ r = some d ∧ ((∃ ds, its d = some ds ∧ K (.int ds.length) ρ) ∨ (∃ z, d = .str z ∧ z.length ≤ sizeLine ∧ K (.int z.length) ρ) ∨ (∃ o ks xs, d = .dct o ks xs ∧ K (.int ks.length) ρ))
theorem nLen_ok : ONOk G (fun vs H Q => (∃ x n, vs = [x] ∧ LenV G.K x H n ∧ Q (.int n) H) ∨ (∃ a kvs, vs = [V.ref a] ∧ Rd H a (.dK kvs) ∧ Q (.int kvs.length) H)) nLen := fun F H σ ρ fp vs rs fr Kd Q ok rr nd h k => by
  obtain ⟨r, d, rfl, e, h⟩ := h
  obtain ⟨v, rfl, r1⟩ := rr.one
  obtain ⟨fs, rp, _⟩ := r1.see ok e
  rcases h with ⟨ds, e2, q⟩ | ⟨z, rfl, hz, q⟩ | ⟨o, ks, xs, rfl, q⟩
  · obtain ⟨a, vs, rfl, rl, s⟩ := rp.its e2
    refine .inl ⟨_, ds.length, rfl, ?_, k _ H F ρ fp _ [] (En.stay ok) (.inl (.int _)) q⟩
    rcases s with ⟨s, _⟩ | ⟨s, _⟩
    · exact .inl ⟨vs, .of s, rl.length.symm⟩
    · exact .inr ⟨vs, s.sq, rl.length.symm⟩
  · cases rp
    exact .inl ⟨_, z.length, rfl, ⟨hz, rfl⟩, k _ H F ρ fp _ [] (En.stay ok) (.inl (.int _)) q⟩
  · have z : ∃ a vs, v = .ref a ∧ Rd H a (.dK (ks.zip vs)) ∧ ks.length = vs.length := by
      cases rp with
      | dfz s f l r => exact ⟨_, _, rfl, s, l⟩
      | dow s f l r => exact ⟨_, _, rfl, .inl s, l⟩
    obtain ⟨a, vs, rfl, s, l⟩ := z
    have e3 : (ks.zip vs).length = ks.length := by simp [l]
    refine .inr ⟨a, _, rfl, s, ?_⟩
    rw [e3]
    exact k _ H F ρ fp _ [] (En.stay ok) (.inl (.int _)) q
theorem call_lenRd : CallR X (.builtin "len") (fun vs H Q => ∃ a kvs, vs = [V.ref a] ∧ Rd H a (.dK kvs) ∧ Q (.int kvs.length) H) := fun pins s σ H xs us Q I r h => by
  obtain ⟨a, kvs, rfl, hd, q⟩ := h
  obtain ⟨u, rfl, ru⟩ := Vals.one r
  cases ru
  exact d_len I hd fun t s' I' => ⟨.int kvs.length, H, I', ⟨t, rfl⟩, q⟩
theorem d_len1 {p : Pos} {wa : WA} (hK : X.K = G.K) (hg : Gl X "len") (hm : X.mg "len" = none) (ha : PA X (e :: es) (LA G wa)) (he : starEach (e :: es) X.env = (false, eval e X.env) :: starEach es X.env := by rfl) (hpl : (backTo pos (starEach es X.env)).any (·.1) = false := by rfl) :
    PE X (.Call (.Name "len" p) (e :: es) [] pos) (LE G (wCB nLen wa)) := d_cb (call_len.or call_lenRd) (hK ▸ nLen_ok) hg hm boot_len ha (by decide) (by decide) he hpl

/-! ### built-ins of scalars -/
/-- of one int -/
def n1I (C : Int → Prop) (g : Int → D) : ON := fun ρ rs K => ∃ i, rs = [.int i] ∧ C i ∧ K (g i) ρ
theorem n1I_ok {C : Int → Prop} {g : Int → V} {g' : Int → D} (hg : ∀ K ca F H i, Rp K ca F H (g i) (g' i) []) : ONOk G (fun vs H Q => ∃ i, vs = [.int i] ∧ C i ∧ Q (g i) H) (n1I C g') := fun F H σ ρ fp vs rs fr Kd Q ok rr nd h k => by
  obtain ⟨i, rfl, c, q⟩ := h
  obtain ⟨v, rfl, r1⟩ := rr.one
  obtain ⟨rfl, _⟩ := r1.int
  exact ⟨i, rfl, c, k _ H F ρ fp _ [] (En.stay ok) (.inl (hg _ _ _ _ i)) q⟩
/-- of two ints -/
def n2I (g : Int → Int → D) : ON := fun ρ rs K => ∃ i j, rs = [.int i, .int j] ∧ K (g i j) ρ
theorem n2I_ok {g : Int → Int → V} {g' : Int → Int → D} (hg : ∀ K ca F H i j, Rp K ca F H (g i j) (g' i j) []) : ONOk G (fun vs H Q => ∃ i j, vs = [.int i, .int j] ∧ Q (g i j) H) (n2I g') := fun F H σ ρ fp vs rs fr Kd Q ok rr nd h k => by
  obtain ⟨i, j, rfl, q⟩ := h
  obtain ⟨v, w, f1, f2, rfl, _, r1, r2⟩ := rr.two
  obtain ⟨rfl, _⟩ := r1.int
  obtain ⟨rfl, _⟩ := r2.int
  exact ⟨i, j, rfl, k _ H F ρ fp _ [] (En.stay ok) (.inl (hg _ _ _ _ i j)) q⟩
def nAbs : ON := n1I (fun _ => True) fun i => .int (if i < 0 then -i else i)
def nMax : ON := n2I fun i j => .int (if j > i then j else i)
def nMin : ON := n2I fun i j => .int (if j < i then j else i)
/-- int(..) of an int, a bool -/
def nInt : ON := fun ρ rs K => (∃ i, rs = [.int i] ∧ K (.int i) ρ) ∨ ∃ b, rs = [.bl b] ∧ K (.int (if b then 1 else 0)) ρ
theorem nInt_ok : ONOk G (fun xs H Q => (∃ i, xs = [.int i] ∧ Q (.int i) H) ∨ ∃ k, xs = [.bl k] ∧ Q (.int (if k then 1 else 0)) H) nInt := fun F H σ ρ fp vs rs fr Kd Q ok rr nd h k => by
  rcases h with ⟨i, rfl, q⟩ | ⟨b, rfl, q⟩
  · obtain ⟨v, rfl, r1⟩ := rr.one
    obtain ⟨rfl, _⟩ := r1.int
    exact .inl ⟨i, rfl, k _ H F ρ fp _ [] (En.stay ok) (.inl (.int _)) q⟩
  · obtain ⟨v, rfl, r1⟩ := rr.one
    obtain ⟨rfl, _⟩ := r1.bl
    exact .inr ⟨b, rfl, k _ H F ρ fp _ [] (En.stay ok) (.inl (.int _)) q⟩
/-- str(..) of an int -/
def nStr : ON := n1I (fun i => i.natAbs.log2 < 1920) fun i => .str (toString i)
def nDivmod : ON := fun ρ rs K => ∃ i j, rs = [.int i, .int j] ∧ CDiv i j ∧ K (.tpo [.int (i / j), .int (i % j)]) ρ
theorem nDivmod_ok : ONOk G (fun xs H Q => ∃ i j, xs = [.int i, .int j] ∧ CDiv i j ∧ NewT H [.int (i / j), .int (i % j)] Q) nDivmod := fun F H σ ρ fp vs rs fr Kd Q ok rr nd h k => by
  obtain ⟨i, j, rfl, c, q⟩ := h
  obtain ⟨v, w, f1, f2, rfl, _, r1, r2⟩ := rr.two
  obtain ⟨rfl, _⟩ := r1.int
  obtain ⟨rfl, _⟩ := r2.int
  exact ⟨i, j, rfl, c, fun p o hp h1 h2 => k _ _ F ρ fp _ [] (En.tup ok hp).wide (.inl (.tpo (.of upd_same h1 h2) (.cons (fp := []) (fq := []) (.int _) (.one (.int _))))) q⟩
section
variable {p : Pos} {wa : WA} (he : starEach (e :: es) X.env = (false, eval e X.env) :: starEach es X.env := by rfl) (hpl : (backTo pos (starEach es X.env)).any (·.1) = false := by rfl)
theorem CallR.triv {f : Value} {g : Int → V} (h : CallR X f fun xs H Q => ∃ i, xs = [.int i] ∧ Q (g i) H) : CallR X f fun xs H Q => ∃ i, xs = [.int i] ∧ True ∧ Q (g i) H := fun pins st σ H xs us Q I rx ⟨i, e, _, q⟩ => h pins st σ H xs us Q I rx ⟨i, e, q⟩
include he hpl
theorem d_abs (hg : Gl X "abs") (hm : X.mg "abs" = none) (ha : PA X (e :: es) (LA G wa)) : PE X (.Call (.Name "abs" p) (e :: es) [] pos) (LE G (wCB nAbs wa)) := d_cb (CallR.triv call_abs) (n1I_ok fun _ _ _ _ _ => .int _) hg hm (by decide +kernel) ha (by decide) (by decide) he hpl
theorem d_max (hc : X.calm = true) (hg : Gl X "max") (hm : X.mg "max" = none) (ha : PA X (e :: es) (LA G wa)) : PE X (.Call (.Name "max" p) (e :: es) [] pos) (LE G (wCB nMax wa)) := d_cb (call_max2 hc) (n2I_ok fun _ _ _ _ _ _ => .int _) hg hm (by decide +kernel) ha (by decide) (by decide) he hpl
theorem d_min (hc : X.calm = true) (hg : Gl X "min") (hm : X.mg "min" = none) (ha : PA X (e :: es) (LA G wa)) : PE X (.Call (.Name "min" p) (e :: es) [] pos) (LE G (wCB nMin wa)) := d_cb (call_min2 hc) (n2I_ok fun _ _ _ _ _ _ => .int _) hg hm (by decide +kernel) ha (by decide) (by decide) he hpl
theorem d_int1 (hg : Gl X "int") (hm : X.mg "int" = none) (ha : PA X (e :: es) (LA G wa)) : PE X (.Call (.Name "int" p) (e :: es) [] pos) (LE G (wCB nInt wa)) := d_cty call_int1 nInt_ok hg hm (by decide +kernel) ha (by decide) (by decide) he hpl
theorem d_str1 (hg : Gl X "str") (hm : X.mg "str" = none) (ha : PA X (e :: es) (LA G wa)) : PE X (.Call (.Name "str" p) (e :: es) [] pos) (LE G (wCB nStr wa)) := d_cty call_str_int (n1I_ok (g := fun i => .str (toString i)) fun _ _ _ _ _ => .str _) hg hm (by decide +kernel) ha (by decide) (by decide) he hpl
theorem d_divmod (hg : Gl X "divmod") (hm : X.mg "divmod" = none) (ha : PA X (e :: es) (LA G wa)) : PE X (.Call (.Name "divmod" p) (e :: es) [] pos) (LE G (wCB nDivmod wa)) := d_cb call_divmodF nDivmod_ok hg hm (by decide +kernel) ha (by decide) (by decide) he hpl
end

/-! ### list(..), tuple(..), any, all -/
def nList : ON := fun ρ rs K => ∃ r d ds, rs = [r] ∧ pk ρ r = some d ∧ its d = some ds ∧ K (.lst true ds) ρ
theorem nList_ok : ONOk G (fun xs H Q => ∃ p ys, xs = [.ref p] ∧ (SqL G.K H p ys ∨ SqT G.K H p ys) ∧ ∀ l, H l = none → Q (.ref l) (upd H l (.lst ys))) nList := fun F H σ ρ fp vs rs fr Kd Q ok rr nd h k => by
  obtain ⟨r, d, ds, rfl, e, e2, q⟩ := h
  obtain ⟨v, rfl, r1⟩ := rr.one
  obtain ⟨fs, rp, _⟩ := r1.see ok e
  obtain ⟨a, vs, rfl, rl, s⟩ := rp.its e2
  refine ⟨a, vs, rfl, ?_, fun l hl => k _ _ F ρ fp _ [l] (En.own ok hl).wide (.inl (.low upd_same (ok.not_none hl).1 (rl.new hl))) q⟩
  rcases s with ⟨s, _⟩ | ⟨s, _⟩
  · exact .inl (.of s)
  · exact .inr s.sq
def nTuple : ON := fun ρ rs K => ∃ r d ds, rs = [r] ∧ pk ρ r = some d ∧ its d = some ds ∧ K (.tup ds) ρ
theorem nTuple_ok : ONOk G (fun xs H Q => ∃ p ys, xs = [.ref p] ∧ ((SqL G.K H p ys ∧ NewT H ys Q) ∨ (SqT G.K H p ys ∧ Q (.ref p) H))) nTuple := fun F H σ ρ fp vs rs fr Kd Q ok rr nd h k => by
  obtain ⟨r, d, ds, rfl, e, e2, q⟩ := h
  obtain ⟨v, rfl, r1⟩ := rr.one
  obtain ⟨fs, rp, _⟩ := r1.see ok e
  obtain ⟨a, vs, rfl, rl, s⟩ := rp.its e2
  refine ⟨a, vs, rfl, ?_⟩
  rcases s with ⟨s, _⟩ | ⟨s, _⟩
  · exact .inl ⟨.of s, fun l o hl h1 h2 => k _ _ F ρ fp _ [] (En.tup ok hl).wide (.inl (.tup (.of upd_same h1 h2) (rl.new hl))) q⟩
  · exact .inr ⟨s.sq, k _ H F ρ fp _ [] (En.stay ok) (.inl (.tup s rl)) q⟩
/-- the truths of a list -/
def bls : List D → Option (List Bool)
  | [] => some []
  | .bl b :: xs => match bls xs with
    | some bs => some (b :: bs)
    | none => none
  | _ => none
theorem RpL.bls : ∀ {ds : List D} {vs : List V} {bs : List Bool}, RpL K ca F H vs ds [] → bls ds = some bs → vs = bs.map V.bl
  | [], [], bs, _, e => by cases e; rfl
  | d :: ds, v :: vs, bs, h, e => by
    obtain ⟨r, t⟩ := h.nil_of
    cases d <;> (try (simp [M.bls] at e; done))
    rename_i b
    unfold M.bls at e
    cases q : M.bls ds with
    | none => rw [q] at e; cases e
    | some bs' =>
      rw [q] at e
      cases e
      cases r
      rw [RpL.bls t q]; rfl
def nAll : ON := fun ρ rs K => ∃ r b ds bs, rs = [r] ∧ pk ρ r = some (.lst b ds) ∧ bls ds = some bs ∧ K (.bl (bs.all id)) ρ
def nAny : ON := fun ρ rs K => ∃ r b ds bs, rs = [r] ∧ pk ρ r = some (.lst b ds) ∧ bls ds = some bs ∧ K (.bl (bs.any id)) ρ
theorem nAll_ok : ONOk G (rAll G.K) nAll := fun F H σ ρ fp vs rs fr Kd Q ok rr nd h k => by
  obtain ⟨r, b, ds, bs, rfl, e, e2, q⟩ := h
  obtain ⟨v, rfl, r1⟩ := rr.one
  obtain ⟨a, vs, rfl, s, rl⟩ := r1.lst ok e
  have := rl.bls e2
  subst this
  exact ⟨a, bs, rfl, .of s, k _ H F ρ fp _ [] (En.stay ok) (.inl (.bl _)) q⟩
theorem nAny_ok : ONOk G (rAny G.K) nAny := fun F H σ ρ fp vs rs fr Kd Q ok rr nd h k => by
  obtain ⟨r, b, ds, bs, rfl, e, e2, q⟩ := h
  obtain ⟨v, rfl, r1⟩ := rr.one
  obtain ⟨a, vs, rfl, s, rl⟩ := r1.lst ok e
  have := rl.bls e2
  subst this
  exact ⟨a, bs, rfl, .of s, k _ H F ρ fp _ [] (En.stay ok) (.inl (.bl _)) q⟩
section
variable {p : Pos} {wa : WA} (he : starEach (e :: es) X.env = (false, eval e X.env) :: starEach es X.env := by rfl) (hpl : (backTo pos (starEach es X.env)).any (·.1) = false := by rfl)
include he hpl
theorem d_list (hK : X.K = G.K) (hg : Gl X "list") (hm : X.mg "list" = none) (ha : PA X (e :: es) (LA G wa)) : PE X (.Call (.Name "list" p) (e :: es) [] pos) (LE G (wCB nList wa)) := d_cty call_list_of (hK ▸ nList_ok) hg hm (by decide +kernel) ha (by decide) (by decide) he hpl
theorem d_tuple (hK : X.K = G.K) (hg : Gl X "tuple") (hm : X.mg "tuple" = none) (ha : PA X (e :: es) (LA G wa)) : PE X (.Call (.Name "tuple" p) (e :: es) [] pos) (LE G (wCB nTuple wa)) := d_cty call_tuple_ofF (hK ▸ nTuple_ok) hg hm (by decide +kernel) ha (by decide) (by decide) he hpl
theorem d_all (hc : X.calm = true) (hK : X.K = G.K) (hg : Gl X "all") (hm : X.mg "all" = none) (ha : PA X (e :: es) (LA G wa)) : PE X (.Call (.Name "all" p) (e :: es) [] pos) (LE G (wCB nAll wa)) := d_cb (cr_all hc) (hK ▸ nAll_ok) hg hm (by decide +kernel) ha (by decide) (by decide) he hpl
theorem d_any (hc : X.calm = true) (hK : X.K = G.K) (hg : Gl X "any") (hm : X.mg "any" = none) (ha : PA X (e :: es) (LA G wa)) : PE X (.Call (.Name "any" p) (e :: es) [] pos) (LE G (wCB nAny wa)) := d_cb (cr_any hc) (hK ▸ nAny_ok) hg hm (by decide +kernel) ha (by decide) (by decide) he hpl
end

/-! ### methods of built-in types -/
def tyD (T : String) (ρ : Sl) (x : D) : Prop := ∃ d, pk ρ x = some d ∧ (match d with
  | .str _ => T = "str"
  | .int _ => T = "int"
  | .lst _ _ => T = "list"
  | .lso _ => T = "list"
  | _ => False)
theorem RpL.ex {ds : List D} {vs : List V} (h : H p = some (.lst vs)) : tyV K "list" (.ref p) H := .inl ⟨rfl, _, .of h⟩
theorem Rr.tyV {T : String} (ok : Ok G F H σ ρ fp) (h : Rr G F H σ v r fr) (t : tyD T ρ r) : tyV G.K T v H := by
  obtain ⟨d, e, t⟩ := t
  obtain ⟨_, rp, sub⟩ := h.see ok e
  clear sub
  cases rp <;> first | exact t | exact t.elim | skip
  · rename_i s f q; cases (show T = "list" from t); exact .inl ⟨rfl, _, .of (by assumption)⟩
  · rename_i s f q; cases (show T = "list" from t); exact .inl ⟨rfl, _, .of (by assumption)⟩
  · rename_i s f q; cases (show T = "list" from t); exact .inl ⟨rfl, _, .of (by assumption)⟩
def rM (r : V → List V → Hp → VK → Prop) : List V → Hp → VK → Prop := fun vs H Q => ∃ x xs, vs = x :: xs ∧ r x xs H Q
def wM (T : String) (o : ON) (wo : WE) (wa : WA) : WE := fun ρ Q => wo ρ fun x ρ1 => tyD T ρ1 x ∧ wa ρ1 fun rs ρ2 => o ρ2 (x :: rs) Q
def wM0 (T : String) (o : ON) (wo : WE) : WE := fun ρ Q => wo ρ fun x ρ1 => tyD T ρ1 x ∧ o ρ1 [x] Q
theorem d_m {id T : String} {name : Str} {apos : Pos} {r : V → List V → Hp → VK → Prop} {o : ON} {wa : WA} {oe : Expr} (hK : X.K = G.K) (pa : PlainAttrs T) (slot : Slot T name id) (hty : typeOf (.builtin id) = pure (.type "method_descriptor")) (hm : MtR X id r) (ho : ONOk G (rM r) o) (he : PE X oe (LE G we)) (ha : PA X (e :: es) (LA G wa))
    (hbase : attributeBase oe name X.env (eval oe X.env) = eval oe X.env := by rfl)
    (hfew : ((backTo pos (starEach (e :: es) X.env)).all (fun x => !x.1) && (backToKw pos (keywordEach [] X.env)).all (fun x => x.1.isSome)
      && decide ((e :: es).length + ([] : List Keyword).length + (if ([] : List Keyword).isEmpty then 0 else 1) < 30)) = true := by rfl)
    (hline : (apos.endLine == pos.line) = true := by rfl) (hs : starEach (e :: es) X.env = (false, eval e X.env) :: starEach es X.env := by rfl) (hplain : (backTo pos (starEach es X.env)).any (·.1) = false := by rfl) :
    PE X (.Call (.Attribute oe name apos) (e :: es) [] pos) (LE G (wM T o we wa)) := imE (pe_bm pa slot hty hm he ha hbase hfew hline hs hplain) fun σ H Q q => by
  obtain ⟨F, ρ, fp, Qd, ok, h, k⟩ := q
  refine ⟨F, ρ, fp, _, ok, h, fun v1 H1 F1 ρ1 fp1 x f1 en1 rr1 q1 => ?_⟩
  refine ⟨hK ▸ rr1.tyV en1.ok q1.1, F1, ρ1, fp1, _, en1.ok, q1.2, fun vs H2 F2 ρ2 fp2 rs f2 en2 rr2 q2 => ?_⟩
  have en := en1.trans en2 rr1.dom
  obtain ⟨y, ys, e1, q3⟩ := ho F2 H2 σ ρ2 fp2 (v1 :: vs) (x :: rs) (f1 ++ f2) Qd Q en.ok (.cons (rr1.step en2.st en1.ok.nf (nodup_d en1.nd)) rr2) ⟨en.nd, en.hr ok⟩ q2 fun v H3 F3 ρ3 fp3 d f3 en3 rr3 q3 => k v H3 F3 ρ3 fp3 d f3 (en.call en3) rr3 q3
  cases e1
  exact q3
theorem d_m0 {id T : String} {name : Str} {apos : Pos} {r : V → List V → Hp → VK → Prop} {o : ON} {oe : Expr} (hK : X.K = G.K) (pa : PlainAttrs T) (slot : Slot T name id) (hty : typeOf (.builtin id) = pure (.type "method_descriptor")) (hm : MtR X id r) (ho : ONOk G (rM r) o) (he : PE X oe (LE G we))
    (hbase : attributeBase oe name X.env (eval oe X.env) = eval oe X.env := by rfl) (hline : (apos.endLine == pos.line) = true := by rfl) :
    PE X (.Call (.Attribute oe name apos) [] [] pos) (LE G (wM0 T o we)) := imE (pe_bm0 pa slot hty hm he hbase hline) fun σ H Q q => by
  obtain ⟨F, ρ, fp, Qd, ok, h, k⟩ := q
  refine ⟨F, ρ, fp, _, ok, h, fun v1 H1 F1 ρ1 fp1 x f1 en1 rr1 q1 => ?_⟩
  refine ⟨hK ▸ rr1.tyV en1.ok q1.1, ?_⟩
  obtain ⟨y, ys, e1, q3⟩ := ho F1 H1 σ ρ1 fp1 [v1] [x] (f1 ++ []) Qd Q en1.ok (.cons rr1 .nil) ⟨by simpa using en1.nd, fun a z => en1.hr ok a (by simpa using z)⟩ q1.2 fun v H3 F3 ρ3 fp3 d f3 en3 rr3 q3 => k v H3 F3 ρ3 fp3 d f3 (en1.call (by simpa using en3)) rr3 q3
  cases e1
  exact q3

/-! ### a slot's own object changes -/
theorem set_get {α : Type} {l : List α} {i : Nat} {x : α} (h : l[i]? = some x) : l.set i x = l := by
  apply List.ext_getElem?
  intro j
  by_cases hj : i = j
  · subst hj
    rw [h, List.getElem?_set_self (by rw [List.getElem?_eq_some_iff] at h; exact h.1)]
  · rw [List.getElem?_set_ne hj]
/-- the object at a, which the slot i owns, becomes u, which stands for d1 -/
theorem Ok.change {i : Nat} {a : Addr} {u u0 : HO} {d0 d1 : D} (ok : Ok G F H σ ρ fp) (e : ρ[i]? = some (some d0)) (hσ : σ[i]? = some (some (.ref a))) (h0 : ∀ fs, Rp G.K G.ca F H (.ref a) d0 fs → fs = [a]) (ha : H a = some u0) (hm : Chg u0)
    (h1 : Rp G.K G.ca F (upd H a u) (.ref a) d1 [a]) : ∃ fp', En G F H (fr ++ fp) σ F (upd H a u) (ρ.set i (some d1)) fp' [] := by
  have hi : i < ρ.length := by rw [List.getElem?_eq_some_iff] at e; exact e.1
  obtain ⟨l, fs, r, e1, g1, _, g3, _⟩ := ok.rs.at_ hi
  obtain ⟨v', ev, rp⟩ := g1 d0 e
  rw [hσ] at ev; cases ev
  have efs := h0 fs rp
  subst efs
  have hin : a ∈ fp := by rw [e1]; simp
  have nF : ¬ F a := ok.nf a hin
  have st : Step G.ca.tb F H [a] F (upd H a u) [a] := ⟨fun _ z => z, fun _ z => .inl z, fun x o eo _ c => by
    by_cases hx : x = a
    · subst hx
      rcases c with c | c
      · exact absurd List.mem_cons_self c
      · rw [ha] at eo; cases eo; exact absurd hm.mut c
    · rw [upd_ne hx]; exact eo, fun x o eo => by
    by_cases hx : x = a
    · exact ⟨u, by rw [hx]; exact upd_same⟩
    · exact ⟨o, by rw [upd_ne hx]; exact eo⟩, fun x z => .inl z, tabs_put ha hm.nte⟩
  have nd2 := ok.nd
  rw [e1] at nd2
  have nlr : a ∉ l ++ r := fun z => by
    rcases List.mem_append.mp z with z | z
    · exact nodup_d (nodup_l nd2) a z (by simp)
    · exact nodup_d nd2 a (by simp) z
  have base' : RpS G.K G.ca F (upd H a u) (σ.set i none) (ρ.set i none) (l ++ r) := (g3 none).step st (fun x z => by rw [List.mem_singleton.mp z]; exact nF) fun x z y => by
    rw [List.mem_singleton.mp y] at z
    exact nlr z
  obtain ⟨l2, fs2, r2, e2, _, g2, _, g4⟩ := base'.at_ (i := i) (by rw [List.length_set]; exact hi)
  have f2 : fs2 = [] := g2 (by rw [List.getElem?_set_self hi])
  subst f2
  have rs2 := g4 (.ref a) d1 [a] h1
  rw [List.set_set, List.set_set, set_get hσ] at rs2
  have e2' : l ++ r = l2 ++ r2 := by simpa using e2
  have nd3 : (l2 ++ r2).Nodup := by
    rw [← e2']
    exact nodup_of (nodup_l (nodup_l nd2)) (nodup_r nd2) fun x z y => nodup_d nd2 x (List.mem_append_left _ z) y
  have na : a ∉ l2 ++ r2 := by rw [← e2']; exact nlr
  have sub : ∀ x ∈ l2 ++ [a] ++ r2, x ∈ fp := fun x z => by
    have z' : x ∈ l2 ++ r2 ∨ x = a := by
      simp only [List.mem_append, List.mem_singleton] at z ⊢
      rcases z with (z | z) | z
      · exact .inl (.inl z)
      · exact .inr z
      · exact .inl (.inr z)
    rcases z' with z' | z'
    · rw [← e2'] at z'
      rw [e1]
      rcases List.mem_append.mp z' with w | w <;> simp [w]
    · rw [z']; exact hin
  have nd4 : (l2 ++ [a] ++ r2).Nodup := by
    refine nodup_of (nodup_of (nodup_l nd3) (by simp) fun x z y => ?_) (nodup_r nd3) fun x z y => ?_
    · rw [List.mem_singleton.mp y] at z
      exact na (List.mem_append_left _ z)
    · rcases List.mem_append.mp z with z | z
      · exact nodup_d nd3 x z y
      · rw [List.mem_singleton.mp z] at y
        exact na (List.mem_append_right _ y)
  refine ⟨l2 ++ [a] ++ r2, (st.more (fq := fr ++ fp) fun x z => by rw [List.mem_singleton.mp z]; exact List.mem_append_right _ hin) |> fun s => ⟨s.mono, s.new, s.kept, s.there, fun x z => .inl (List.mem_append_right _ (sub x z)), s.tab⟩, ⟨rs2, nd4, fun x f => ?_, ok.pm, ok.rch.trans ⟨st.mono, fun x z => .inl z, fun x o eo m c => st.kept x o eo m (c.imp (fun n z => n (by rw [List.mem_singleton.mp z]; exact hin)) id), st.there, fun x z => .inl (sub x z), st.tab⟩⟩, nd4⟩
  obtain ⟨o, eo⟩ := ok.dom x f
  exact st.there x o eo
end
end M
/-! M8: methods of lists, walks, comprehensions. -/
namespace M
open PySem PySem.Spec PyProof.Rows L2

section
variable {G : Gc} {X : Cx} {F F' F1 F2 : Addr → Prop} {H H' H1 H2 : Hp} {σ σ' : L2.St} {ρ ρ' ρ1 ρ2 : Sl} {fp fp' fp1 fp2 fr fr1 fr2 : List Addr} {v v1 v2 : V} {r r1 r2 d : D} {p : Addr} {o : HO}
  {a b c e : Expr} {es : List Expr} {wa wb wc we : WE} {ta tb tc : WT} {rest : List Expr} {pos : Pos} {K : PySem.W.Frag} {ca : Cax}

/-! ### methods of owned lists -/
theorem Rr.sl {i : Nat} (h : Rr G F H σ v (.sl i) fr) : σ[i]? = some (some v) ∧ fr = [] := by
  rcases h with h | ⟨j, e, ev, ef⟩
  · cases h
  · cases e; exact ⟨ev, ef⟩
/-- the list that a slot owns -/
theorem Ok.own {i : Nat} {xs : List D} (ok : Ok G F H σ ρ fp) (h : σ[i]? = some (some v)) (e : ρ[i]? = some (some (.lst true xs))) : ∃ a vs, v = .ref a ∧ H a = some (.lst vs) ∧ RpL G.K G.ca F H vs xs [] ∧ ¬ F a ∧ a ∈ fp := by
  obtain ⟨l, fs, r, e1, g1, _, _, _⟩ := ok.rs.at_ (i := i) (by rw [List.getElem?_eq_some_iff] at e; exact e.1)
  obtain ⟨v', ev, rp⟩ := g1 _ e
  rw [h] at ev; cases ev
  cases rp with
  | low s f r => exact ⟨_, _, rfl, s, r, f, by rw [e1]; simp⟩
theorem low_fp {a : Addr} {xs : List D} : ∀ fs, Rp K ca F H (.ref a) (.lst true xs) fs → fs = [a] := fun fs h => by cases h; rfl
/-- what owns nothing stands where an owned object changes -/
theorem Rp.mut {a : Addr} {u u0 : HO} (h : Rp K ca F H v d []) (ha : H a = some u0) (hm : MutK u0) (hF : ¬ F a) : Rp K ca F (upd H a u) v d [] :=
  h.keep (fun b o eo n => by
    by_cases hb : b = a
    · subst hb; rw [ha] at eo; cases eo; exact absurd hm n
    · rw [upd_ne hb]; exact eo) (fun b o f eo _ => by rw [upd_ne (fun z => hF (by rw [← z]; exact f))]; exact eo) (fun b u f rd d => rd_keep (fun o eo _ => by rw [upd_ne (fun z => hF (by rw [← z]; exact f))]; exact eo) rd d) (fun _ z => z) (fun _ z => nomatch z) fun _ z => nomatch z
theorem RpL.mut {a : Addr} {u u0 : HO} {vs : List V} {ds : List D} (h : RpL K ca F H vs ds []) (ha : H a = some u0) (hm : MutK u0) (hF : ¬ F a) : RpL K ca F (upd H a u) vs ds [] :=
  h.keep (fun b o eo n => by
    by_cases hb : b = a
    · subst hb; rw [ha] at eo; cases eo; exact absurd hm n
    · rw [upd_ne hb]; exact eo) (fun b o f eo _ => by rw [upd_ne (fun z => hF (by rw [← z]; exact f))]; exact eo) (fun b u f rd d => rd_keep (fun o eo _ => by rw [upd_ne (fun z => hF (by rw [← z]; exact f))]; exact eo) rd d) (fun _ z => z) (fun _ z => nomatch z) fun _ z => nomatch z
/-- .. after a list that it owns was changed -/
theorem Ok.setL {i : Nat} {a : Addr} {xs ys : List D} {vs us : List V} (ok : Ok G F H σ ρ fp) (e : ρ[i]? = some (some (.lst true xs))) (hσ : σ[i]? = some (some (.ref a))) (ha : H a = some (.lst vs)) (hF : ¬ F a) (hy : RpL G.K G.ca F H us ys []) :
    ∃ fp', En G F H (fr ++ fp) σ F (upd H a (.lst us)) (ρ.set i (some (.lst true ys))) fp' [] :=
  ok.change e hσ low_fp ha trivial (.low upd_same hF (hy.mut ha trivial hF))
def nApp : ON := fun ρ rs K => ∃ i y xs d ρ1, rs = [.sl i, y] ∧ fzR ρ y = some (d, ρ1) ∧ ρ1[i]? = some (some (.lst true xs)) ∧ xs.length < sizeLine ∧ K .non (ρ1.set i (some (.lst true (xs ++ [d]))))
theorem nApp_ok : ONOk G (rM rAppend) nApp := fun F H σ ρ fp vs rs fr Kd Q ok rr nd h k => by
  obtain ⟨i, y, xs, d, ρ1, rfl, e1, e2, z, q⟩ := h
  obtain ⟨v1, v2, f1, f2, rfl, rfl, r1, r2⟩ := rr.two
  obtain ⟨hσ, rfl⟩ := r1.sl
  obtain ⟨F1, fp1, s1, rp⟩ := r2.share ok (by simpa using nd.1) (fun a z => nd.2 a (by simpa using z)) e1
  obtain ⟨a, us, rfl, ha, rl, nF, _⟩ := s1.ok.own hσ e2
  obtain ⟨fp2, en⟩ := s1.ok.setL (fr := []) e2 hσ ha nF (rl.app (.one rp))
  refine ⟨_, _, rfl, a, us, v2, rfl, rfl, ha, by rw [rl.length]; exact z, ?_⟩
  exact k _ _ F1 _ fp2 .non [] ⟨(by simpa using s1.step : Step G.ca.tb F H ([] ++ f2 ++ fp) F1 H fp1).trans (by simpa using en.st), en.ok, en.nd⟩ (.inl .non) q
def nPopAt : ON := fun ρ rs K => ∃ i n xs j d, rs = [.sl i, .int n] ∧ ρ[i]? = some (some (.lst true xs)) ∧ -(2 ^ 63) ≤ n ∧ n < 2 ^ 63 ∧ ixN xs.length n = some j ∧ xs[j]? = some d ∧ K d (ρ.set i (some (.lst true (xs.eraseIdx j))))
theorem nPopAt_ok : ONOk G (rM rPopAt) nPopAt := fun F H σ ρ fp vs rs fr Kd Q ok rr nd h k => by
  obtain ⟨i, n, xs, j, d, rfl, e, b1, b2, ej, ed, q⟩ := h
  obtain ⟨v1, v2, f1, f2, rfl, rfl, r1, r2⟩ := rr.two
  obtain ⟨hσ, rfl⟩ := r1.sl
  obtain ⟨rfl, rfl⟩ := r2.int
  obtain ⟨a, us, rfl, ha, rl, nF, _⟩ := ok.own hσ e
  obtain ⟨fp2, en⟩ := ok.setL (fr := []) e hσ ha nF (rl.erase j)
  obtain ⟨w, ew, rp⟩ := rl.at_ ed
  refine ⟨_, _, rfl, a, us, n, j, w, rfl, rfl, ha, b1, b2, by rw [rl.length]; exact (ixN_seq ej).1, ew, ?_⟩
  exact k _ _ F _ fp2 d [] (by simpa using en) (.inl (rp.mut ha trivial nF)) q
def nPop : ON := fun ρ rs K => ∃ i xs d, rs = [.sl i] ∧ ρ[i]? = some (some (.lst true xs)) ∧ xs[xs.length - 1]? = some d ∧ K d (ρ.set i (some (.lst true xs.dropLast)))
theorem RpL.dropLast {ds : List D} {vs : List V} (h : RpL K ca F H vs ds []) : RpL K ca F H vs.dropLast ds.dropLast [] := by
  rw [List.dropLast_eq_take, List.dropLast_eq_take, h.length]
  exact h.take _
theorem nPop_ok : ONOk G (rM rPop) nPop := fun F H σ ρ fp vs rs fr Kd Q ok rr nd h k => by
  obtain ⟨i, xs, d, rfl, e, ed, q⟩ := h
  obtain ⟨v1, rfl, r1⟩ := rr.one
  obtain ⟨hσ, rfl⟩ := r1.sl
  obtain ⟨a, us, rfl, ha, rl, nF, _⟩ := ok.own hσ e
  obtain ⟨fp2, en⟩ := ok.setL (fr := []) e hσ ha nF rl.dropLast
  obtain ⟨w, ew, rp⟩ := rl.at_ ed
  refine ⟨_, _, rfl, a, us, w, rfl, rfl, ha, by rw [rl.length]; exact ew, ?_⟩
  exact k _ _ F _ fp2 d [] (by simpa using en) (.inl (rp.mut ha trivial nF)) q
/-- the first place of an equal scalar -/
def nIndex : ON := fun ρ rs K => ∃ r y d b xs us u j, rs = [r, y] ∧ pk ρ r = some (.lst b xs) ∧ scL xs = some us ∧ sc y = some u ∧ us.findIdx? (fun z => eqV z u) = some j ∧ d = D.int (j : Nat) ∧ K d ρ
theorem nIndex_ok : ONOk G (rM (rIndex G.K)) nIndex := fun F H σ ρ fp vs rs fr Kd Q ok rr nd h k => by
  obtain ⟨r, y, d, b, xs, us, u, j, rfl, e, e1, e2, ej, rfl, q⟩ := h
  obtain ⟨v1, v2, f1, f2, rfl, rfl, r1, r2⟩ := rr.two
  obtain ⟨a, ws, rfl, ha, rl⟩ := r1.lst ok e
  obtain ⟨rfl, rfl⟩ := r2.sc e2
  have := rl.scL e1
  subst this
  obtain ⟨hj, p1, p2⟩ := List.findIdx?_eq_some_iff_getElem.mp ej
  refine ⟨_, _, rfl, a, ws, v2, j, ws[j], rfl, rfl, .of ha, sc_flat e2, scL_flat e1, by simp [hj], p1, fun m z' hm ez => ?_, k _ H F ρ fp _ [] (En.stay ok) (.inl (.int _)) q⟩
  obtain ⟨hm', ez⟩ := List.getElem?_eq_some_iff.mp ez
  have := p2 m hm
  rw [ez] at this
  simpa using this
/-- texts -/
def txts : List D → Option (List Str)
  | [] => some []
  | .str x :: xs => match txts xs with
    | some l => some (x :: l)
    | none => none
  | _ => none
theorem RpL.txts : ∀ {ds : List D} {vs : List V} {l : List Str}, RpL K ca F H vs ds [] → txts ds = some l → vs = l.map V.str
  | [], [], l, _, e => by cases e; rfl
  | d :: ds, v :: vs, l, h, e => by
    obtain ⟨r, t⟩ := h.nil_of
    cases d <;> (try (simp [M.txts] at e; done))
    rename_i b
    unfold M.txts at e
    cases q : M.txts ds with
    | none => rw [q] at e; cases e
    | some l' =>
      rw [q] at e
      cases e
      cases r
      rw [RpL.txts t q]; rfl
theorem txts_map (l : List Str) : txts (l.map D.str) = some l := by
  induction l with
  | nil => rfl
  | cons x l ih => simp [txts, ih]
def nJoin : ON := fun ρ rs K => ∃ a r d xs ys, rs = [.str a, r] ∧ pk ρ r = some d ∧ its d = some xs ∧ txts xs = some ys ∧ (ys.map (·.length)).sum + ys.length * a.length ≤ 16777216 ∧ K (.str (Txt.join a ys)) ρ
theorem nJoin_ok : ONOk G (rM fun x xs H Q => ∃ a p, ∃ ys : List Str, x = .str a ∧ xs = [.ref p] ∧ (SqL G.K H p (ys.map V.str) ∨ SqT G.K H p (ys.map V.str)) ∧
    (ys.map (·.length)).sum + ys.length * a.length ≤ 16777216 ∧ Q (.str (Txt.join a ys)) H) nJoin := fun F H σ ρ fp vs rs fr Kd Q ok rr nd h k => by
  obtain ⟨a, r, d, xs, ys, rfl, e, e1, e2, z, q⟩ := h
  obtain ⟨v1, v2, f1, f2, rfl, rfl, r1, r2⟩ := rr.two
  obtain ⟨rfl, rfl⟩ := r1.str
  obtain ⟨fs, rp, _⟩ := r2.see ok e
  obtain ⟨l, us, rfl, rl, s⟩ := rp.its e1
  have := rl.txts e2
  subst this
  refine ⟨_, _, rfl, a, l, ys, rfl, rfl, ?_, z, k _ H F ρ fp _ [] (En.stay ok) (.inl (.str _)) q⟩
  rcases s with ⟨s, _⟩ | ⟨s, _⟩
  · exact .inl (.of s)
  · exact .inr s.sq
section
variable {oe : Expr} {wa : WA} {apos : Pos} (hK : X.K = G.K) (he : PE X oe (LE G we))
include hK he
theorem d_append (ha : PA X [e] (LA G wa)) (hbase : attributeBase oe "append" X.env (eval oe X.env) = eval oe X.env := by rfl)
    (hfew : ((backTo pos (starEach [e] X.env)).all (fun x => !x.1) && (backToKw pos (keywordEach [] X.env)).all (fun x => x.1.isSome) && decide ([e].length + ([] : List Keyword).length + (if ([] : List Keyword).isEmpty then 0 else 1) < 30)) = true := by rfl)
    (hline : (apos.endLine == pos.line) = true := by rfl) (hs : starEach [e] X.env = (false, eval e X.env) :: starEach [] X.env := by rfl) (hplain : (backTo pos (starEach [] X.env)).any (·.1) = false := by rfl) :
    PE X (.Call (.Attribute oe "append" apos) [e] [] pos) (LE G (wM "list" nApp we wa)) := d_m hK PySem.F.plainAttrs_list PySem.F.slot_list_append PySem.F.type_list_append mt_append nApp_ok he ha hbase hfew hline hs hplain
theorem d_popAt (ha : PA X [e] (LA G wa)) (hbase : attributeBase oe "pop" X.env (eval oe X.env) = eval oe X.env := by rfl)
    (hfew : ((backTo pos (starEach [e] X.env)).all (fun x => !x.1) && (backToKw pos (keywordEach [] X.env)).all (fun x => x.1.isSome) && decide ([e].length + ([] : List Keyword).length + (if ([] : List Keyword).isEmpty then 0 else 1) < 30)) = true := by rfl)
    (hline : (apos.endLine == pos.line) = true := by rfl) (hs : starEach [e] X.env = (false, eval e X.env) :: starEach [] X.env := by rfl) (hplain : (backTo pos (starEach [] X.env)).any (·.1) = false := by rfl) :
    PE X (.Call (.Attribute oe "pop" apos) [e] [] pos) (LE G (wM "list" nPopAt we wa)) := d_m hK PySem.F.plainAttrs_list PySem.F.slot_list_pop PySem.F.type_list_pop mt_popAt nPopAt_ok he ha hbase hfew hline hs hplain
theorem d_pop (hbase : attributeBase oe "pop" X.env (eval oe X.env) = eval oe X.env := by rfl) (hline : (apos.endLine == pos.line) = true := by rfl) :
    PE X (.Call (.Attribute oe "pop" apos) [] [] pos) (LE G (wM0 "list" nPop we)) := d_m0 hK PySem.F.plainAttrs_list PySem.F.slot_list_pop PySem.F.type_list_pop mt_pop nPop_ok he hbase hline
theorem d_index (ha : PA X [e] (LA G wa)) (hbase : attributeBase oe "index" X.env (eval oe X.env) = eval oe X.env := by rfl)
    (hfew : ((backTo pos (starEach [e] X.env)).all (fun x => !x.1) && (backToKw pos (keywordEach [] X.env)).all (fun x => x.1.isSome) && decide ([e].length + ([] : List Keyword).length + (if ([] : List Keyword).isEmpty then 0 else 1) < 30)) = true := by rfl)
    (hline : (apos.endLine == pos.line) = true := by rfl) (hs : starEach [e] X.env = (false, eval e X.env) :: starEach [] X.env := by rfl) (hplain : (backTo pos (starEach [] X.env)).any (·.1) = false := by rfl) :
    PE X (.Call (.Attribute oe "index" apos) [e] [] pos) (LE G (wM "list" nIndex we wa)) := d_m hK PySem.F.plainAttrs_list PySem.F.slot_list_index PySem.F.type_list_index mt_index (hK ▸ nIndex_ok) he ha hbase hfew hline hs hplain
theorem d_join (ha : PA X [e] (LA G wa)) (hbase : attributeBase oe "join" X.env (eval oe X.env) = eval oe X.env := by rfl)
    (hfew : ((backTo pos (starEach [e] X.env)).all (fun x => !x.1) && (backToKw pos (keywordEach [] X.env)).all (fun x => x.1.isSome) && decide ([e].length + ([] : List Keyword).length + (if ([] : List Keyword).isEmpty then 0 else 1) < 30)) = true := by rfl)
    (hline : (apos.endLine == pos.line) = true := by rfl) (hs : starEach [e] X.env = (false, eval e X.env) :: starEach [] X.env := by rfl) (hplain : (backTo pos (starEach [] X.env)).any (·.1) = false := by rfl) :
    PE X (.Call (.Attribute oe "join" apos) [e] [] pos) (LE G (wM "str" nJoin we wa)) := d_m hK PySem.F.plainAttrs_str PySem.F.slot_str_join PySem.F.type_str_join mt_join (hK ▸ nJoin_ok) he ha hbase hfew hline hs hplain
end
end
end M
/-! M9: walks, comprehensions, stores to an item. -/
namespace M
open PySem PySem.Spec PyProof.Rows L2

section
variable {G : Gc} {X : Cx} {F F' F1 F2 : Addr → Prop} {H H' H1 H2 : Hp} {σ σ' : L2.St} {ρ ρ' ρ1 ρ2 : Sl} {fp fp' fp1 fp2 fr fr1 fr2 : List Addr} {v v1 v2 : V} {r r1 r2 d : D} {p : Addr} {o : HO}
  {a b c e : Expr} {es : List Expr} {wa wb wc we : WE} {ta tb tc : WT} {rest : List Expr} {pos : Pos} {K : PySem.W.Frag} {ca : Cax}

/-! ### walks -/
def rng (lo : Int) (n : Nat) : List D := (List.range n).map fun (k : Nat) => D.int (lo + (k : Int))
theorem rng_at {lo : Int} {n i : Nat} {d : D} (h : (rng lo n)[i]? = some d) : i < n ∧ d = .int (lo + i) := by
  unfold rng at h
  rw [List.getElem?_map] at h
  by_cases hi : i < n
  · rw [List.getElem?_range hi] at h
    exact ⟨hi, by simpa using h.symm⟩
  · rw [List.getElem?_eq_none (by simp; omega)] at h
    cases h
theorem rng_len (lo : Int) (n : Nat) : (rng lo n).length = n := by simp [rng]
def wiR1 (wa : WA) : WI := fun ρ K => wa ρ fun rs ρ1 => ∃ j : Int, rs = [.int j] ∧ -(2 ^ 62) ≤ j ∧ j < 2 ^ 62 ∧ K (rng 0 j.toNat) ρ1
def wiR2 (wa : WA) : WI := fun ρ K => wa ρ fun rs ρ1 => ∃ i j : Int, rs = [.int i, .int j] ∧ (-(2 ^ 62) ≤ i ∧ i < 2 ^ 62 ∧ -(2 ^ 62) ≤ j ∧ j < 2 ^ 62) ∧ K (rng i (j - i).toNat) ρ1
theorem it_rng {lo : Int} {n : Nat} : ItOk G F H fp (Itr lo n) (rng lo n) where
  go := fun i d F' H' σ ρ fp' _ _ nf s ok e => by
    obtain ⟨hi, rfl⟩ := rng_at e
    exact ⟨hi, fun x H2 y => by obtain ⟨rfl, rfl⟩ := y; exact ⟨F', En.refl ok, .int _⟩⟩
  stop := fun F' H' σ ρ fp' _ _ nf s ok => by rw [rng_len]; exact Nat.le_refl _
theorem di_r1 {tg a : Expr} {wa : WA} {p pos : Pos} (hg : Gl X "range") (hm : X.mg "range" = none) (ha : PA X [a] (LA G wa)) (hs : starEach [a] X.env = [(false, eval a X.env)] := by rfl) : PI X tg (.Call (.Name "range" p) [a] [] pos) (LW G (wiR1 wa)) := imI (pi_range1 hg hm ha hs) fun σ H Q q => by
  obtain ⟨F, ρ, fp, Kd, ok, h, k⟩ := q
  refine ⟨F, ρ, fp, _, ok, h, fun vs H1 F1 ρ1 fp1 rs fr en rr q => ?_⟩
  obtain ⟨j, rfl, h1, h2, q⟩ := q
  obtain ⟨v, rfl, r1⟩ := rr.one
  obtain ⟨rfl, rfl⟩ := r1.int
  exact ⟨j, rfl, h1, h2, k _ H1 F1 ρ1 fp1 _ en it_rng q⟩
theorem di_r2 {tg a b : Expr} {wa : WA} {p pos : Pos} (hg : Gl X "range") (hm : X.mg "range" = none) (ha : PA X [a, b] (LA G wa)) (hs : starEach [a, b] X.env = [(false, eval a X.env), (false, eval b X.env)] := by rfl) (hs2 : starEach [b] X.env = [(false, eval b X.env)] := by rfl) : PI X tg (.Call (.Name "range" p) [a, b] [] pos) (LW G (wiR2 wa)) := imI (pi_range2 hg hm ha hs hs2) fun σ H Q q => by
  obtain ⟨F, ρ, fp, Kd, ok, h, k⟩ := q
  refine ⟨F, ρ, fp, _, ok, h, fun vs H1 F1 ρ1 fp1 rs fr en rr q => ?_⟩
  obtain ⟨i, j, rfl, b, q⟩ := q
  obtain ⟨v1, v2, f1, f2, rfl, rfl, r1, r2⟩ := rr.two
  obtain ⟨rfl, rfl⟩ := r1.int
  obtain ⟨rfl, rfl⟩ := r2.int
  exact ⟨i, j, rfl, b, k _ H1 F1 ρ1 fp1 _ (by simpa using en) it_rng q⟩
/-- over a list, a tuple (what is walked is shared), a str -/
def wiIt (we : WE) : WI := fun ρ K => we ρ fun x ρ1 => (∃ d ds ρ2, fzR ρ1 x = some (d, ρ2) ∧ its d = some ds ∧ K ds ρ2) ∨ ∃ z, x = .str z ∧ K (z.cps.toList.map fun c => .str ⟨#[c]⟩) ρ1
def iAny (K : PySem.W.Frag) (te : TE) : TI := fun σ H R => te σ H fun v H1 => (∃ a, v = .ref a ∧ (∃ xs, SqL K H1 a xs) ∧ R (Itl K a) H1) ∨ (∃ a, v = .ref a ∧ (∃ xs, SqT K H1 a xs) ∧ R (Itt K a) H1) ∨ ∃ x, v = .str x ∧ R (Its x) H1
theorem fp_one {pins : List (Addr × Obj)} {s : Shared} (I : L2.Inv X pins σ H s) : ∀ b ∈ [s.heap.objs.size], FpOk X pins H b := fun b hb => by
  rw [List.mem_singleton.mp hb]
  exact I.fpOk (Nat.le_refl _) (I.hok.fresh (Nat.le_refl _))
theorem pi_any {tg e : Expr} {te : TE} (he : PE X e te) : PI X tg e (iAny X.K te) := ⟨fun pins s σ H R I h => by
  refine thn (he.run pins s σ H _ I h) fun v s1 ⟨x, H1, I1, r1, q1⟩ => ?_
  rcases q1 with ⟨a, rfl, hx, q⟩ | ⟨a, rfl, hx, q⟩ | ⟨z, rfl, q⟩
  · cases r1
    obtain ⟨xs, hx⟩ := hx
    obtain ⟨us, rv, pl, hz⟩ := I1.list hx
    exact wpAny_pyIter_list pl.isList ⟨_, [s1.heap.objs.size], _, Itl X.K a, H1, rfl, I1.kept (t' := s1.toks) (fun c u z => Heap.get?_push_of_some _ z), turn_list a _, ⟨_, Heap.get?_push_size _ rfl, rfl, rfl⟩, fp_one I1, q⟩
  · cases r1
    obtain ⟨xs, hx⟩ := hx
    obtain ⟨us, rv, pl, hz⟩ := I1.tuple hx
    exact wpAny_pyIter_tuple (items := us.toArray) pl ⟨_, [s1.heap.objs.size], _, Itt X.K a, H1, rfl, I1.kept (t' := s1.toks) (fun c u z => Heap.get?_push_of_some _ z), turn_tuple a _, ⟨_, Heap.get?_push_size _ rfl, rfl, rfl⟩, fp_one I1, q⟩
  · obtain ⟨t, rfl⟩ := r1
    cases ha : z.cps.all (· < 128) with
    | false => exact wpAny_pyIter_wide ha (pi_one (tk := s1.toks) I1 _ (turn_str _ z t "str_iterator" (Or.inr rfl)) ⟨_, Heap.get?_push_size _ rfl, rfl, rfl⟩ q)
    | true => exact wpAny_pyIter_ascii ha (pi_one (tk := s1.toks) I1 _ (turn_str _ z t "str_ascii_iterator" (Or.inl rfl)) ⟨_, Heap.get?_push_size _ rfl, rfl, rfl⟩ q)⟩
theorem F_keep {a : Addr} {o : HO} (s : Step G.ca.tb F H fp F' H' fp') (hF : ∀ a ∈ fp, ¬ F a) (f : F a) (e : H a = some o) (nt : NTb o := by trivial) : H' a = some o := s.keep a o e (.inl fun z => hF a z f)
theorem it_list {a : Addr} {vs : List V} {ds : List D} (nf0 : ∀ a ∈ fp, ¬ F a) (e : H a = some (.lst vs)) (f : F a) (r : RpL G.K G.ca F H vs ds []) : ItOk G F H fp (Itl G.K a) ds where
  go := fun i d F' H' σ ρ fp' _ _ nf s ok ed => by
    have e' := F_keep s nf f e
    obtain ⟨w, ew, rp⟩ := (r.step s nf fun a z => nomatch z).at_ ed
    refine ⟨⟨vs, w, .of e', ew⟩, fun x H2 y => ?_⟩
    obtain ⟨rfl, y⟩ := y
    have := y vs (.of e')
    rw [ew] at this; cases this
    exact ⟨F', En.refl ok, rp⟩
  stop := fun F' H' σ ρ fp' _ _ nf s ok => ⟨vs, .of (F_keep s nf f e), by rw [r.length]; exact Nat.le_refl _⟩
theorem it_tup {a : Addr} {vs : List V} {ds : List D} (nf0 : ∀ a ∈ fp, ¬ F a) (e : SqT G.K H a vs) (r : RpL G.K G.ca F H vs ds []) : ItOk G F H fp (Itt G.K a) ds where
  go := fun i d F' H' σ ρ fp' _ _ nf s ok ed => by
    have e' := sqT_keep (fun a o e n => s.keep a o e (.inr n)) e
    obtain ⟨w, ew, rp⟩ := (r.step s nf fun a z => nomatch z).at_ ed
    refine ⟨⟨vs, w, e', ew⟩, fun x H2 y => ?_⟩
    obtain ⟨rfl, y⟩ := y
    have := y vs e'
    rw [ew] at this; cases this
    exact ⟨F', En.refl ok, rp⟩
  stop := fun F' H' σ ρ fp' _ _ nf s ok => ⟨vs, sqT_keep (fun a o e n => s.keep a o e (.inr n)) e, by rw [r.length]; exact Nat.le_refl _⟩
theorem it_str {z : Str} : ItOk G F H fp (Its z) (z.cps.toList.map fun c => D.str ⟨#[c]⟩) where
  go := fun i d F' H' σ ρ fp' _ _ nf s ok ed => by
    rw [List.getElem?_map] at ed
    cases q : z.cps.toList[i]? with
    | none => rw [q] at ed; cases ed
    | some c =>
      rw [q] at ed; cases ed
      have hi : i < z.cps.size := by
        have := (List.getElem?_eq_some_iff.mp q).1
        simpa using this
      refine ⟨hi, fun x H2 y => ?_⟩
      obtain ⟨rfl, c', ec, rfl⟩ := y
      have : some c' = some c := ec.symm.trans (by rw [← q]; simp)
      cases this
      exact ⟨F', En.refl ok, .str _⟩
  stop := fun F' H' σ ρ fp' _ _ nf s ok => by
    show z.cps.size ≤ _
    simp
theorem di_any {tg e : Expr} (hK : X.K = G.K) (he : PE X e (LE G we)) : PI X tg e (LW G (wiIt we)) := imI (pi_any he) fun σ H Q q => by
  obtain ⟨F, ρ, fp, Kd, ok, h, k⟩ := q
  refine ⟨F, ρ, fp, _, ok, h, fun v H1 F1 ρ1 fp1 x f1 en1 rr1 q => ?_⟩
  rw [hK]
  rcases q with ⟨d, ds, ρ2, e, e2, q⟩ | ⟨z, rfl, q⟩
  · obtain ⟨F2, fp2, s, rp⟩ := rr1.share en1.ok en1.nd (en1.hr ok) e
    have en := en1.share s
    obtain ⟨a, vs, rfl, rl, sq⟩ := rp.its e2
    rcases sq with ⟨sq, b, rfl⟩ | ⟨sq, rfl⟩
    · have hf : F2 a := by
        cases rp with
        | lfz _ f _ => exact f
      exact .inl ⟨a, rfl, ⟨vs, .of sq⟩, k _ H1 F2 ρ2 fp2 ds en (it_list en.ok.nf sq hf rl) q⟩
    · exact .inr (.inl ⟨a, rfl, ⟨vs, sq.sq⟩, k _ H1 F2 ρ2 fp2 ds en (it_tup en.ok.nf sq.sq rl) q⟩)
  · obtain ⟨rfl, rfl⟩ := rr1.str
    exact .inr (.inr ⟨z, rfl, k _ H1 F1 ρ1 fp1 _ en1 it_str q⟩)

/-! ### comprehensions -/
def wip : Sl → List Nat → Sl
  | ρ, [] => ρ
  | ρ, v :: vs => (wip ρ vs).set v none
/-- what stood there, where nothing of it was owned -/
def rst (ρ0 : Sl) : Sl → List Nat → Sl
  | ρ, [] => ρ
  | ρ, v :: vs => match ρ0[v]? with
    | some (some d) => if isOw d = true then rst ρ0 ρ vs else (rst ρ0 ρ vs).set v (some d)
    | _ => rst ρ0 ρ vs
theorem RpS.same (h : RpS K ca F H σ ρ fp) : ∀ {σ' : L2.St}, σ'.length = σ.length → (∀ j : Nat, (∃ d : D, ρ[j]? = some (some d)) → σ'[j]? = σ[j]?) → RpS K ca F H σ' ρ fp := by
  induction h with
  | nil => intro σ' hl _; cases σ' with
    | nil => exact .nil
    | cons _ _ => cases hl
  | @no x σ ρ fp h ih =>
    intro σ' hl he
    cases σ' with
    | nil => cases hl
    | cons y σ' => exact .no (ih (by simpa using hl) fun j ⟨d, hj⟩ => by simpa using he (j + 1) ⟨d, by simpa using hj⟩)
  | @has v d σ ρ fr fp r h ih =>
    intro σ' hl he
    cases σ' with
    | nil => cases hl
    | cons y σ' =>
      have e0 := he 0 ⟨d, rfl⟩
      simp at e0
      subst e0
      exact .has r (ih (by simpa using hl) fun j ⟨d, hj⟩ => by simpa using he (j + 1) ⟨d, by simpa using hj⟩)
theorem wip_len (ρ : Sl) : ∀ vs, (wip ρ vs).length = ρ.length
  | [] => rfl
  | v :: vs => by unfold wip; rw [List.length_set, wip_len ρ vs]
theorem wip_none (ρ : Sl) : ∀ {vs : List Nat} {j : Nat}, j ∈ vs → ∀ d, (wip ρ vs)[j]? ≠ some (some d)
  | v :: vs, j, h, d => by
    unfold wip
    by_cases hj : v = j
    · subst hj
      by_cases hl : v < (wip ρ vs).length
      · rw [List.getElem?_set_self hl]; simp
      · rw [List.getElem?_eq_none (by simpa using hl)]; simp
    · rw [List.getElem?_set_ne hj]
      rcases List.mem_cons.mp h with z | z
      · exact absurd z.symm hj
      · exact wip_none ρ z d
theorem wipe_off (σ : L2.St) : ∀ {vs : List Nat} {j : Nat}, j ∉ vs → (wipe σ vs)[j]? = σ[j]?
  | [], j, _ => rfl
  | v :: vs, j, h => by
    unfold wipe
    rw [List.getElem?_set_ne (fun e => h (by simp [e]))]
    exact wipe_off σ fun z => h (List.mem_cons_of_mem _ z)
theorem wipe_on (σ : L2.St) : ∀ {vs : List Nat} {j : Nat}, j ∈ vs → j < σ.length → (wipe σ vs)[j]? = some none
  | v :: vs, j, h, hl => by
    unfold wipe
    by_cases hj : v = j
    · subst hj
      rw [List.getElem?_set_self (by rw [wipe_length]; exact hl)]
    · rw [List.getElem?_set_ne hj]
      rcases List.mem_cons.mp h with z | z
      · exact absurd z.symm hj
      · exact wipe_on σ z hl
theorem wipe_eq {σ σ' : L2.St} {vs S : List Nat} (h : Off S σ σ') (hs : ∀ j ∈ S, j ∈ vs) : wipe σ' vs = wipe σ vs := by
  apply List.ext_getElem?
  intro j
  by_cases hj : j ∈ vs
  · by_cases hl : j < σ.length
    · rw [wipe_on σ hj hl, wipe_on σ' hj (by rw [h.len]; exact hl)]
    · rw [List.getElem?_eq_none (l := wipe σ' vs) (by rw [wipe_length, h.len]; omega), List.getElem?_eq_none (by rw [wipe_length]; omega)]
  · rw [wipe_off σ hj, wipe_off σ' hj]
    exact h.at_ j fun z => hj (hs j z)
theorem wipe_wipe (σ : L2.St) (vs : List Nat) : wipe (wipe σ vs) vs = wipe σ vs := wipe_eq (S := vs) ⟨by rw [wipe_length], fun j hj => wipe_off σ hj⟩ fun _ z => z
/-- the slots vs are emptied -/
theorem Ok.wip (ok : Ok G F H σ ρ fp) : ∀ vs : List Nat, ∃ fp', Ok G F H σ (M.wip ρ vs) fp' ∧ ∀ a ∈ fp', a ∈ fp
  | [] => ⟨fp, ok, fun _ z => z⟩
  | v :: vs => by
    obtain ⟨fp1, ok1, s1⟩ := ok.wip vs
    by_cases hv : v < (M.wip ρ vs).length
    · obtain ⟨l, fs, r, e1, _, _, g3, _⟩ := ok1.rs.at_ hv
      have nd2 := ok1.nd
      rw [e1] at nd2
      have hσ : v < σ.length := by rw [ok1.rs.length]; exact hv
      have q := g3 (σ[v]'hσ)
      rw [set_get (by simp [hσ])] at q
      exact ⟨l ++ r, ⟨q, nodup_of (nodup_l (nodup_l nd2)) (nodup_r nd2) fun x z y => nodup_d nd2 x (List.mem_append_left _ z) y, ok1.dom, ok1.pm, ok1.rch.less fun a z => by rw [e1]; rcases List.mem_append.mp z with w | w <;> simp [w]⟩, fun a z => s1 a (by rw [e1]; rcases List.mem_append.mp z with w | w <;> simp [w])⟩
    · have : M.wip ρ (v :: vs) = M.wip ρ vs := by
        show (M.wip ρ vs).set v none = _
        exact List.set_eq_of_length_le (by omega)
      rw [this]
      exact ⟨fp1, ok1, s1⟩
/-- .. and the values there do not matter -/
theorem Ok.off {vs : List Nat} (ok : Ok G F H σ (M.wip ρ vs) fp) (h : Off vs σ σ') (hpm : ∀ p ∈ G.pm, p.1 ∉ vs) : Ok G F H σ' (M.wip ρ vs) fp :=
  ⟨ok.rs.same h.len fun j ⟨d, hd⟩ => h.at_ j fun z => wip_none ρ z d hd, ok.nd, ok.dom, (fun p hp => by rw [h.at_ p.1 (hpm p hp)]; exact ok.pm p hp), ok.rch⟩
def wLc (wi : WI) (g : WG) (wt : WT) (we : WE) (vs : List Nat) : WE := fun ρ Q => wi ρ fun ds ρ1 => ∃ I : Nat → List D → Sl → Prop, I 0 [] (wip ρ1 vs) ∧
  (∀ i d acc ρ, ds[i]? = some d → I i acc ρ → g d ρ fun ρ2 => wt ρ2 fun b ρ3 => if b = true then we ρ3 fun r ρ4 => ∃ y ρ5, fzR ρ4 r = some (y, ρ5) ∧ acc.length < sizeLine ∧ I (i + 1) (acc ++ [y]) (wip ρ5 vs) else I (i + 1) acc (wip ρ3 vs)) ∧
  ∀ acc ρ, I ds.length acc ρ → Q (.lst true acc) (rst ρ1 ρ vs)
def wYes : WT := fun ρ Q => Q true ρ
theorem dpt_nil : PTs X [] (LT G wYes) := ⟨fun pins s σ H Q I hw => by
  obtain ⟨F, ρ, fp, Qd, ok, h, k⟩ := hw
  exact pts_nil.run pins s σ H Q I (k true H F ρ fp (En.refl ok) h)⟩
theorem dpt_one {c : Expr} {t : WT} (h : PT X c (LT G t)) : PTs X [c] (LT G t) := pts_one h
theorem En.ofStep (s : Step G.ca.tb F H fp F' H' fp') (ok : Ok G F' H' σ ρ' fp') : En G F H fp σ F' H' ρ' fp' [] := ⟨s, ok, by simpa using ok.nd⟩
/-- a slot's value is known again -/
theorem Ok.put {i : Nat} (ok : Ok G F H σ ρ fp) (hpm : ∀ p ∈ G.pm, p.1 ≠ i) (e : σ[i]? = some (some v)) (rp : Rp G.K G.ca F H v d []) : ∃ fp', Ok G F H σ (ρ.set i (some d)) fp' ∧ ∀ a ∈ fp', a ∈ fp := by
  obtain ⟨fp', ok', sub⟩ := ok.setV (i := i) (by rw [← ok.rs.length]; exact (List.getElem?_eq_some_iff.mp e).1) hpm rp (fun a z => nomatch z) (by simp) (fun a z => nomatch z)
  rw [set_get e] at ok'
  exact ⟨fp', ok', fun a z => by simpa using sub a z⟩
theorem Ok.rst (ok1 : Ok G F1 H1 σ ρ1 fp1) (s : Step G.ca.tb F1 H1 fp1 F H fp2) (ok : Ok G F H σ ρ fp) : ∀ vs : List Nat, (∀ p ∈ G.pm, p.1 ∉ vs) → ∃ fp', Ok G F H σ (M.rst ρ1 ρ vs) fp' ∧ ∀ a ∈ fp', a ∈ fp
  | [], _ => ⟨fp, ok, fun _ z => z⟩
  | v :: vs, hpm => by
    obtain ⟨fp3, ok3, sub3⟩ := Ok.rst ok1 s ok vs fun p hp z => hpm p hp (List.mem_cons_of_mem _ z)
    unfold M.rst
    split
    · rename_i d e
      split
      · exact ⟨fp3, ok3, sub3⟩
      · rename_i ho
        obtain ⟨l, fs, r, e1, g1, _, _, _⟩ := ok1.rs.at_ (i := v) (by rw [List.getElem?_eq_some_iff] at e; exact e.1)
        obtain ⟨w, ew, rp⟩ := g1 d e
        have ef := rp.free (by simpa using ho)
        subst ef
        obtain ⟨fp4, ok4, sub4⟩ := ok3.put (fun p hp z => hpm p hp (by simp [z])) ew (rp.step s ok1.nf fun a z => nomatch z)
        exact ⟨fp4, ok4, fun a z => sub3 a (sub4 a z)⟩
    · exact ⟨fp3, ok3, sub3⟩
/-- a new object that no slot has stays as it is through a step -/
theorem Step.apart {q : Addr} {u : HO} (s : Step G.ca.tb F H fp F' H' fp') (e : H q = some u) (nF : ¬ F q) (nf : q ∉ fp) (nt : NTb u := by trivial) : H' q = some u ∧ ¬ F' q ∧ q ∉ fp' := by
  refine ⟨s.keep q u e (.inl nf), fun f => ?_, fun z => ?_⟩
  · rcases s.new q f with z | z | z
    · exact nF z
    · exact nf z
    · rw [e] at z; cases z
  · rcases s.fps q z with w | w
    · exact nf w
    · rw [e] at w; cases w
theorem le_lc {wi : WI} {g : WG} {S : List Nat} {wt : WT} {vs : List Nat} (hS : ∀ j ∈ S, j ∈ vs) (hpm : ∀ p ∈ G.pm, p.1 ∉ vs) : ∀ σ H Q, LE G (wLc wi g wt we vs) σ H Q → tLc (LW G wi) (LG G g S) (LT G wt) (LE G we) vs σ H Q := fun σ H Q q => by
  obtain ⟨F, ρ, fp, Qd, ok, h, k⟩ := q
  refine ⟨F, ρ, fp, _, ok, h, fun J H1 F1 ρ1 fp1 ds en it q => ?_⟩
  obtain ⟨I, i0, turn, done⟩ := q
  intro q hq
  have oF : Off vs σ (wipe σ vs) := ⟨by rw [wipe_length], fun j hj => wipe_off σ hj⟩
  have oB : Off vs (wipe σ vs) σ := ⟨by rw [wipe_length], fun j hj => (wipe_off σ hj).symm⟩
  refine ⟨fun i m H' => m = ds.length - i ∧ i ≤ ds.length ∧ ∃ F' ρ' fp' acc us, Step G.ca.tb F1 H1 fp1 F' H' (q :: fp') ∧ Ok G F' H' σ (wip ρ' vs) fp' ∧ H' q = some (.lst us) ∧ RpL G.K G.ca F' H' us acc [] ∧ ¬ F' q ∧ q ∉ fp' ∧ I i acc (wip ρ' vs), ?_, ?_⟩
  · obtain ⟨fp2, ok2, sub⟩ := en.ok.wip vs
    have nn := en.ok.not_none hq
    refine ⟨_, rfl, Nat.zero_le _, F1, ρ1, fp2, [], [], ?_, ok2.new hq, upd_same, .nil, nn.1, fun z => nn.2 (sub q z), i0⟩
    have := (En.own (o := .lst []) en.ok hq).st
    exact this.less fun a z => by
      rcases List.mem_cons.mp z with z | z
      · simp [z]
      · simp [sub a z]
  · rintro i m H2 ⟨rfl, hi, F2, ρ2, fp2, acc, us, s2, ok2, eq, rl, nF, nf, inv⟩
    have s2' : Step G.ca.tb F1 H1 fp1 F2 H2 fp2 := s2.less fun a z => List.mem_cons_of_mem _ z
    by_cases hlt : i < ds.length
    · obtain ⟨go, yl⟩ := it.go i ds[i] F2 H2 σ (wip ρ2 vs) fp2 _ _ en.ok.nf s2' ok2 (by simp [hlt])
      refine .inr ⟨go, fun H' => ∃ F' ρ' fp' acc us, Step G.ca.tb F1 H1 fp1 F' H' (q :: fp') ∧ Ok G F' H' σ (wip ρ' vs) fp' ∧ H' q = some (.lst us) ∧ RpL G.K G.ca F' H' us acc [] ∧ ¬ F' q ∧ q ∉ fp' ∧ I (i + 1) acc (wip ρ' vs), fun H' z => ⟨_, by omega, rfl, hlt, z⟩, fun x H3 y => ?_⟩
      obtain ⟨F3, en3, rp⟩ := yl x H3 y
      refine ⟨F3, wip ρ2 vs, fp2, ds[i], [], _, en3.ok.off oF hpm, .inl rp, ⟨by simpa using en3.ok.nd, fun a z => nomatch z⟩, turn i ds[i] acc (wip ρ2 vs) (by simp [hlt]) inv, fun σ4 H4 F4 ρ4 fp4 s4 ok4 of4 q4 => ?_⟩
      refine ⟨by rw [wipe_eq of4 hS, wipe_wipe], F4, ρ4, fp4, _, ok4, q4, fun b H5 F5 ρ5 fp5 en5 q5 => ?_⟩
      have sA : Step G.ca.tb F2 H2 fp2 F5 H5 fp5 := (en3.st0.trans s4).trans en5.st0
      have oBk : Off vs σ4 σ := ⟨by rw [of4.len, wipe_length], fun j hj => by rw [of4.at_ j fun z => hj (hS j z), wipe_off σ hj]⟩
      have sB : Step G.ca.tb F1 H1 fp1 F5 H5 (q :: fp5) := by
        have t := s2'.trans sA
        refine ⟨t.mono, t.new, t.kept, t.there, fun a z => ?_, t.tab⟩
        rcases List.mem_cons.mp z with z | z
        · rw [z]; exact .inr hq
        · exact t.fps a z
      obtain ⟨e5, nF5, nf5⟩ := sA.apart eq nF nf
      cases b with
      | false =>
        obtain ⟨fp6, ok6, sub6⟩ := en5.ok.wip vs
        refine ⟨F5, ρ5, fp6, acc, us, sB.less fun a z => ?_, ok6.off oBk hpm, e5, rl.step sA ok2.nf (fun a z => nomatch z), nF5, fun z => nf5 (sub6 q z), q5⟩
        rcases List.mem_cons.mp z with z | z
        · simp [z]
        · simp [sub6 a z]
      | true =>
        refine ⟨F5, ρ5, fp5, _, en5.ok, q5, fun v H6 F6 ρ6 fp6 r fr6 en6 rr6 q6 => ?_⟩
        obtain ⟨y, ρ7, e7, z7, q7⟩ := q6
        obtain ⟨F7, fp7, s7, rp7⟩ := rr6.share en6.ok en6.nd (en6.hr en5.ok) e7
        have sC : Step G.ca.tb F2 H2 fp2 F7 H6 fp7 := sA.trans (en6.st.trans s7.step)
        obtain ⟨e8, nF8, nf8⟩ := sC.apart eq nF nf
        obtain ⟨fp8, ok8, sub8⟩ := s7.ok.wip vs
        refine ⟨us, e8, by rw [rl.length]; exact z7, F7, ρ7, fp8, acc ++ [y], us ++ [v], ?_, ?_, upd_same, ?_, nF8, fun z => nf8 (sub8 q z), q7⟩
        · have t := s2'.trans sC
          refine ⟨t.mono, t.new, fun a o eo m c => ?_, fun a o eo => ?_, fun a z => ?_, fun h => tabs_put e8 trivial (t.tab h)⟩
          · rw [upd_ne (ne_of_none eo hq)]; exact t.kept a o eo m c
          · obtain ⟨o', e'⟩ := t.there a o eo
            exact ⟨o', by rw [upd_ne (ne_of_none eo hq)]; exact e'⟩
          · rcases List.mem_cons.mp z with z | z
            · rw [z]; exact .inr hq
            · exact t.fps a (sub8 a z)
        · have ok9 : Ok G F7 H6 σ (wip ρ7 vs) fp8 := ok8.off oBk hpm
          refine ok9.step (fq := [q]) (fq' := [q]) ⟨fun _ z => z, fun _ z => .inl z, fun a o eo _ c => ?_, fun a o eo => ?_, fun _ z => .inl z, tabs_put e8 trivial⟩ (fun a z => by rw [List.mem_singleton.mp z]; exact nF8) (fun a z w => nf8 (sub8 q (by rw [← List.mem_singleton.mp w]; exact z))) (fun a f => ?_) ?_
          · by_cases ha : a = q
            · subst ha
              rcases c with c | c
              · exact absurd List.mem_cons_self c
              · rw [e8] at eo; cases eo; exact absurd trivial c
            · rw [upd_ne ha]; exact eo
          · by_cases ha : a = q
            · exact ⟨_, by rw [ha]; exact upd_same⟩
            · exact ⟨o, by rw [upd_ne ha]; exact eo⟩
          · obtain ⟨o, eo⟩ := ok9.dom a f
            by_cases ha : a = q
            · exact ⟨_, by rw [ha]; exact upd_same⟩
            · exact ⟨o, by rw [upd_ne ha]; exact eo⟩
          · have t := (en.ok.rch.trans (s2'.trans sC)).less sub8
            have h0 := en.ok.rch.none_of hq
            exact ⟨t.mono, t.new, fun a o eo m c => by rw [upd_ne (ne_of_none eo h0)]; exact t.kept a o eo m c, fun a o eo => by
              obtain ⟨o', e'⟩ := t.there a o eo
              exact ⟨o', by rw [upd_ne (ne_of_none eo h0)]; exact e'⟩, t.fps, fun h => tabs_put e8 trivial (t.tab h)⟩
        · exact (((rl.step sC ok2.nf fun a z => nomatch z).app (.one rp7))).mut e8 trivial nF8
    · have e : i = ds.length := by omega
      subst e
      refine .inl ⟨it.stop F2 H2 σ (wip ρ2 vs) fp2 _ _ en.ok.nf s2' ok2, ?_⟩
      obtain ⟨fp3, ok3, sub3⟩ := Ok.rst en.ok s2' ok2 vs hpm
      refine k (.ref q) H2 F2 (rst ρ1 (wip ρ2 vs) vs) fp3 (.lst true acc) [q] ⟨en.st0.trans (s2.less fun a z => ?_), ok3, nodup_of (by simp) ok3.nd fun a z w => nf (by rw [← List.mem_singleton.mp z]; exact sub3 a w)⟩ (.inl (.low eq nF rl)) (done acc _ inv)
      rcases List.mem_append.mp z with z | z
      · simp [List.mem_singleton.mp z]
      · simp [sub3 a z]
theorem d_lc {elt tg iter : Expr} {ifs : List Expr} {scope : Scope} {own : List (Str × Nat)} {wi : WI} {g : WG} {S : List Nat} {wt : WT} (hc : X.calm = true) (hN : X.N.Nodup) (hi : PI X tg iter (LW G wi)) (ok : BlkOk X.N X.env.scope scope own)
    (hg : ∀ (s : Shared) (H : Hp) (C : Addr) (cl : List (Str × Addr)) (fp : List Addr), PG (X.blk s H scope (compEnvC scope cl C X.env) fp) tg (LG G g S)) (ht : ∀ (s : Shared) (H : Hp) (C : Addr) (cl : List (Str × Addr)) (fp : List Addr), PTs (X.blk s H scope (compEnvC scope cl C X.env) fp) ifs (LT G wt))
    (he : ∀ (s : Shared) (H : Hp) (C : Addr) (cl : List (Str × Addr)) (fp : List Addr), PE (X.blk s H scope (compEnvC scope cl C X.env) fp) elt (LE G we)) (hS : ∀ j ∈ S, j ∈ own.map (·.2)) (hpm : ∀ p ∈ G.pm, p.1 ∉ own.map (·.2)) (hs : ∀ x, foldedSetIterable iter X.env x = pure x := by intro _; rfl) :
    PE X (.ListComp elt [⟨tg, iter, ifs, 0⟩] scope pos) (LE G (wLc wi g wt we (own.map (·.2)))) := imE (pe_lc hc hN hi ok hg ht he hs) (le_lc hS hpm)
/-- x = [..] on one line, x a local -/
theorem ds_lc {i : Nat} {y : Str} {py spos : Pos} {elt tg iter : Expr} {ifs : List Expr} {scope : Scope} {own : List (Str × Nat)} {wi : WI} {g gy : WG} {S : List Nat} {wt : WT} (hc : X.calm = true) (hN : X.N.Nodup) (hy : X.N[i]? = some y) (hyl : X.env.scope.names.lookup y = some .local) (hgy : ∀ v σ H Q, LG G gy [i] v σ H Q → gName i v σ H Q)
    (hsw : swapsWith (.ListComp elt [⟨tg, iter, ifs, 0⟩] scope pos) (some (.Name y py)) spos.line X.env = pure true) (hi : PI X tg iter (LW G wi)) (ok : BlkOk X.N X.env.scope scope own)
    (hg : ∀ (s : Shared) (H : Hp) (C : Addr) (cl : List (Str × Addr)) (fp : List Addr), PG (X.blk s H scope (compEnvC scope cl C X.env) fp) tg (LG G g S)) (ht : ∀ (s : Shared) (H : Hp) (C : Addr) (cl : List (Str × Addr)) (fp : List Addr), PTs (X.blk s H scope (compEnvC scope cl C X.env) fp) ifs (LT G wt))
    (he : ∀ (s : Shared) (H : Hp) (C : Addr) (cl : List (Str × Addr)) (fp : List Addr), PE (X.blk s H scope (compEnvC scope cl C X.env) fp) elt (LE G we)) (hS : ∀ j ∈ S, j ∈ own.map (·.2)) (hpm : ∀ p ∈ G.pm, p.1 ∉ own.map (·.2)) (hs : ∀ x, foldedSetIterable iter X.env x = pure x := by intro _; rfl) :
    PS X (.Assign [.Name y py] (.ListComp elt [⟨tg, iter, ifs, 0⟩] scope pos) spos) (LS G (wAsg (wLc wi g wt we (own.map (·.2))) gy)) := imS (ps_setLc hc hN hy hyl hsw hi ok hg ht he hs) fun D σ H q => by
  obtain ⟨F, ρ, fp, Dd, ok, h, k⟩ := q
  refine le_lc hS hpm σ H _ ⟨F, ρ, fp, _, ok, h, fun v H1 F1 ρ1 fp1 r fr en rr q => ?_⟩
  exact hgy v σ H1 _ ⟨F1, ρ1, fp1, r, fr, Dd.nx, en.ok, rr, ⟨en.nd, en.hr ok⟩, q, fun σ' H' F' ρ' fp' s ok' _ q' => k.nx σ' H' F' ρ' fp' (en.st.trans s) ok' q'⟩

/-! ### xs[i] = e, xs a list that a slot owns -/
def gSet (wo wi : WE) : WG := fun r ρ Q => wo ρ fun o ρ1 => wi ρ1 fun i ρ2 => ∃ j n xs k d ρ3, o = .sl j ∧ i = .int n ∧ fzR ρ2 r = some (d, ρ3) ∧ ρ3[j]? = some (some (.lst true xs)) ∧ ixN xs.length n = some k ∧ Q (ρ3.set j (some (.lst true (xs.set k d))))
theorem off_refl {S : List Nat} : Off S σ σ := ⟨rfl, fun _ _ => rfl⟩
theorem dg_set {o i : Expr} {wo wi : WE} (hg : PG X (.Subscript o i pos) (gSub (LE G wo) (LE G wi) rSetL)) : PG X (.Subscript o i pos) (LG G (gSet wo wi) []) := imG hg fun v σ H Q q => by
  obtain ⟨F, ρ, fp, r, fr, Qd, ok, rr, ⟨nd, hr⟩, h, k⟩ := q
  refine ⟨F, ρ, fp, _, ok, h, fun vo H1 F1 ρ1 fp1 o f1 en1 ro q => ?_⟩
  refine ⟨F1, ρ1, fp1, _, en1.ok, q, fun vi H2 F2 ρ2 fp2 i f2 en2 ri q => ?_⟩
  obtain ⟨j, n, xs, kk, d, ρ3, rfl, rfl, e3, e4, ek, q⟩ := q
  obtain ⟨hσ, rfl⟩ := ro.sl
  obtain ⟨rfl, rfl⟩ := ri.int
  have st : Step G.ca.tb F H fp F2 H2 fp2 := en1.st0.trans en2.st0
  have rr2 := rr.step st ok.nf (nodup_d nd)
  have nd2 : (fr ++ fp2).Nodup := nodup_of (nodup_l nd) en2.ok.nd fun a z y => by
    rcases st.fps a y with w | w
    · exact nodup_d nd a z w
    · obtain ⟨u, eu⟩ := rr.dom a z
      rw [eu] at w; cases w
  obtain ⟨F3, fp3, s3, rp⟩ := rr2.share en2.ok nd2 hr e3
  obtain ⟨a, us, rfl, ha, rl, nF, _⟩ := s3.ok.own hσ e4
  obtain ⟨fp4, en4⟩ := s3.ok.setL (fr := []) e4 hσ ha nF (rl.set rp kk)
  refine ⟨a, us, n, kk, rfl, rfl, ha, by rw [rl.length]; exact ek, k σ _ F3 _ fp4 ?_ en4.ok off_refl q⟩
  have s1 : Step G.ca.tb F H (fr ++ fp) F2 H2 (fr ++ fp2) := st.frame fr
  have s4 : Step G.ca.tb F3 H2 fp3 F3 (upd H2 a (.lst (us.set kk v))) fp4 := by simpa using en4.st
  exact s1.trans (s3.step.trans s4)
theorem gFz_name {i : Nat} (hpm : ∀ p ∈ G.pm, p.1 ≠ i) : ∀ v σ H Q, LG G (gFz i) [i] v σ H Q → i < σ.length → gName i v σ H Q := fun v σ H Q q hi => by
  obtain ⟨F, ρ, fp, r, fr, Qd, ok, rr, ⟨nd, hr⟩, ⟨d, ρ1, e, q⟩, k⟩ := q
  obtain ⟨F1, fp1, s1, rp⟩ := rr.share ok nd hr e
  obtain ⟨fp2, ok2, sub⟩ := s1.ok.setV (i := i) (by rw [fz_len e, ← ok.rs.length]; exact hi) hpm rp (fun a z => nomatch z) (by simp) (fun a z => nomatch z)
  exact k _ H F1 _ fp2 (s1.step.less sub) ok2 off_set q
end
end M
/-! MG: defs that may ask for a repr: their promise holds where no repr is under way. -/
namespace M
open PySem PySem.Spec PyProof.Rows L2

structure RoomG (k : Nat) (A : Around) : Prop where
  rm : Room k A
  gd : A.guards = some []
theorem RoomG.mono {j k : Nat} {A : Around} (r : RoomG k A) (h : j ≤ k) : RoomG j A := ⟨r.rm.mono h, r.gd⟩
theorem RoomG.deeper {k : Nat} {A : Around} (r : RoomG (k + 1) A) (env : Env) : RoomG k (A.deeper env) := ⟨r.rm.deeper env, r.gd⟩
theorem RoomG.in1 {k : Nat} {A : Around} (r : RoomG (k + 1) A) : RoomG k A.in1 := ⟨r.rm.in1, r.gd⟩
theorem RoomG.make {k : Nat} {A : Around} (r : RoomG (k + 1) A) (C : Addr) (us : List Value) (kw : List (Str × Value)) : RoomG k (A.under (.builtin "type.__call__" ⟨.ref C :: us, kw⟩)) :=
  ⟨r.rm.make C us kw, by
    have : (A.under (.builtin "type.__call__" ⟨.ref C :: us, kw⟩)).guards = A.guards := by
      first | rfl | simp [Around.under, pushGuards, Code.guards, Code.isGuard, guardIds]
    rw [this]; exact r.gd⟩
structure FnG (P : Program) (w : World) (K : PySem.W.Frag) (mg : Str → Option Value) (base : Heap) (CX : CXT) (k : Nat) (f : Addr) (fd : FuncData) (ps : List Str) (sp : Sp) : Prop where
  len : ∀ vs H Q E, sp vs H Q E → vs.length = ps.length
  run : ∀ (A : Around) (outer : List Env) (s : Shared) (H : Hp) (args : Args) (us : List Value) (vs : List V) (Q : VK) (E : XK), RoomG k A → Env0 P w K mg base A outer s H → BindsTo s fd args (ps.zip us) → Vals vs us → sp vs H Q E → codeAny (model P w) A (.call (.ref f) args) (CR CX outer P w H s Q E) s
theorem FnG.mono {P : Program} {w : World} {K : PySem.W.Frag} {mg : Str → Option Value} {base : Heap} {CX : CXT} {j k : Nat} {f : Addr} {fd : FuncData} {ps : List Str} {sp : Sp} (F : FnG P w K mg base CX j f fd ps sp) (h : j ≤ k) : FnG P w K mg base CX k f fd ps sp :=
  ⟨F.len, fun A outer s H args us vs Q E hr => F.run A outer s H args us vs Q E (hr.mono h)⟩
/-- what a call's end says, by its result -/
theorem cr_ends {CX : CXT} {outer : List Env} {P : Program} {w : World} {H : Hp} {s s' : Shared} {Q : VK} {E : XK} {r : Result} (h : CR CX outer P w H s Q E r s') : (∃ u, r = .ok (.ret u) ∧ CE outer P w H s Q u s') ∨ ∃ e, r = .error e ∧ CX outer H s E e s' := by
  match r, h with
  | .error e, h => exact .inr ⟨e, rfl, h⟩
  | .ok (.ret u), h => exact .inl ⟨u, rfl, h⟩
  | .ok .next, h => exact h.elim
  | .ok .brk, h => exact h.elim
  | .ok .cont, h => exact h.elim
/-- a def by its body -/
theorem fnG_of {CX : CXT} {P : Program} {w : World} {K : PySem.W.Frag} {mg : Str → Option Value} {base : Heap} {k : Nat} {x qual : Str} {params : Arguments} {body : List Stmt} {scope : Scope} {dvs : List V} {kws : List (Str × V)} {f : Addr} {fd : FuncData} {N ps : List Str} {sp : Sp}
    (FD : FunD K x qual params body scope dvs kws f fd) (S : FnScope N ps scope) (len : ∀ vs H Q E, sp vs H Q E → vs.length = ps.length)
    (hbody : ∀ (cdv : Value) (A : Around) (outer : List Env) (s : Shared) (H : Hp) (vs : List V) (Q : VK) (E : XK), RoomG k (A.deeper (envOfC qual scope s.heap.objs.size f cdv)) → sp vs H Q E → ∃ t, PSs (cxOf CX P w K mg base N qual scope f cdv A outer s H E) body t ∧ t { nx := fun _ H' => Q .non H', rt := Q } (L2.start N vs) H) :
    FnG P w K mg base CX (k + 1) f fd ps sp := by
  obtain ⟨oc, od, dV, kV, doc, pm, an, cdv, ct, osl, rfl, lk, hcd, _, _⟩ := FD.ex
  refine ⟨len, fun A outer s H args us vs Q E hr e0 hb rv hsp => ?_⟩
  have up : ∀ b o, base.get? b = some o → s.heap.get? b = some o := fun b o e => (e0.bs b o e).1
  have KX : K.In s.heap := e0.mod.kin.keeps up
  have kinds : ∀ y ∈ ps.zip us, scope.names.lookup y.1 = some .local ∨ (scope.names.lookup y.1 = some .cell ∧ ((cellsFrom (s.heap.objs.size + 1) scope.names []).lookup y.1).isSome = true) := by
    rintro ⟨n, v⟩ hy
    exact (S.par n (List.of_mem_zip hy).1).imp id fun q => ⟨q, PySem.W.cellsFrom_some _ _ _ (.inl q)⟩
  refine codeAny_call_function hr.rm.depth (KX _ _ lk) rfl S.co S.gen rfl (PySem.W.codeRec_of KX hcd) (hb _ _ _ _ (wpAny_newFunctionEnv_cells S.kind kinds fun env he s1 x => ?_))
  subst he
  refine ⟨(e0.mod.nolimit.keeps up).keeps x.toInCall.keep, codeAny_func ?_⟩
  obtain ⟨t, ht, hq⟩ := hbody cdv A outer s H vs Q E (hr.deeper _) hsp
  refine wpAny_mono (ht.run [] s1 (L2.start N vs) H _ (inv_start S hr.rm.hd e0 (len _ _ _ _ hsp) rv x) hq) (fun fl s' hs => ?_) fun e s' hs => hs
  match fl, hs with
  | .ret u, ⟨v, σ', H', J, ru, q⟩ => exact ⟨v, H', J.os, J.bare, J.base, J.hok, ru, q⟩
  | .next, ⟨σ', H', J, q⟩ => exact ⟨V.non, H', J.os, J.bare, J.base, J.hok, rfl, q⟩
  | .brk, ⟨_, _, _, q⟩ => exact q.elim
  | .cont, ⟨_, _, _, q⟩ => exact q.elim

section
variable {X : Cx} {CX : CXT} {k n : Nat} {f C : Addr} {fd : FuncData} {ps ks : List Str} {sp : Sp} {dvs : List V} {ds : List Value} {x m : Str} {p pos apos : Pos} {e o : Expr} {es : List Expr} {kws : List Keyword} {t tk ta' : TA} {ta : TE} {g : List Value → List Value → List Value} {gV : List V → List V → List V}
/-- a def runs at any place with room -/
theorem runG {E : L2.St → XK} {A' : Around} {pins : List (Addr × Obj)} {σ : L2.St} {H : Hp} {s : Shared} {Q : VK} {args : Args} {us : List Value} {vs : List V} (F : FnG X.prog X.w X.K X.mg X.base CX k f fd ps sp) (hr : RoomG k A') (h0 : Env0 X.prog X.w X.K X.mg X.base A' X.stack s H) (hx : PassesAt CX X σ (E σ))
    (I : Inv X pins σ H s) (hb : BindsTo s fd args (ps.zip us)) (rv : Vals vs us) (h : sp vs H Q (E σ)) : codeAny (model X.prog X.w) A' (.call (.ref f) args) (wants (EP X pins σ Q) X.xe) s :=
  codeAny_mono (F.run A' X.stack s H args us vs Q (E σ) hr h0 hb rv h) fun q s' hq => by
    rcases cr_ends hq with ⟨u, rfl, z⟩ | ⟨er, rfl, z⟩
    · exact I.after z
    · exact hx pins H s er s' I z
theorem run_posG {E : L2.St → XK} {A' : Around} {pins : List (Addr × Obj)} {σ : L2.St} {H : Hp} {s : Shared} {Q : VK} {us : List Value} {vs : List V} (F : FnG X.prog X.w X.K X.mg X.base CX k f fd ps sp) (hr : RoomG k A') (h0 : Env0 X.prog X.w X.K X.mg X.base A' X.stack s H) (hb : Binds X.K fd ps ds) (hd : Vals dvs ds) (hx : PassesAt CX X σ (E σ))
    (I : Inv X pins σ H s) (rv : Vals vs us) (h : sp (vs ++ dvs) H Q (E σ)) : wpAny (model X.prog X.w) A' (call (.ref f) us) (EP X pins σ Q) X.xe s :=
  wpAny_call (runG F hr h0 hx I (hb s us I.kIn ((rv.append hd).length.symm.trans (F.len _ _ _ _ h))) (rv.append hd) h)
theorem pe_callG {E : L2.St → XK} (F : FnG X.prog X.w X.K X.mg X.base CX k f fd ps sp) (hr : RoomG k X.A) (hg : Gl X x) (hm : X.mg x = some (.ref f)) (hk : PySem.W.keepIn X.K (.ref f) = true) (hb : Binds X.K fd ps ds) (hd : Vals dvs ds) (hx : ∀ σ, PassesAt CX X σ (E σ)) (ha : PA X (e :: es) t)
    (hdb : (x == ("__debug__" : Str)) = false := by decide) (he : starEach (e :: es) X.env = (false, eval e X.env) :: starEach es X.env := by rfl) (hpl : (backTo pos (starEach es X.env)).any (·.1) = false := by rfl) : PE X (.Call (.Name x p) (e :: es) [] pos) (tCallSD sp dvs E t) :=
  ⟨fun pins s σ H Q I h => wpAny_Call_Name_kw (ld_glob I hg hm (PySem.W.callWith_K (h₀ := X.base) I.ok.mod.kin hk (thn (ha.run pos pins s σ H _ I h) fun us s1 ⟨vs, H1, I1, r, q⟩ => ⟨I1.kIn, run_posG F hr I1.env0 hb hd (hx σ) I1 r q⟩) he hpl) hdb)⟩
/-- how o.m(.., k = v) runs, on one row -/
abbrev MRunK (X : Cx) (o : Expr) (m : Str) (es : List Expr) (kws : List Keyword) (apos pos : Pos) (pl : Sem Bool) : Prop := eval (.Call (.Attribute o m apos) es kws pos) X.env = (eval o X.env >>= fun ov => standAt apos.atName >>= fun _ => holding [ov] (getMethod ov m pl) >>= fun q => callWith pos q.1 q.2 (backTo pos (starEach es X.env)) (backToKw pos (keywordEach kws X.env)))
def tMethS (C : Addr) (m : Str) (sp : Sp) (dvs : List V) (E : L2.St → XK) (ta : TE) (t : TA) : TE := fun σ H Q => ta σ H fun x H1 => ∃ a dx fs, x = .ref a ∧ H1 a = some (.ins C dx fs) ∧ fs.lookup m = none ∧ t σ H1 fun vs H2 => sp (x :: (vs ++ dvs)) H2 Q (E σ)
theorem pe_methG {E : L2.St → XK} {pl : Sem Bool} (he : PE X o ta) (c : Cls X.K C) (hm : L2.Meth X.K C m f) (F : FnG X.prog X.w X.K X.mg X.base CX k f fd ps sp) (hr : RoomG k X.A) (hb : Binds X.K fd ps ds) (hd : Vals dvs ds) (hx : ∀ σ, PassesAt CX X σ (E σ)) (ha : PA X (e :: es) t)
    (hst : starEach (e :: es) X.env = (false, eval e X.env) :: starEach es X.env := by rfl) (hpl : (backTo pos (starEach es X.env)).any (·.1) = false := by rfl) (ht : MRunK X o m (e :: es) [] apos pos pl := by rfl) : PE X (.Call (.Attribute o m apos) (e :: es) [] pos) (tMethS C m sp dvs E ta t) :=
  ⟨fun pins s σ H Q I h => PySem.W.methodCall_KW (pl := pl) (thn (he.run pins s σ H _ I h) fun u s1 ⟨x, H1, I1, rx, a, dx, fs, ex, ea, l, q⟩ => by
    subst ex
    have hu : u = Value.ref a := rx
    subst hu
    exact getmeth_ok I1 ea c hm l (PySem.W.callWith_K (first := [.ref a]) (h₀ := X.base) I.ok.mod.kin hm.kp (thn (ha.run pos pins s1 σ H1 _ I1 q) fun us s2 ⟨vs, H2, I2, r, q2⟩ => ⟨I2.kIn, run_posG (us := .ref a :: us) (vs := .ref a :: vs) F hr I2.env0 hb hd (hx σ) I2 (.cons (show RelV (.ref a) (.ref a) from rfl) r) q2⟩) hst hpl)) ht⟩
theorem pe_methG0 {E : L2.St → XK} {pl : Sem Bool} (he : PE X o ta) (c : Cls X.K C) (hm : L2.Meth X.K C m f) (F : FnG X.prog X.w X.K X.mg X.base CX k f fd ps sp) (hr : RoomG k X.A) (hb : Binds X.K fd ps ds) (hd : Vals dvs ds) (hx : ∀ σ, PassesAt CX X σ (E σ)) (ht : MRunK X o m [] [] apos pos pl := by rfl) : PE X (.Call (.Attribute o m apos) [] [] pos) (tMethS C m sp dvs E ta tNil) :=
  ⟨fun pins s σ H Q I h => PySem.W.methodCall_KW (pl := pl) (thn (he.run pins s σ H _ I h) fun u s1 ⟨x, H1, I1, rx, a, dx, fs, ex, ea, l, q⟩ => by
    subst ex
    have hu : u = Value.ref a := rx
    subst hu
    exact getmeth_ok I1 ea c hm l (PySem.W.callWith_K0 (first := [.ref a]) I1.kIn hm.kp (run_posG (us := [.ref a]) (vs := [.ref a]) F hr I1.env0 hb hd (hx σ) I1 (.cons (show RelV (.ref a) (.ref a) from rfl) .nil) q))) ht⟩
/-- a property read -/
def tPropS (C : Addr) (sp : Sp) (E : L2.St → XK) (ta : TE) : TE := fun σ H Q => ta σ H fun x H1 => ∃ a dx fs, x = .ref a ∧ H1 a = some (.ins C dx fs) ∧ sp [.ref a] H1 Q (E σ)
theorem pe_propG {E : L2.St → XK} {q g : Addr} {fn : Str} (he : PE X e ta) (c : Cls X.K C) (hp : PropOf X.K C fn q g) (F : FnG X.prog X.w X.K X.mg X.base CX k g fd ps sp) (hr : RoomG (k + 1) X.A) (hb : Binds X.K fd ps []) (hx : ∀ σ, PassesAt CX X.nox σ (E σ)) (hab : attributeBase e fn X.env (eval e X.env) = eval e X.env) : PE X (.Attribute e fn pos) (tPropS C sp E ta) :=
  ⟨fun pins s σ H Q I h => attr_of hab (thn (he.run pins s σ H _ I h) fun u s1 ⟨x, H1, I1, rx, a, dx, fs, ex, ea, z⟩ => by
    subst ex
    have hu : u = Value.ref a := rx
    subst hu
    obtain ⟨mA, O, _⟩ := ins_get I1.hok ea
    obtain ⟨od, J, _⟩ := O.look
    obtain ⟨rest, hrec⟩ := hp.rec_
    obtain ⟨cd, hc, _⟩ := PySem.W.any_some c.hd
    have I2 := I1.tok (s1.toks + 1)
    have hb' := hb _ [.ref a] I2.kIn (by rw [← F.len _ _ _ _ z]; rfl)
    refine PySem.W.get_bind I1.kIn J (PySem.W.plainGet_of (c.get fn)).1 (PySem.W.findObj_data (by rw [hc]; rfl) hp.at_ hp.get hp.tak) (PySem.W.plainGet_of (c.get fn)).2 (wpAny_call (PySem.W.prop_get (s := { s1 with toks := s1.toks + 1 }) I1.kIn hrec ?_))
    refine codeAny_mono (F.run X.A.in1 X.stack _ H1 ⟨[.ref a], []⟩ ([.ref a] ++ []) [.ref a] Q (E σ) hr.in1 I2.env0.in1 hb' (.cons (show RelV (.ref a) (.ref a) from rfl) .nil) z) fun r s' hq => ?_
    rcases cr_ends hq with ⟨u, rfl, y⟩ | ⟨er, rfl, y⟩
    · obtain ⟨v, H', I3, rv, q3⟩ := I2.after y
      show wpAny _ _ (handedOut u) _ _ _
      rw [PySem.W.handedOut_of (handed_of rv)]
      exact wpAny_pure ⟨v, H', I3, rv, q3⟩
    · exact (hx σ pins H1 _ er s' (I2.wish _) y).elim)⟩
/-- a call with keywords -/
def tCallKS (n m : Nat) (sp : Sp) (gV : List V → List V → List V) (E : L2.St → XK) (t tk : TA) : TE := fun σ H Q => t σ H fun vs H1 => tk σ H1 fun zs H2 => vs.length = n ∧ zs.length = m ∧ sp (gV vs zs) H2 Q (E σ)
theorem run_kwG {E : L2.St → XK} {pins : List (Addr × Obj)} {σ : L2.St} {H : Hp} {s : Shared} {Q : VK} {us ws : List Value} {vs zs : List V} (F : FnG X.prog X.w X.K X.mg X.base CX k f fd ps sp) (hr : RoomG k X.A) (hb : KBn X.K fd ps n ks g gV) (hx : PassesAt CX X σ (E σ)) (I : Inv X pins σ H s) (rv : Vals vs us) (rz : Vals zs ws) (l1 : vs.length = n) (l2 : zs.length = ks.length)
    (h : sp (gV vs zs) H Q (E σ)) : wpAny (model X.prog X.w) X.A (call (.ref f) us (ks.zip ws)) (EP X pins σ Q) X.xe s :=
  wpAny_call (runG F hr I.env0 hx I (hb.to s us ws I.kIn (rv.length.symm.trans l1) (rz.length.symm.trans l2)) (hb.rel rv rz) h)
theorem pe_callKG {E : L2.St → XK} (F : FnG X.prog X.w X.K X.mg X.base CX k f fd ps sp) (hr : RoomG k X.A) (hg : Gl X x) (hm : X.mg x = some (.ref f)) (hk : PySem.W.keepIn X.K (.ref f) = true) (hb : KBn X.K fd ps n ks g gV) (hx : ∀ σ, PassesAt CX X σ (E σ)) (ha : PA X (e :: es) t) (hkw : PK X kws tk)
    (hall : (backToKw pos (keywordEach kws X.env)).all (·.1.isSome) = true := by rfl) (hks : (backToKw pos (keywordEach kws X.env)).filterMap (·.1) = ks := by rfl) (hdb : (x == ("__debug__" : Str)) = false := by decide) (he : starEach (e :: es) X.env = (false, eval e X.env) :: starEach es X.env := by rfl)
    (hpl : ((backTo pos (starEach (e :: es) X.env)).any (·.1) || (backToKw pos (keywordEach kws X.env)).any (·.1.isNone)) = false := by rfl) : PE X (.Call (.Name x p) (e :: es) kws pos) (tCallKS n ks.length sp gV E t tk) :=
  ⟨fun pins s σ H Q I h => wpAny_Call_Name_kw (ld_glob I hg hm (PySem.W.callWith_KW (h₀ := X.base) I.ok.mod.kin hk hall (thn (ha.run pos pins s σ H _ I h) fun us s1 ⟨vs, H1, I1, r, q⟩ => thn (hkw.run pos pins s1 σ H1 _ I1 q) fun ws s2 ⟨zs, H2, I2, rz, l1, l2, q2⟩ => ⟨I2.kIn, hks ▸ run_kwG F hr hb (hx σ) I2 r rz l1 l2 q2⟩) hpl he) hdb)⟩
/-- an instance made -/
def tMakeS (C : Addr) (n m : Nat) (sp : Sp) (gV : List V → List V → List V) (E : L2.St → XK) (t tk : TA) : TE := fun σ H Q => t σ H fun vs H1 => tk σ H1 fun zs H2 => vs.length = n ∧ zs.length = m ∧ ∀ x dx, H2 x = none → H2 dx = none → dx ≠ x → sp (gV (.ref x :: vs) zs) (upd (upd H2 dx (.own x)) x (.ins C dx [])) (fun v H3 => v = .non ∧ Q (.ref x) H3) (E σ)
theorem run_makeG {E : L2.St → XK} {pins : List (Addr × Obj)} {σ : L2.St} {H : Hp} {s : Shared} {Q : VK} {us ws : List Value} {vs zs : List V} (mk : Mk X.K C f) (F : FnG X.prog X.w X.K X.mg X.base CX k f fd ps sp) (hr : RoomG (k + 1) X.A) (hb : KBn X.K fd ps (n + 1) ks g gV) (hx : PassesAt CX X σ (E σ)) (I : Inv X pins σ H s) (rv : Vals vs us) (rz : Vals zs ws) (l1 : vs.length = n) (l2 : zs.length = ks.length)
    (h : ∀ x dx, H x = none → H dx = none → dx ≠ x → sp (gV (.ref x :: vs) zs) (upd (upd H dx (.own x)) x (.ins C dx [])) (fun v H2 => v = .non ∧ Q (.ref x) H2) (E σ)) : wpAny (model X.prog X.w) X.A (call (.ref C) us (ks.zip ws)) (EP X pins σ Q) X.xe s := by
  have I2 := Inv.made (C := C) I
  have r1 : Vals (V.ref (s.heap.objs.size + 1) :: vs) (Value.ref (s.heap.objs.size + 1) :: us) := .cons rfl rv
  have z := h (s.heap.objs.size + 1) s.heap.objs.size (I.hok.fresh (Nat.le_succ _)) (I.hok.fresh (Nat.le_refl _)) (Nat.ne_of_lt (Nat.lt_succ_self _))
  refine wpAny_call (make_map (f := f) I.kIn mk.makes mk.init (beq_iff_eq.mp mk.fn) (codeAny_mono (runG (args := ⟨Value.ref (s.heap.objs.size + 1) :: us, ks.zip ws⟩) F (hr.make C us (ks.zip ws)) (I2.env0.make C us (ks.zip ws)) hx I2 (hb.to _ (Value.ref (s.heap.objs.size + 1) :: us) ws I2.kIn (r1.length.symm.trans (congrArg Nat.succ l1)) (rz.length.symm.trans l2)) (hb.rel r1 rz) z) fun r s' hq => ?_))
  match r, hq with
  | .error e, hq => exact hq
  | .ok (.ret u), ⟨v, H', I3, ru, ev, q3⟩ =>
    subst ev
    exact ⟨ru, ⟨V.ref (s.heap.objs.size + 1), H', I3, rfl, q3⟩⟩
  | .ok .next, hq => exact hq.elim
  | .ok .brk, hq => exact hq.elim
  | .ok .cont, hq => exact hq.elim
theorem pe_makeG {E : L2.St → XK} (mk : Mk X.K C f) (F : FnG X.prog X.w X.K X.mg X.base CX k f fd ps sp) (hr : RoomG (k + 1) X.A) (hg : Gl X x) (hm : X.mg x = some (.ref C)) (hb : KBn X.K fd ps (n + 1) ks g gV) (hx : ∀ σ, PassesAt CX X σ (E σ)) (ha : PA X (e :: es) t) (hkw : PK X kws tk)
    (hall : (backToKw pos (keywordEach kws X.env)).all (·.1.isSome) = true := by rfl) (hks : (backToKw pos (keywordEach kws X.env)).filterMap (·.1) = ks := by rfl) (hdb : (x == ("__debug__" : Str)) = false := by decide) (he : starEach (e :: es) X.env = (false, eval e X.env) :: starEach es X.env := by rfl)
    (hpl : ((backTo pos (starEach (e :: es) X.env)).any (·.1) || (backToKw pos (keywordEach kws X.env)).any (·.1.isNone)) = false := by rfl) : PE X (.Call (.Name x p) (e :: es) kws pos) (tMakeS C n ks.length sp gV E t tk) :=
  ⟨fun pins s σ H Q I h => wpAny_Call_Name_kw (ld_glob I hg hm (PySem.W.callWith_KW (h₀ := X.base) I.ok.mod.kin mk.kp hall (thn (ha.run pos pins s σ H _ I h) fun us s1 ⟨vs, H1, I1, r, q⟩ => thn (hkw.run pos pins s1 σ H1 _ I1 q) fun ws s2 ⟨zs, H2, I2, rz, l1, l2, q2⟩ => ⟨I2.kIn, hks ▸ run_makeG mk F hr hb (hx σ) I2 r rz l1 l2 q2⟩) hpl he) hdb)⟩
theorem pe_makeG0 {E : L2.St → XK} (mk : Mk X.K C f) (F : FnG X.prog X.w X.K X.mg X.base CX k f fd ps sp) (hr : RoomG (k + 1) X.A) (hg : Gl X x) (hm : X.mg x = some (.ref C)) (hb : KBn X.K fd ps 1 ks g gV) (hx : ∀ σ, PassesAt CX X σ (E σ)) (hkw : PK X kws tk)
    (hall : (backToKw pos (keywordEach kws X.env)).all (·.1.isSome) = true := by rfl) (hks : (backToKw pos (keywordEach kws X.env)).filterMap (·.1) = ks := by rfl) (hdb : (x == ("__debug__" : Str)) = false := by decide)
    (hpl : ((backTo pos (starEach [] X.env)).any (·.1) || (backToKw pos (keywordEach kws X.env)).any (·.1.isNone)) = false := by rfl) : PE X (.Call (.Name x p) [] kws pos) (tMakeS C 0 ks.length sp gV E tNil tk) :=
  ⟨fun pins s σ H Q I h => wpAny_Call_Name_kw (ld_glob I hg hm (PySem.W.callWith_KW0 (h₀ := X.base) I.ok.mod.kin mk.kp hall (thn (hkw.run pos pins s σ H _ I h) fun ws s2 ⟨zs, H2, I2, rz, l1, l2, q2⟩ => ⟨I2.kIn, hks ▸ run_makeG (us := []) (vs := []) mk F hr hb (hx σ) I2 .nil rz rfl l2 q2⟩) hpl) hdb)⟩
end
end M
/-! M10: promises over data, calls, the body of a def. -/
namespace M
open PySem PySem.Spec PyProof.Rows L2

/-- what is wanted of an exception: its class, its fields, what they hold -/
abbrev DX := Str → List Str → List D → Prop
abbrev DXs := Str → List Str → List D → Sl → Prop
/-- a promise: the arguments, what is wanted of the result (and of what the owned arguments hold then), of an exception -/
abbrev Spd := List D → (D → List D → Prop) → DX → Prop
def exF : DXs := fun _ _ _ _ => False

section
variable {G : Gc} {X : Cx} {F F' F1 F2 : Addr → Prop} {H H' H1 H2 : Hp} {σ σ' : L2.St} {ρ ρ' ρ1 ρ2 : Sl} {fp fp' fp1 fp2 fr fr1 fr2 : List Addr} {v v1 v2 : V} {r r1 r2 d : D} {p : Addr} {o : HO}
  {a b c e : Expr} {es : List Expr} {wa wb wc we : WE} {ta tb tc : WT} {rest : List Expr} {pos : Pos} {K : PySem.W.Frag} {ca : Cax}

/-- what the owned arguments hold -/
inductive RpO (K : PySem.W.Frag) (ca : Cax) (F : Addr → Prop) (H : Hp) (vs : List V) : List Nat → List D → List Addr → Prop
  | nil : RpO K ca F H vs [] [] []
  | cons {i : Nat} {is : List Nat} {v : V} {d : D} {ds : List D} {fr fp : List Addr} : vs[i]? = some v → Rp K ca F H v d fr → RpO K ca F H vs is ds fp → RpO K ca F H vs (i :: is) (d :: ds) (fr ++ fp)
/-- a promise over data as one over the heap; own: the places of the owned arguments -/
def lift (K : PySem.W.Frag) (ca : Cax) (own : List Nat) (sp : Spd) : Sp := fun vs H Q E => ∃ F ds fp Qd Ed, RpL K ca F H vs ds fp ∧ fp.Nodup ∧ (∀ a, F a → ∃ o, H a = some o) ∧ LamX.Tabs ca.tb H ∧ (∀ i d, ds[i]? = some d → i ∉ own → isOw d = false) ∧ sp ds Qd Ed ∧
  (∀ v H' F' r fr os fo, Step ca.tb F H fp F' H' (fr ++ fo) → (fr ++ fo).Nodup → (∀ a, F' a → ∃ o, H' a = some o) → Rp K ca F' H' v r fr → RpO K ca F' H' vs own os fo → Qd r os → Q v H') ∧
  ∀ c x H' F' fs us xs, Step ca.tb F H fp F' H' [] → (∀ a, F' a → ∃ o, H' a = some o) → H' x = some (.xd (fs.zip us)) → fs.length = us.length → RpL K ca F' H' us xs [] → Ed c fs xs → E (.ref (ca c)) (some x) H'

/-! ### a call's arguments -/
def isSl : D → Bool
  | .sl _ => true
  | _ => false
/-- the arguments at the places own are moved out of their slots (those in no slot are given away), those at bor left where they are, the others shared -/
def pre (own bor : List Nat) : Nat → Sl → List D → Option (List D × Sl × List Nat)
  | _, ρ, [] => some ([], ρ, [])
  | n, ρ, r :: rs =>
    if own.contains n = true then
      match r with
      | .sl j => match ρ[j]? with
        | some (some d) => (pre own bor (n + 1) (ρ.set j none) rs).map fun x => (d :: x.1, x.2.1, j :: x.2.2)
        | _ => none
      | r => (pre own bor (n + 1) ρ rs).map fun x => (r :: x.1, x.2.1, ρ.length :: x.2.2)
    else if bor.contains n = true ∧ isSl r = true then (pre own bor (n + 1) ρ rs).map fun x => (r :: x.1, x.2.1, x.2.2)
    else match fzR ρ r with
      | some (d, ρ1) => (pre own bor (n + 1) ρ1 rs).map fun x => (d :: x.1, x.2.1, x.2.2)
      | none => none
/-- what is lent, as it is seen -/
def lend (ρ : Sl) : List D → Option (List D)
  | [] => some []
  | r :: rs => match (match r with
      | .sl j => match ρ[j]? with
        | some (some d) => some (fz d)
        | _ => none
      | r => some r), lend ρ rs with
    | some d, some ds => some (d :: ds)
    | _, _ => none
def puts : Sl → List Nat → List D → Sl
  | ρ, j :: js, d :: ds => puts (ρ.set j (some d)) js ds
  | ρ, _, _ => ρ
/-- the values at the places own, in order, are those of the slots js -/
inductive Own (σ : L2.St) (own : List Nat) : Nat → List V → List Nat → List V → Prop
  | nil {n : Nat} : Own σ own n [] [] []
  | yes {n j : Nat} {v : V} {vs ws : List V} {js : List Nat} : own.contains n = true → σ[j]? = some (some v) → Own σ own (n + 1) vs js ws → Own σ own n (v :: vs) (j :: js) (v :: ws)
  | tmp {n j : Nat} {v : V} {vs ws : List V} {js : List Nat} : own.contains n = true → σ[j]? = none → Own σ own (n + 1) vs js ws → Own σ own n (v :: vs) (j :: js) (v :: ws)
  | no {n : Nat} {v : V} {vs ws : List V} {js : List Nat} : own.contains n = false → Own σ own (n + 1) vs js ws → Own σ own n (v :: vs) js ws
/-- behind the arguments: what is shared (F'), the moved ones' (fo), the slots' (fp') -/
structure Arg (G : Gc) (F : Addr → Prop) (H : Hp) (σ : L2.St) (ρ : Sl) (fp fr : List Addr) (F' : Addr → Prop) (ρ' : Sl) (fp' fo : List Addr) : Prop where
  mono : ∀ a, F a → F' a
  new : ∀ a, F' a → F a ∨ a ∈ fr ∨ (a ∈ fp ∧ a ∉ fp' ∧ a ∉ fo)
  ok : Ok G F' H σ ρ' fp'
  sub : ∀ a ∈ fp', a ∈ fp
  subo : ∀ a ∈ fo, (a ∈ fp ∨ a ∈ fr) ∧ a ∉ fp'
  ndo : fo.Nodup
theorem Rr.take (ok : Ok G F H σ ρ fp) {j : Nat} (h : Rr G F H σ v (.sl j) fr) (e : ρ[j]? = some (some d)) : ∃ fs fp', Rp G.K G.ca F H v d fs ∧ Ok G F H σ (ρ.set j none) fp' ∧ (∀ a ∈ fp', a ∈ fp) ∧ (∀ a ∈ fs, a ∈ fp ∧ a ∉ fp') ∧ fs.Nodup := by
  obtain ⟨hσ, _⟩ := h.sl
  obtain ⟨l, fs, r, e1, g1, _, g3, _⟩ := ok.rs.at_ (i := j) (by rw [List.getElem?_eq_some_iff] at e; exact e.1)
  obtain ⟨v', ev, rp⟩ := g1 d e
  rw [hσ] at ev; cases ev
  have q := g3 (some v)
  rw [set_get hσ] at q
  have nd2 := ok.nd
  rw [e1] at nd2
  have lr : ∀ a, a ∈ l ++ r → a ∉ fs := fun a z y => by
    rcases List.mem_append.mp z with z | z
    · exact nodup_d (nodup_l nd2) a z y
    · exact nodup_d nd2 a (List.mem_append_right _ y) z
  exact ⟨fs, l ++ r, rp, ⟨q, nodup_of (nodup_l (nodup_l nd2)) (nodup_r nd2) fun x z y => nodup_d nd2 x (List.mem_append_left _ z) y, ok.dom, ok.pm, ok.rch.less fun a z => by rw [e1]; rcases List.mem_append.mp z with w | w <;> simp [w]⟩,
    fun a z => by rw [e1]; rcases List.mem_append.mp z with w | w <;> simp [w], fun a z => ⟨by rw [e1]; simp [z], fun w => lr a w z⟩, nodup_r (nodup_l nd2)⟩
theorem omap {α β : Type} {x : Option α} {f : α → β} {y : β} (h : x.map f = some y) : ∃ z, x = some z ∧ f z = y := by
  cases x with
  | none => cases h
  | some z => exact ⟨z, rfl, Option.some.inj h⟩
theorem RrL.pre {own bor : List Nat} : ∀ {rs : List D} {n : Nat} {vs : List V} {F : Addr → Prop} {ρ : Sl} {fp fr : List Addr} {ds : List D} {ρ' : Sl} {js : List Nat}, Ok G F H σ ρ fp → RrL G F H σ vs rs fr → (fr ++ fp).Nodup → (∀ a ∈ fr, a ∈ G.fp0 ∨ G.H0 a = none) → M.pre own bor n ρ rs = some (ds, ρ', js) →
    ∃ F' fp' fo ws, Arg G F H σ ρ fp fr F' ρ' fp' fo ∧ RrL G F' H σ vs ds fo ∧ Own σ own n vs js ws ∧ (bor = [] → RpL G.K G.ca F' H vs ds fo)
  | [], n, _, F, ρ, fp, _, ds, ρ', js, ok, .nil, nd, hr, e => by
    cases e
    exact ⟨F, fp, [], [], ⟨fun _ z => z, fun _ z => .inl z, ok, fun _ z => z, (fun _ z => nomatch z), List.nodup_nil⟩, .nil, .nil, fun _ => .nil⟩
  | r :: rs, n, _, F, ρ, fp, _, ds, ρ', js, ok, @RrL.cons _ _ _ _ v vs _ _ f1 f2 h1 h2, nd, hr, e => by
    have ndx : (f2 ++ fp).Nodup := by rw [List.append_assoc] at nd; exact nodup_r nd
    have nd1 : (f1 ++ fp).Nodup := by
      rw [List.append_assoc] at nd
      exact nodup_of (nodup_l nd) (nodup_r (nodup_r nd)) fun a z y => nodup_d nd a z (List.mem_append_right _ y)
    have d12 : ∀ a ∈ f1, a ∉ f2 := nodup_d (nodup_l nd)
    unfold M.pre at e
    by_cases ho : own.contains n = true
    · rw [if_pos ho] at e
      by_cases hsl : isSl r = false
      · have e : ((M.pre own bor (n + 1) ρ rs).map fun x => (r :: x.1, x.2.1, ρ.length :: x.2.2)) = some (ds, ρ', js) := by
          cases r <;> first | exact e | cases hsl
        obtain ⟨⟨ds2, ρ2, js2⟩, q2, q3⟩ := omap e
        cases q3
        obtain ⟨F2, fp2, fo, ws, A, rl, ow, hb⟩ := RrL.pre ok h2 ndx (fun a z => hr a (by simp [z])) q2
        have rp : Rp G.K G.ca F H v r f1 := by
          rcases h1 with h1 | ⟨j, rfl, _⟩
          · exact h1
          · cases hsl
        have d1p : ∀ a ∈ f1, a ∉ fp := nodup_d nd1
        have nF2 : ∀ a ∈ f1, ¬ F2 a := fun a z f => by
          rcases A.new a f with w | w | w
          · exact (rp.own a z).1 w
          · exact d12 a z w
          · exact d1p a z w.1
        have rp2 : Rp G.K G.ca F2 H v r f1 := rp.keep (fun _ _ e _ => e) (fun _ _ _ e _ => e) (fun _ _ _ e _ => e) A.mono (fun _ _ _ e _ => e) nF2
        have dfo : ∀ a ∈ f1, a ∉ fo := fun a z y => (A.subo a y).1.elim (d1p a z) (d12 a z)
        refine ⟨F2, fp2, f1 ++ fo, v :: ws, ⟨A.mono, fun a z => ?_, A.ok, A.sub, fun a z => ?_, nodup_of (nodup_l nd1) A.ndo dfo⟩, .cons (.inl rp2) rl, .tmp ho (by rw [List.getElem?_eq_none_iff]; have := ok.rs.length; omega) ow, fun b => .cons rp2 (hb b)⟩
        · rcases A.new a z with w | w | w
          · exact .inl w
          · exact .inr (.inl (List.mem_append_right _ w))
          · refine .inr (.inr ⟨w.1, w.2.1, fun y => ?_⟩)
            rcases List.mem_append.mp y with y | y
            · exact d1p a y w.1
            · exact w.2.2 y
        · rcases List.mem_append.mp z with z | z
          · exact ⟨.inr (List.mem_append_left _ z), fun w => d1p a z (A.sub a w)⟩
          · exact ⟨(A.subo a z).1.imp id (List.mem_append_right _), (A.subo a z).2⟩
      cases r <;> (try (exact absurd rfl hsl))
      rename_i j
      have e : (match ρ[j]? with
        | some (some d) => (M.pre own bor (n + 1) (ρ.set j none) rs).map fun x => (d :: x.1, x.2.1, j :: x.2.2)
        | _ => none) = some (ds, ρ', js) := e
      cases q1 : ρ[j]? with
      | none => rw [q1] at e; cases e
      | some x => cases x with
        | none => rw [q1] at e; cases e
        | some d =>
          rw [q1] at e
          obtain ⟨⟨ds2, ρ2, js2⟩, q2, q3⟩ := omap e
          cases q3
          obtain ⟨hσ, rfl⟩ := h1.sl
          obtain ⟨fs, fp1, rp, ok1, sub1, own1, ndf⟩ := h1.take ok q1
          obtain ⟨F2, fp2, fo, ws, A, rl, ow, hb⟩ := RrL.pre ok1 h2 (nodup_of (nodup_l ndx) ok1.nd fun a z y => nodup_d ndx a z (sub1 a y)) (fun a z => hr a (by simp [z])) q2
          have nF2 : ∀ a ∈ fs, ¬ F2 a := fun a z f => by
            rcases A.new a f with w | w | w
            · exact (rp.own a z).1 w
            · exact nodup_d ndx a w (own1 a z).1
            · exact (own1 a z).2 w.1
          have rp2 : Rp G.K G.ca F2 H v d fs := rp.keep (fun _ _ e _ => e) (fun _ _ _ e _ => e) (fun _ _ _ e _ => e) A.mono (fun _ _ _ e _ => e) nF2
          refine ⟨F2, fp2, fs ++ fo, v :: ws, ⟨A.mono, fun a z => ?_, A.ok, fun a z => sub1 a (A.sub a z), fun a z => ?_, nodup_of ndf A.ndo fun a z y => (A.subo a y).1.elim (own1 a z).2 fun w => nodup_d ndx a w (own1 a z).1⟩, .cons (.inl rp2) rl, .yes ho hσ ow, fun b => .cons rp2 (hb b)⟩
          · rcases A.new a z with w | w | w
            · exact .inl w
            · exact .inr (.inl (by simp [w]))
            · refine .inr (.inr ⟨sub1 a w.1, w.2.1, fun y => ?_⟩)
              rcases List.mem_append.mp y with y | y
              · exact (own1 a y).2 w.1
              · exact w.2.2 y
          · rcases List.mem_append.mp z with z | z
            · exact ⟨.inl (own1 a z).1, fun w => (own1 a z).2 (A.sub a w)⟩
            · exact ⟨(A.subo a z).1.imp (sub1 a) (fun w => by simpa using w), (A.subo a z).2⟩
    · rw [if_neg ho] at e
      have ho' : own.contains n = false := by simpa using ho
      by_cases hb : bor.contains n = true ∧ isSl r = true
      · rw [if_pos hb] at e
        obtain ⟨⟨ds2, ρ2, js2⟩, q2, q3⟩ := omap e
        cases q3
        cases r <;> (try (exact absurd hb.2 Bool.false_ne_true))
        obtain ⟨hσ, rfl⟩ := h1.sl
        obtain ⟨F2, fp2, fo, ws, A, rl, ow, hb2⟩ := RrL.pre ok h2 ndx (fun a z => hr a (by simp [z])) q2
        refine ⟨F2, fp2, [] ++ fo, ws, ⟨A.mono, fun a z => by simpa using A.new a z, A.ok, A.sub, fun a z => by simpa using A.subo a z, A.ndo⟩, .cons (.inr ⟨_, rfl, hσ, rfl⟩) rl, .no ho' ow, fun b => ?_⟩
        rw [b] at hb
        exact absurd hb.1 (by simp)
      · rw [if_neg hb] at e
        cases q1 : fzR ρ r with
        | none => rw [q1] at e; cases e
        | some x =>
          obtain ⟨d, ρ1⟩ := x
          rw [q1] at e
          obtain ⟨⟨ds2, ρ2, js2⟩, q2, q3⟩ := omap e
          cases q3
          obtain ⟨F1, fp1, s1, p1⟩ := h1.share ok nd1 (fun a z => hr a (List.mem_append_left _ z)) q1
          have h2' : RrL G F1 H σ vs rs f2 := by
            refine h2.step (fp := f1 ++ fp) (fp' := fp1) s1.step (fun a z => ?_) fun a z y => ?_
            · rcases List.mem_append.mp z with z | z
              · exact (h1.own a z).1
              · exact ok.nf a z
            · rcases List.mem_append.mp y with y | y
              · exact d12 a y z
              · exact nodup_d ndx a z y
          obtain ⟨F2, fp2, fo, ws, A, rl, ow, hb2⟩ := RrL.pre s1.ok h2' (nodup_of (nodup_l ndx) s1.ok.nd fun a z y => nodup_d ndx a z (s1.sub a y)) (fun a z => hr a (List.mem_append_right _ z)) q2
          have rp2 : Rp G.K G.ca F2 H v d [] := p1.keep (fun _ _ e _ => e) (fun _ _ _ e _ => e) (fun _ _ _ e _ => e) A.mono (fun a z => nomatch z) fun a z => nomatch z
          refine ⟨F2, fp2, [] ++ fo, ws, ⟨fun a z => A.mono a (s1.mono a z), fun a z => ?_, A.ok, fun a z => s1.sub a (A.sub a z), fun a z => ⟨(A.subo a z).1.imp (s1.sub a) (List.mem_append_right _), (A.subo a z).2⟩, A.ndo⟩, .cons (.inl rp2) rl, .no ho' ow, fun b => .cons rp2 (hb2 b)⟩
          rcases A.new a z with y | y | y
          · rcases s1.new a y with w | w | w
            · exact .inl w
            · exact .inr (.inl (List.mem_append_left _ w))
            · refine .inr (.inr ⟨w.1, fun x => w.2 (A.sub a x), fun x => (A.subo a x).1.elim w.2 fun y => nodup_d ndx a y w.1⟩)
          · exact .inr (.inl (List.mem_append_right _ y))
          · exact .inr (.inr ⟨s1.sub a y.1, y.2⟩)
theorem RrL.lend (ok : Ok G F H σ ρ fp) : ∀ {rs : List D} {vs : List V} {ds : List D} {fr : List Addr}, RrL G F H σ vs rs fr → (∀ a ∈ fr, a ∉ fp) → M.lend ρ rs = some ds → RpL G.K G.ca (fun a => F a ∨ a ∈ fp) H vs ds fr
  | [], _, ds, _, .nil, _, e => by cases e; exact .nil
  | r :: rs, _, ds, _, .cons h1 h2, dj, e => by
    unfold M.lend at e
    split at e
    · rename_i d ds2 q1 q2
      cases e
      refine .cons ?_ (RrL.lend ok h2 (fun a z => dj a (List.mem_append_right _ z)) q2)
      rcases h1 with h1 | ⟨j, rfl, hσ, rfl⟩
      · have : d = r := by cases h1 <;> exact (Option.some.inj q1).symm
        subst this
        exact h1.keep (fun _ _ e _ => e) (fun _ _ _ e _ => e) (fun _ _ _ e _ => e) (fun a z => .inl z) (fun _ _ _ e _ => e) fun a z w => w.elim (h1.own a z).1 (dj a (List.mem_append_left _ z))
      · have q1 : (match ρ[j]? with
          | some (some d) => some (fz d)
          | _ => none) = some d := q1
        cases q3 : ρ[j]? with
        | none => rw [q3] at q1; cases q1
        | some x => cases x with
          | none => rw [q3] at q1; cases q1
          | some y =>
            rw [q3] at q1
            cases q1
            have rr : Rr G F H σ _ (.sl j) [] := .inr ⟨j, rfl, hσ, rfl⟩
            obtain ⟨fs, rp, sub⟩ := rr.see ok (d := y) (by show (ρ[j]?).join = _; rw [q3]; rfl)
            exact rp.fz (fun a z => .inl z) fun a z => .inr (by simpa using sub a z)
    · cases e

/-! ### behind a call -/
theorem Ok.putF {i : Nat} (ok : Ok G F H σ ρ fp) (e : σ[i]? = some (some v)) (rp : Rp G.K G.ca F H v d fr) (dj : ∀ a ∈ fr, a ∉ fp) (nd : fr.Nodup) (hr : ∀ a ∈ fr, a ∈ G.fp0 ∨ G.H0 a = none) : ∃ fp', Ok G F H σ (ρ.set i (some d)) fp' ∧ ∀ a ∈ fp', a ∈ fr ++ fp := by
  have hi : i < ρ.length := by rw [← ok.rs.length]; exact (List.getElem?_eq_some_iff.mp e).1
  obtain ⟨l, fs, r, e1, _, _, _, h4⟩ := ok.rs.at_ hi
  have nd2 := ok.nd
  rw [e1] at nd2
  have q := h4 v d fr rp
  rw [set_get e] at q
  have sub : ∀ a ∈ l ++ fr ++ r, a ∈ fr ++ fp := fun a z => by
    rw [e1]
    rcases List.mem_append.mp z with z | z
    · rcases List.mem_append.mp z with z | z <;> simp [z]
    · simp [z]
  refine ⟨l ++ fr ++ r, ⟨q, ?_, ok.dom, ok.pm, ⟨ok.rch.mono, ok.rch.new, ok.rch.kept, ok.rch.there, fun a z => ?_, ok.rch.tab⟩⟩, sub⟩
  · rw [e1] at dj
    refine nodup_of (nodup_of (nodup_l (nodup_l nd2)) nd fun a z y => dj a y (by simp [z])) (nodup_r nd2) fun a z y => ?_
    rcases List.mem_append.mp z with z | z
    · exact nodup_d nd2 a (List.mem_append_left _ z) y
    · exact dj a z (by simp [y])
  · rcases List.mem_append.mp (sub a z) with w | w
    · exact hr a w
    · exact ok.rch.fps a w
/-- the owned arguments' values -/
theorem Own.get {own : List Nat} {n : Nat} {vs ws : List V} {js : List Nat} (h : Own σ own n vs js ws) : Paired (fun j w => σ[j]? = some (some w) ∨ σ[j]? = none) js ws := by
  induction h with
  | nil => exact .nil
  | yes _ e _ ih => exact .cons (.inl e) ih
  | tmp _ e _ ih => exact .cons (.inr e) ih
  | no _ _ ih => exact ih
/-- own: ascending, within the arguments: the values at those places -/
theorem Own.at_ {own : List Nat} : ∀ {n : Nat} {vs ws : List V} {js : List Nat}, Own σ own n vs js ws → ∀ {os : List Nat} (pre : List V), pre.length = n → (∀ i, i ∈ os ↔ i ∈ own ∧ n ≤ i) → os.Pairwise (· < ·) → (∀ i ∈ os, i < n + vs.length) → Paired (fun i w => (pre ++ vs)[i]? = some w) os ws
  | n, _, _, _, .nil, os, pre, hp, h1, h2, h3 => by
    cases os with
    | nil => exact .nil
    | cons i os =>
      have := h3 i List.mem_cons_self
      have := (h1 i).mp List.mem_cons_self
      simp at *
      omega
  | n, _, _, _, .yes (v := v) (vs := vs) (ws := ws) hc _ t, os, pre, hp, h1, h2, h3 => by
    have hn : n ∈ os := (h1 n).mpr ⟨by simpa using hc, Nat.le_refl _⟩
    cases os with
    | nil => cases hn
    | cons i os =>
      have hi : i = n := by
        rcases List.mem_cons.mp hn with z | z
        · exact z.symm
        · have l1 := (List.pairwise_cons.mp h2).1 n z
          have l2 := ((h1 i).mp List.mem_cons_self).2
          omega
      subst hi
      refine .cons ?_ ?_
      · rw [List.getElem?_append_right (by omega), hp]; simp
      · have := Own.at_ t (os := os) (pre ++ [v]) (by simp [hp]) (fun k => ?_) (List.pairwise_cons.mp h2).2 fun k hk => ?_
        · simpa using this
        · constructor
          · intro hk
            have l1 := (List.pairwise_cons.mp h2).1 k hk
            exact ⟨((h1 k).mp (List.mem_cons_of_mem _ hk)).1, l1⟩
          · intro ⟨h4, h5⟩
            rcases List.mem_cons.mp ((h1 k).mpr ⟨h4, by omega⟩) with z | z
            · omega
            · exact z
        · have := h3 k (List.mem_cons_of_mem _ hk)
          simp at this
          omega
  | n, _, _, _, .tmp (v := v) (vs := vs) (ws := ws) hc _ t, os, pre, hp, h1, h2, h3 => by
    have hn : n ∈ os := (h1 n).mpr ⟨by simpa using hc, Nat.le_refl _⟩
    cases os with
    | nil => cases hn
    | cons i os =>
      have hi : i = n := by
        rcases List.mem_cons.mp hn with z | z
        · exact z.symm
        · have l1 := (List.pairwise_cons.mp h2).1 n z
          have l2 := ((h1 i).mp List.mem_cons_self).2
          omega
      subst hi
      refine .cons ?_ ?_
      · rw [List.getElem?_append_right (by omega), hp]; simp
      · have := Own.at_ t (os := os) (pre ++ [v]) (by simp [hp]) (fun k => ?_) (List.pairwise_cons.mp h2).2 fun k hk => ?_
        · simpa using this
        · constructor
          · intro hk
            have l1 := (List.pairwise_cons.mp h2).1 k hk
            exact ⟨((h1 k).mp (List.mem_cons_of_mem _ hk)).1, l1⟩
          · intro ⟨h4, h5⟩
            rcases List.mem_cons.mp ((h1 k).mpr ⟨h4, by omega⟩) with z | z
            · omega
            · exact z
        · have := h3 k (List.mem_cons_of_mem _ hk)
          simp at this
          omega
  | n, _, _, _, .no (v := v) (vs := vs) hc t, os, pre, hp, h1, h2, h3 => by
    have := Own.at_ t (os := os) (pre ++ [v]) (by simp [hp]) (fun k => ?_) h2 fun k hk => ?_
    · simpa using this
    · constructor
      · intro hk
        have l1 := (h1 k).mp hk
        refine ⟨l1.1, ?_⟩
        by_cases e : k = n
        · rw [e] at l1
          have := l1.1
          simp at hc
          exact absurd this hc
        · omega
      · intro ⟨h4, h5⟩
        exact (h1 k).mpr ⟨h4, by omega⟩
    · have := h3 k hk
      simp at this
      omega
/-- the owned arguments come back into their slots -/
theorem Ok.puts {vs : List V} : ∀ {os : List Nat} {js : List Nat} {ws : List V} {ds : List D} {fo : List Addr} {ρ : Sl} {fp : List Addr}, Ok G F H σ ρ fp → RpO G.K G.ca F H vs os ds fo → Paired (fun i w => vs[i]? = some w) os ws → Paired (fun j w => σ[j]? = some (some w) ∨ σ[j]? = none) js ws → (fo ++ fp).Nodup → (∀ a ∈ fo, a ∈ G.fp0 ∨ G.H0 a = none) →
    ∃ fp', Ok G F H σ (M.puts ρ js ds) fp' ∧ ∀ a ∈ fp', a ∈ fo ++ fp
  | [], [], [], _, _, ρ, fp, ok, .nil, .nil, .nil, nd, hr => ⟨fp, ok, fun a z => by simpa using z⟩
  | [], _ :: _, _, _, _, _, _, _, _, h1, h2, _, _ => by cases h1; cases h2
  | _ :: _, [], _, _, _, _, _, _, _, h1, h2, _, _ => by cases h1 with | cons _ _ => cases h2
  | i :: os, j :: js, w :: ws, d :: ds, _, ρ, fp, ok, @RpO.cons _ _ _ _ _ _ _ v _ _ fr fo e rp t, .cons e1 t1, .cons e2 t2, nd, hr => by
    rw [e] at e1; cases e1
    have nd' := nd
    rw [List.append_assoc] at nd'
    rcases e2 with e2 | e2
    rotate_left
    · have hlen : ρ.length ≤ j := by rw [← ok.rs.length]; exact List.getElem?_eq_none_iff.mp e2
      obtain ⟨fp2, ok2, sub2⟩ := Ok.puts ok t t1 t2 (nodup_r nd') fun a z => hr a (List.mem_append_right _ z)
      refine ⟨fp2, ?_, fun a z => ?_⟩
      · show Ok G F H σ (M.puts (ρ.set j (some d)) js _) fp2
        rw [List.set_eq_of_length_le hlen]
        exact ok2
      · rcases List.mem_append.mp (sub2 a z) with x | x <;> simp [x]
    obtain ⟨fp1, ok1, sub1⟩ := ok.putF e2 rp (fun a z y => nodup_d nd' a z (List.mem_append_right _ y)) (nodup_l nd') (fun a z => hr a (List.mem_append_left _ z))
    obtain ⟨fp2, ok2, sub2⟩ := Ok.puts ok1 t t1 t2 (nodup_of (nodup_l (nodup_r nd')) ok1.nd fun a z y => by
      rcases List.mem_append.mp (sub1 a y) with x | x
      · exact nodup_d nd' a x (List.mem_append_left _ z)
      · exact nodup_d (nodup_r nd') a z x) fun a z => hr a (List.mem_append_right _ z)
    refine ⟨fp2, ok2, fun a z => ?_⟩
    rcases List.mem_append.mp (sub2 a z) with x | x
    · simp [x]
    · rcases List.mem_append.mp (sub1 a x) with y | y <;> simp [y]
theorem RpO.own {vs : List V} {os : List Nat} {ds : List D} (h : RpO K ca F H vs os ds fr) : ∀ a ∈ fr, ¬ F a ∧ ∃ o, H a = some o ∧ MutK o := by
  induction h with
  | nil => intro a z; cases z
  | cons _ r _ ih =>
    intro a z
    rcases List.mem_append.mp z with z | z
    · exact r.own a z
    · exact ih a z
theorem RpO.nfz {F' : Addr → Prop} {vs : List V} {os : List Nat} {ds : List D} (h : RpO K ca F H vs os ds fr) (q : nfzL ds = true) (n : ∀ a ∈ fr, ¬ F' a) : RpO K ca F' H vs os ds fr := by
  induction h with
  | nil => exact .nil
  | cons e r _ ih =>
    have h' := Bool.and_eq_true_iff.mp q
    exact .cons e (r.nfz h'.1 fun a z => n a (List.mem_append_left _ z)) (ih h'.2 fun a z => n a (List.mem_append_right _ z))

/-! ### the call of a def -/
/-- what the body wants of an exception, as the machine's wish W -/
def XLk (G : Gc) (Ex : DXs) (W : WX) : Prop := ∀ c x σ' H' F' ρ' fp' fs us xs, Ok G F' H' σ' ρ' fp' → H' x = some (.xd (fs.zip us)) → fs.length = us.length → RpL G.K G.ca F' H' us xs [] → Ex c fs xs ρ' → W (.ref (G.ca c)) (some x) σ' H'
/-- own: the places of the owned arguments; bor: of those that are lent; dd: the defaults that fill up -/
def callD (own bor : List Nat) (n : Nat) (sp : Spd) (dd : List D) (Ex : DXs) (Q : D → Sl → Prop) (rs : List D) (ρ1 : Sl) : Prop := ∃ ds ρ2 js es, rs.length = n ∧ pre own bor 0 ρ1 rs = some (ds, ρ2, js) ∧ (bor = [] → es = ds) ∧ (bor ≠ [] → lend ρ2 ds = some es) ∧ (∀ i d, (es ++ dd)[i]? = some d → i ∉ own → isOw d = false) ∧
  sp (es ++ dd) (fun r os => (bor ≠ [] → nfz r = true ∧ nfzL os = true) ∧ Q r (puts ρ2 js os)) fun c fs xs => (bor ≠ [] → nfzL xs = true) ∧ Ex c fs xs ρ2
def wCall (own bor : List Nat) (n : Nat) (sp : Spd) (dd : List D) (Ex : DXs) (wa : WA) : WE := fun ρ Q => wa ρ fun rs ρ1 => callD own bor n sp dd Ex Q rs ρ1
/-- own is in order, within the arguments -/
def ownOk (own : List Nat) (n : Nat) : Bool := decide (own.Pairwise (· < ·)) && own.all fun i => decide (i < n)
theorem call_core {own bor : List Nat} {sp : Spd} {dvs : List V} {dd : List D} {Ex : DXs} {W : WX} {n : Nat} {vs : List V} {rs : List D} {Qd : D → Sl → Prop} {Q : VK} (lk : XLk G Ex W) (hd : ∀ F H, RpL G.K G.ca F H dvs dd []) (ho : ownOk own n = true)
    (rch : Step G.ca.tb G.F0 G.H0 G.fp0 F H fp) (en : En G F H fp σ F1 H1 ρ1 fp1 fr) (rr : RrL G F1 H1 σ vs rs fr) (q : callD own bor n sp dd Ex Qd rs ρ1) (k : ∀ v H' F' ρ' fp' r fr, En G F H fp σ F' H' ρ' fp' fr → Rr G F' H' σ v r fr → Qd r ρ' → Q v H') :
    lift G.K G.ca own sp (vs ++ dvs) H1 Q (fun cls d H => W cls d σ H) := by
  obtain ⟨ds, ρ2, js, es, hlen, ep, eb0, eb1, hpl, hsp⟩ := q
  obtain ⟨F2, fp2, fo, ws, A, rl, ow, hb⟩ := rr.pre en.ok en.nd (fun a z => (rch.trans en.st).fps a (List.mem_append_left _ z)) ep
  have ho1 := Bool.and_eq_true_iff.mp ho
  have asc : own.Pairwise (· < ·) := of_decide_eq_true ho1.1
  have lt : ∀ i ∈ own, i < n := fun i hi => of_decide_eq_true (List.all_eq_true.mp ho1.2 i hi)
  have lenv : vs.length = n := by
    have : ∀ {vs : List V} {rs : List D} {fr : List Addr}, RrL G F1 H1 σ vs rs fr → vs.length = rs.length := by
      intro vs rs fr h
      induction h with
      | nil => rfl
      | cons _ _ ih => simp [ih]
    rw [this rr]; exact hlen
  -- the values at the places own
  have pw : Paired (fun i w => vs[i]? = some w) own ws := by
    have := ow.at_ (os := own) [] rfl (fun i => ⟨fun z => ⟨z, Nat.zero_le _⟩, fun z => z.1⟩) asc fun i hi => by rw [lenv, Nat.zero_add]; exact lt i hi
    simpa using this
  have pw2 : Paired (fun i w => (vs ++ dvs)[i]? = some w) own ws := by
    refine L2.Paired.mapP pw fun i w e => ?_
    rw [List.getElem?_append_left (List.getElem?_eq_some_iff.mp e).1]; exact e
  have pj := ow.get
  -- ahead of the call
  have dj : ∀ a ∈ fo, a ∉ fp2 := fun a z => (A.subo a z).2
  have sA : Step G.ca.tb F H fp F2 H1 (fo ++ fp2) := by
    refine ⟨fun a z => A.mono a (en.st.mono a z), fun a z => ?_, en.st.kept, en.st.there, fun a z => ?_, en.st.tab⟩
    · rcases A.new a z with w | w | w
      · exact en.st.new a w
      · exact .inr (en.st.fps a (List.mem_append_left _ w))
      · exact .inr (en.st.fps a (List.mem_append_right _ w.1))
    · rcases List.mem_append.mp z with w | w
      · exact (A.subo a w).1.elim (fun y => en.st.fps a (List.mem_append_right _ y)) fun y => en.st.fps a (List.mem_append_left _ y)
      · exact en.st.fps a (List.mem_append_right _ (A.sub a w))
  have hro : ∀ a ∈ fo, a ∈ G.fp0 ∨ G.H0 a = none := fun a z => (rch.trans sA).fps a (List.mem_append_left _ z)
  have nFo : ∀ a ∈ fo, ¬ F2 a := fun a z => (rl.own a z).1
  -- what is shared for the call
  obtain ⟨B, hB, hB0, rle⟩ : ∃ B : Addr → Prop, (∀ a, B a → a ∈ fp2) ∧ (bor = [] → ∀ a, ¬ B a) ∧ RpL G.K G.ca (fun a => F2 a ∨ B a) H1 vs es fo := by
    by_cases hbor : bor = []
    · refine ⟨fun _ => False, fun _ z => z.elim, fun _ _ z => z, ?_⟩
      have e := eb0 hbor
      subst e
      exact (hb hbor).keep (fun _ _ e _ => e) (fun _ _ _ e _ => e) (fun _ _ _ e _ => e) (fun a z => .inl z) (fun _ _ _ e _ => e) fun a z w => w.elim (nFo a z) id
    · exact ⟨fun a => a ∈ fp2, fun _ z => z, fun z => absurd z hbor, rl.lend A.ok dj (eb1 hbor)⟩
  have dmB : ∀ a, (F2 a ∨ B a) → ∃ o, H1 a = some o := fun a z => z.elim (A.ok.dom a) fun z => let ⟨_, o, e, _⟩ := A.ok.rs.own a (hB a z); ⟨o, e⟩
  have nd2 : (fo ++ []).Nodup := by simpa using A.ndo
  have rla : RpL G.K G.ca (fun a => F2 a ∨ B a) H1 (vs ++ dvs) (es ++ dd) fo := by
    have : ∀ {vs : List V} {ds : List D} {fr : List Addr}, RpL G.K G.ca (fun a => F2 a ∨ B a) H1 vs ds fr → RpL G.K G.ca (fun a => F2 a ∨ B a) H1 (vs ++ dvs) (ds ++ dd) fr := by
      intro vs
      induction vs with
      | nil => intro ds fr h; cases h; exact hd _ _
      | cons v vs ih => intro ds fr h; cases h with
        | cons r t => exact .cons r (ih t)
    exact this rle
  -- through the call, the slots' own ones stand
  have thru : ∀ {F' H' fr'}, Step G.ca.tb (fun a => F2 a ∨ B a) H1 fo F' H' fr' → (∀ a, F' a → ∃ o, H' a = some o) → Step G.ca.tb F2 H1 (fo ++ fp2) (fun a => F' a ∧ ¬ B a) H' (fr' ++ fp2) ∧ Ok G (fun a => F' a ∧ ¬ B a) H' σ ρ2 fp2 ∧ (∀ a ∈ fr', a ∉ fp2) := fun {F' H' fr'} s dm => by
    have keepF : ∀ a, F2 a → F' a ∧ ¬ B a := fun a z => ⟨s.mono a (.inl z), fun b => (A.ok.nf a (hB a b)) z⟩
    have newF : ∀ a, F' a ∧ ¬ B a → F2 a ∨ a ∈ fo ∨ H1 a = none := fun a ⟨z, nb⟩ => by
      rcases s.new a z with (w | w) | w | w
      · exact .inl w
      · exact absurd w nb
      · exact .inr (.inl w)
      · exact .inr (.inr w)
    have st2 : Step G.ca.tb F2 H1 (fo ++ fp2) (fun a => F' a ∧ ¬ B a) H' (fr' ++ fp2) := ⟨keepF, fun a z => (newF a z).imp id (Or.imp (List.mem_append_left _) id), fun a o e m c => s.kept a o e m (c.imp (fun n z => n (List.mem_append_left _ z)) id), s.there, fun a z => by
      rcases List.mem_append.mp z with w | w
      · exact (s.fps a w).imp (List.mem_append_left _) id
      · exact .inl (List.mem_append_right _ w), s.tab⟩
    have djr : ∀ a ∈ fr', a ∉ fp2 := fun a z y => by
      rcases s.fps a z with w | w
      · exact dj a w y
      · obtain ⟨_, o, e, _⟩ := A.ok.rs.own a y
        rw [e] at w; cases w
    refine ⟨st2, ⟨A.ok.rs.keep (fun a o e n => s.keep a o e (.inr n)) (fun a o f e _ => s.keep a o e (.inl fun z => nFo a z f)) (fun a u f e d => rd_keep (fun o e _ => s.keep a o e (.inl fun z => nFo a z f)) e d) keepF (fun a z o e _ => s.keep a o e (.inl fun w => dj a w z)) (fun a z f => ?_), A.ok.nd, fun a z => dm a z.1, A.ok.pm, ?_⟩, djr⟩
    · rcases newF a f with w | w | w
      · exact A.ok.nf a z w
      · exact dj a w z
      · obtain ⟨_, o, e, _⟩ := A.ok.rs.own a z
        rw [e] at w; cases w
    · exact (rch.trans sA).trans (st2.less fun a z => List.mem_append_right _ z)
  refine ⟨fun a => F2 a ∨ B a, es ++ dd, fo, _, _, rla, A.ndo, dmB, A.ok.rch.tab G.tb0, hpl, hsp, fun v H' F' r fr' os fo' s nd' dm rp ro q => ?_, fun c x H' F' fs us xs s dm ex hl rx q => ?_⟩
  · obtain ⟨st3, ok3, djr⟩ := thru s dm
    have nFr : ∀ a ∈ fr', ¬ (F' a ∧ ¬ B a) := fun a z w => (rp.own a z).1 w.1
    have nFo' : ∀ a ∈ fo', ¬ (F' a ∧ ¬ B a) := fun a z w => (ro.own a z).1 w.1
    have rp3 : Rp G.K G.ca (fun a => F' a ∧ ¬ B a) H' v r fr' := by
      by_cases hbor : bor = []
      · exact rp.keep (fun _ _ e _ => e) (fun _ _ _ e _ => e) (fun _ _ _ e _ => e) (fun a z => ⟨z, hB0 hbor a⟩) (fun _ _ _ e _ => e) nFr
      · exact rp.nfz (q.1 hbor).1 nFr
    have ro3 : RpO G.K G.ca (fun a => F' a ∧ ¬ B a) H' (vs ++ dvs) own os fo' := by
      by_cases hbor : bor = []
      · clear nFr rp3 pw pw2 hpl hsp
        have key : ∀ {is : List Nat} {ds : List D} {fr : List Addr}, RpO G.K G.ca F' H' (vs ++ dvs) is ds fr → RpO G.K G.ca (fun a => F' a ∧ ¬ B a) H' (vs ++ dvs) is ds fr := by
          intro is ds fr h
          induction h with
          | nil => exact .nil
          | cons e r _ ih => exact .cons e (r.keep (fun _ _ e _ => e) (fun _ _ _ e _ => e) (fun _ _ _ e _ => e) (fun a z => ⟨z, hB0 hbor a⟩) (fun _ _ _ e _ => e) fun a z w => (r.own a z).1 w.1) ih
        exact key ro
      · exact ro.nfz (q.1 hbor).2 nFo'
    have djo : ∀ a ∈ fo', a ∉ fp2 := fun a z => djr a (List.mem_append_right _ z)
    have hro' : ∀ a ∈ fo', a ∈ G.fp0 ∨ G.H0 a = none := fun a z => ((rch.trans sA).trans st3).fps a (by simp [z])
    obtain ⟨fp4, ok4, sub4⟩ := ok3.puts ro3 pw2 pj (nodup_of (nodup_r nd') ok3.nd djo) hro'
    refine k v H' (fun a => F' a ∧ ¬ B a) (puts ρ2 js os) fp4 r fr' ⟨(sA.trans st3).less fun a z => ?_, ok4, nodup_of (nodup_l nd') ok4.nd fun a z y => ?_⟩ (.inl rp3) q.2
    · rcases List.mem_append.mp z with w | w
      · simp [w]
      · rcases List.mem_append.mp (sub4 a w) with y | y <;> simp [y]
    · rcases List.mem_append.mp (sub4 a y) with w | w
      · exact nodup_d nd' a z w
      · exact djr a (List.mem_append_left _ z) w
  · obtain ⟨st3, ok3, _⟩ := thru s dm
    have rx3 : RpL G.K G.ca (fun a => F' a ∧ ¬ B a) H' us xs [] := by
      by_cases hbor : bor = []
      · exact rx.keep (fun _ _ e _ => e) (fun _ _ _ e _ => e) (fun _ _ _ e _ => e) (fun a z => ⟨z, hB0 hbor a⟩) (fun _ _ _ e _ => e) fun _ z => nomatch z
      · exact rx.nfz (q.1 hbor) fun _ z => nomatch z
    exact lk c x σ H' _ ρ2 fp2 fs us xs ok3 ex hl rx3 q.2

theorem ls_call {own bor : List Nat} {sp : Spd} {dvs : List V} {dd : List D} {Ex : DXs} {W : WX} {wa : WA} {n : Nat} (lk : XLk G Ex W) (hd : ∀ F H, RpL G.K G.ca F H dvs dd []) (ho : ownOk own n = true) :
    ∀ σ H Q, LE G (wCall own bor n sp dd Ex wa) σ H Q → tCallSD (lift G.K G.ca own sp) dvs (fun σ cls d H => W cls d σ H) (LA G wa) σ H Q := fun σ H Q q => by
  obtain ⟨F, ρ, fp, Qd, ok, h, k⟩ := q
  exact ⟨F, ρ, fp, _, ok, h, fun vs H1 F1 ρ1 fp1 rs fr en rr q => call_core lk hd ho ok.rch en rr q k⟩

variable {P : Program} {w : World} {mg : Str → Option Value} {base : Heap} {k : Nat} {f : Addr} {fd : FuncData} {ps : List Str} {sp : Spd} {own bor : List Nat} {dvs : List V} {dd : List D} {dsv : List Value} {Ex : DXs} {W : WX} {x : Str} {wa : WA} {n : Nat}
/-- x(e, ..) -/
theorem d_call {p : Pos} (FO : FnG X.prog X.w X.K X.mg X.base (L2.CX X.prog X.w) k f fd ps (lift G.K G.ca own sp)) (hr : RoomG k X.A) (hm : X.mg x = some (.ref f)) (hk : PySem.W.keepIn X.K (.ref f) = true) (hb : Binds X.K fd ps dsv) (hdv : Vals dvs dsv) (tk : Takes X W) (lk : XLk G Ex W) (hd : ∀ F H, RpL G.K G.ca F H dvs dd [])
    (ha : PA X (e :: es) (LA G wa)) (ho : ownOk own n = true := by decide) (hg : Gl X x := by rfl) (hdb : (x == ("__debug__" : Str)) = false := by decide) (he : starEach (e :: es) X.env = (false, eval e X.env) :: starEach es X.env := by rfl) (hpl : (backTo pos (starEach es X.env)).any (·.1) = false := by rfl) :
    PE X (.Call (.Name x p) (e :: es) [] pos) (LE G (wCall own bor n sp dd Ex wa)) :=
  imE (pe_callG FO hr hg hm hk hb hdv (fun σ => passAt tk σ) ha hdb he hpl) (ls_call lk hd ho)
theorem xlk0 {W : WX} : XLk G exF W := fun _ _ _ _ _ _ _ _ _ _ _ _ _ _ z => z.elim

/-! ### a def's body -/
/-- what the owned parameters hold at the end -/
def outs (ρ : Sl) : List Nat → Option (List D)
  | [] => some []
  | i :: is => match ρ[i]?, outs ρ is with
    | some (some d), some ds => some (d :: ds)
    | _, _ => none
/-- the result: what a slot holds is handed out -/
def ret (ρ : Sl) : D → Option (D × Sl)
  | .sl i => match ρ[i]? with
    | some (some d) => some (d, ρ.set i none)
    | _ => none
  | d => some (d, ρ)
/-- the ends of a body that is to keep the promise -/
def endD (own : List Nat) (Qd : D → List D → Prop) : EndD where
  nx := fun ρ => ∃ os, outs ρ own = some os ∧ Qd .non os
  rt := fun r ρ => ∃ d ρ' os, ret ρ r = some (d, ρ') ∧ outs ρ' own = some os ∧ Qd d os
def startD (N : List Str) (ds : List D) : Sl := ds.map some ++ List.replicate (N.length - ds.length) none
theorem RpL.start {N : List Str} {vs : List V} {ds : List D} (h : RpL K ca F H vs ds fr) : ∀ m, RpS K ca F H (vs.map some ++ List.replicate m none) (ds.map some ++ List.replicate m none) fr := by
  intro m
  induction vs generalizing ds fr with
  | nil =>
    cases h
    induction m with
    | zero => exact .nil
    | succ m ih => exact .no ih
  | cons v vs ih => cases h with
    | cons r t => exact .has r (ih t)
theorem Ok.outs {vs : List V} : ∀ {own : List Nat} {os : List D} {ρ : Sl} {fp : List Addr}, Ok G F H σ ρ fp → own.Pairwise (· < ·) → M.outs ρ own = some os → (∀ i ∈ own, ∃ v, vs[i]? = some v ∧ σ[i]? = some (some v)) → ∃ fo, RpO G.K G.ca F H vs own os fo ∧ fo.Nodup ∧ ∀ a ∈ fo, a ∈ fp
  | [], os, ρ, fp, ok, _, e, _ => by cases e; exact ⟨[], .nil, List.nodup_nil, fun _ z => nomatch z⟩
  | i :: own, os, ρ, fp, ok, pw, e, hv => by
    unfold M.outs at e
    split at e
    · rename_i d ds q1 q2
      cases e
      obtain ⟨v, ev, es⟩ := hv i List.mem_cons_self
      obtain ⟨fs, fp1, rp, ok1, sub1, own1, ndf⟩ := Rr.take ok (j := i) (v := v) (fr := []) (.inr ⟨i, rfl, es, rfl⟩) q1
      have q3 : M.outs (ρ.set i none) own = some ds := by
        have : ∀ is : List Nat, (∀ j ∈ is, i < j) → M.outs (ρ.set i none) is = M.outs ρ is := by
          intro is
          induction is with
          | nil => intro _; rfl
          | cons j is ih =>
            intro hj
            show (match (ρ.set i none)[j]?, M.outs (ρ.set i none) is with
              | some (some d), some ds => some (d :: ds)
              | _, _ => none) = _
            rw [List.getElem?_set_ne (fun z => Nat.lt_irrefl _ (z ▸ hj j List.mem_cons_self)), ih fun k hk => hj k (List.mem_cons_of_mem _ hk)]
            rfl
        rw [this own (List.pairwise_cons.mp pw).1]
        exact q2
      obtain ⟨fo, ro, ndo, subo⟩ := Ok.outs ok1 (List.pairwise_cons.mp pw).2 q3 fun j hj => hv j (List.mem_cons_of_mem _ hj)
      exact ⟨fs ++ fo, .cons ev rp ro, nodup_of ndf ndo fun a z y => (own1 a z).2 (subo a y), fun a z => by
        rcases List.mem_append.mp z with z | z
        · exact (own1 a z).1
        · exact sub1 a (subo a z)⟩
    · cases e
theorem ret_ok (ok : Ok G F H σ ρ fp) (rr : Rr G F H σ v r fr) (nd : (fr ++ fp).Nodup) {d : D} {ρ' : Sl} (e : ret ρ r = some (d, ρ')) : ∃ fs fp', Rp G.K G.ca F H v d fs ∧ Ok G F H σ ρ' fp' ∧ (fs ++ fp').Nodup ∧ (∀ a ∈ fs, a ∈ fr ++ fp) ∧ ∀ a ∈ fp', a ∈ fp := by
  rcases rr with rp | ⟨i, rfl, hσ, rfl⟩
  · have e' : (r, ρ) = (d, ρ') := by
      have : ret ρ r = some (r, ρ) := by cases rp <;> rfl
      rw [this] at e
      exact Option.some.inj e
    cases e'
    exact ⟨fr, fp, rp, ok, nd, fun a z => List.mem_append_left _ z, fun _ z => z⟩
  · have e : (match ρ[i]? with
      | some (some d) => some (d, ρ.set i none)
      | _ => none) = some (d, ρ') := e
    cases q : ρ[i]? with
    | none => rw [q] at e; cases e
    | some x => cases x with
      | none => rw [q] at e; cases e
      | some c =>
        rw [q] at e
        cases e
        obtain ⟨fs, fp1, rp, ok1, sub1, own1, ndf⟩ := Rr.take ok (j := i) (v := v) (fr := []) (.inr ⟨i, rfl, hσ, rfl⟩) q
        exact ⟨fs, fp1, rp, ok1, nodup_of ndf ok1.nd fun a z => (own1 a z).2, fun a z => by simpa using (own1 a z).1, sub1⟩
/-- THE RULE: the body over data keeps the promise over data -/
theorem fn_lift {qual : Str} {params : Arguments} {body : List Stmt} {scope : Scope} {dvs0 : List V} {kws : List (Str × V)} {N : List Str} (FD : FunD K x qual params body scope dvs0 kws f fd) (S : FnScope N ps scope) (ho : ownOk own ps.length = true)
    (hlen : ∀ ds Qd Ed, sp ds Qd Ed → ds.length = ps.length) (wf : DXs → WS)
    (hbody : ∀ (cdv : Value) (A : Around) (outer : List Env) (s : Shared) (H : Hp) (E : XK), RoomG k (A.deeper (envOfC qual scope s.heap.objs.size f cdv)) → ∀ (G : Gc) (Ex : DXs), G.K = K → G.ca = ca → G.pm.map (·.1) = own → XLk G Ex (fun cls d _ H => E cls d H) →
      PSs (cxOf (L2.CX P w) P w K mg base N qual scope f cdv A outer s H E) body (LS G (wf Ex)))
    (hw : ∀ ds Qd Ed, sp ds Qd Ed → wf (fun c fs xs _ => Ed c fs xs) (endD own Qd) (startD N ds)) : FnG P w K mg base (L2.CX P w) (k + 1) f fd ps (lift K ca own sp) := by
  refine fnG_of FD S (fun vs H Q E h => ?_) (fun cdv A outer s H vs Q E hr h => ?_)
  · obtain ⟨F, ds, fp, Qd, Ed, rl, _, _, _, _, hs, _⟩ := h
    rw [rl.length]
    exact hlen ds Qd Ed hs
  · obtain ⟨F, ds, fp, Qd, Ed, rl, nd, dm, tb, hpl, hs, hQ, hE⟩ := h
    have hl := hlen ds Qd Ed hs
    have ho1 := Bool.and_eq_true_iff.mp ho
    have asc : own.Pairwise (· < ·) := of_decide_eq_true ho1.1
    have lt : ∀ i ∈ own, i < vs.length := fun i hi => by rw [rl.length, hl]; exact of_decide_eq_true (List.all_eq_true.mp ho1.2 i hi)
    -- the owned parameters' values
    obtain ⟨pm, ep, hpm⟩ : ∃ pm : List (Nat × V), pm.map (·.1) = own ∧ ∀ p ∈ pm, vs[p.1]? = some p.2 := by
      refine ⟨own.filterMap fun i => (vs[i]?).map fun v => (i, v), ?_, fun p hp => ?_⟩
      · have : ∀ is : List Nat, (∀ i ∈ is, i < vs.length) → (is.filterMap fun i => (vs[i]?).map fun v => (i, v)).map (·.1) = is := by
          intro is
          induction is with
          | nil => intro _; rfl
          | cons i is ih =>
            intro h
            have hi := h i List.mem_cons_self
            rw [List.filterMap_cons, List.getElem?_eq_getElem hi]
            simp only [Option.map_some, List.map_cons]
            rw [ih fun j hj => h j (List.mem_cons_of_mem _ hj)]
        exact this own lt
      · obtain ⟨i, _, e⟩ := List.mem_filterMap.mp hp
        cases q : vs[i]? with
        | none => rw [q] at e; cases e
        | some v => rw [q] at e; cases e; exact q
    have hst : ∀ {i : Nat} {v : V}, vs[i]? = some v → (L2.start N vs)[i]? = some (some v) := fun {i v} e => by
      unfold L2.start
      rw [List.getElem?_append_left (by simpa using (List.getElem?_eq_some_iff.mp e).1), List.getElem?_map, e]; rfl
    let G : Gc := ⟨K, ca, pm, F, H, fp, tb⟩
    have ok : Ok G F H (L2.start N vs) (startD N ds) fp := by
      refine ⟨?_, nd, dm, fun p hp => hst (hpm p hp), .refl⟩
      unfold L2.start startD
      rw [rl.length]
      exact rl.start (N := N) _
    refine ⟨_, hbody cdv A outer s H E hr G (fun c fs xs _ => Ed c fs xs) rfl rfl ep fun c x σ' H' F' ρ' fp' fs us xs ok' ex l rx q => hE c x H' F' fs us xs (ok'.rch.less fun _ z => nomatch z) ok'.dom ex l rx q, F, startD N ds, fp, endD own Qd, ok, hw ds Qd Ed hs, ⟨?_, ?_, fun _ _ _ _ _ _ _ z => z.elim, fun _ _ _ _ _ _ _ z => z.elim⟩⟩
    · rintro σ' H' F' ρ' fp' st ok' ⟨os, eo, q⟩
      obtain ⟨fo, ro, ndo, subo⟩ := ok'.outs (vs := vs) asc eo fun i hi => by
        rw [← ep] at hi
        obtain ⟨p, hp, e⟩ := List.mem_map.mp hi
        subst e
        exact ⟨p.2, hpm p hp, ok'.pm p hp⟩
      exact hQ .non H' F' .non [] os fo (st.less subo) (by simpa using ndo) ok'.dom .non ro q
    · rintro v σ' H' F' ρ' fp' r fr st ok' nd' rr ⟨d, ρ2, os, er, eo, q⟩
      obtain ⟨fs, fp2, rp, ok2, nd2, sub1, sub2⟩ := ret_ok ok' rr nd' er
      obtain ⟨fo, ro, ndo, subo⟩ := ok2.outs (vs := vs) asc eo fun i hi => by
        rw [← ep] at hi
        obtain ⟨p, hp, e⟩ := List.mem_map.mp hi
        subst e
        exact ⟨p.2, hpm p hp, ok2.pm p hp⟩
      refine hQ v H' F' d fs os fo (st.less fun a z => ?_) (nodup_of (nodup_l nd2) ndo fun a z y => nodup_d nd2 a z (subo a y)) ok2.dom rp ro q
      rcases List.mem_append.mp z with z | z
      · exact sub1 a z
      · exact List.mem_append_right _ (sub2 a (subo a z))
end
end M
/-! M11: several stores at once, tuples of owned things, the script. -/
namespace M
open PySem PySem.Spec PyProof.Rows L2

section
variable {G : Gc} {X : Cx} {F F' F1 F2 : Addr → Prop} {H H' H1 H2 : Hp} {σ σ' : L2.St} {ρ ρ' ρ1 ρ2 : Sl} {fp fp' fp1 fp2 fr fr1 fr2 fr' : List Addr} {v v1 v2 : V} {r r1 r2 d : D} {p : Addr} {o : HO}
  {a b c e : Expr} {es : List Expr} {wa wb wc we : WE} {ta tb tc : WT} {rest : List Expr} {pos : Pos} {K : PySem.W.Frag} {ca : Cax}

/-- results, each kept owned (true) or shared (false); what a slot holds is shared -/
def parR : List Bool → Sl → List D → Option (List D × Sl)
  | _, ρ, [] => some ([], ρ)
  | b, ρ, r :: rs => match (if b.head? = some true then owR ρ r else fzR ρ r) with
    | some (d, ρ1) => match parR b.tail ρ1 rs with
      | some (ds, ρ2) => some (d :: ds, ρ2)
      | none => none
    | none => none
structure ParS (G : Gc) (F : Addr → Prop) (H : Hp) (σ : L2.St) (ρ : Sl) (fp fr : List Addr) (F' : Addr → Prop) (ρ' : Sl) (fp' fr' : List Addr) : Prop where
  mono : ∀ a, F a → F' a
  new : ∀ a, F' a → F a ∨ a ∈ fr ∨ (a ∈ fp ∧ a ∉ fp')
  ok : Ok G F' H σ ρ' fp'
  sub : ∀ a ∈ fp', a ∈ fp
  subr : ∀ a ∈ fr', a ∈ fr
  ndr : fr'.Nodup
theorem ParS.nd (h : ParS G F H σ ρ fp fr F' ρ' fp' fr') (nd : (fr ++ fp).Nodup) : (fr' ++ fp').Nodup := nodup_of h.ndr h.ok.nd fun a z y => nodup_d nd a (h.subr a z) (h.sub a y)
theorem ParS.step (h : ParS G F H σ ρ fp fr F' ρ' fp' fr') : Step G.ca.tb F H (fr ++ fp) F' H (fr' ++ fp') where
  mono := h.mono
  new := fun a z => (h.new a z).imp id fun z => .inl (z.elim (fun w => List.mem_append_left _ w) fun w => List.mem_append_right _ w.1)
  kept := fun _ _ e _ _ => e
  tab := fun h => h
  there := fun _ o e => ⟨o, e⟩
  fps := fun a z => .inl ((List.mem_append.mp z).elim (fun w => List.mem_append_left _ (h.subr a w)) fun w => List.mem_append_right _ (h.sub a w))
/-- one result -/
theorem Rr.par1 {q : Bool} (ok : Ok G F H σ ρ fp) (h : Rr G F H σ v r fr) (nd : (fr ++ fp).Nodup) (hr : ∀ a ∈ fr, a ∈ G.fp0 ∨ G.H0 a = none) (e : (if q = true then owR ρ r else fzR ρ r) = some (d, ρ')) : ∃ F' fp' fr', ParS G F H σ ρ fp fr F' ρ' fp' fr' ∧ Rp G.K G.ca F' H v d fr' := by
  have share : ∀ {r : D} {fr : List Addr}, Rr G F H σ v r fr → (fr ++ fp).Nodup → (∀ a ∈ fr, a ∈ G.fp0 ∨ G.H0 a = none) → fzR ρ r = some (d, ρ') → ∃ F' fp' fr', ParS G F H σ ρ fp fr F' ρ' fp' fr' ∧ Rp G.K G.ca F' H v d fr' := fun {r fr} h nd hr e => by
    obtain ⟨F1, fp1, s, rp⟩ := h.share ok nd hr e
    exact ⟨F1, fp1, [], ⟨s.mono, s.new, s.ok, s.sub, (fun a z => nomatch z), List.nodup_nil⟩, rp⟩
  cases q with
  | false => exact share h nd hr e
  | true =>
    have e : owR ρ r = some (d, ρ') := e
    rcases h with rp | ⟨j, rfl, ev, rfl⟩
    · have e' : (r, ρ) = (d, ρ') := by
        have : owR ρ r = some (r, ρ) := by cases rp <;> rfl
        rw [this] at e
        exact Option.some.inj e
      cases e'
      exact ⟨F, fp, fr, ⟨fun _ z => z, fun _ z => .inl z, ok, fun _ z => z, fun _ z => z, nodup_l nd⟩, rp⟩
    · exact share (.inr ⟨j, rfl, ev, rfl⟩) nd hr (show fzR ρ (.sl j) = _ from e)
theorem RrL.par : ∀ {rs : List D} {bs : List Bool} {vs : List V} {F : Addr → Prop} {ρ : Sl} {fp fr : List Addr} {ds : List D} {ρ' : Sl}, Ok G F H σ ρ fp → RrL G F H σ vs rs fr → (fr ++ fp).Nodup → (∀ a ∈ fr, a ∈ G.fp0 ∨ G.H0 a = none) → parR bs ρ rs = some (ds, ρ') →
    ∃ F' fp' fr', ParS G F H σ ρ fp fr F' ρ' fp' fr' ∧ RpL G.K G.ca F' H vs ds fr'
  | [], bs, _, F, ρ, fp, _, ds, ρ', ok, .nil, nd, hr, e => by
    cases e
    exact ⟨F, fp, [], ⟨fun _ z => z, fun _ z => .inl z, ok, fun _ z => z, fun _ z => z, List.nodup_nil⟩, .nil⟩
  | r :: rs, bs, _, F, ρ, fp, _, ds, ρ', ok, @RrL.cons _ _ _ _ v vs _ _ f1 f2 h1 h2, nd, hr, e => by
    unfold parR at e
    split at e
    · rename_i d1 ρ1 q1
      split at e
      · rename_i ds2 ρ2 q2
        cases e
        have ndx : (f2 ++ fp).Nodup := by rw [List.append_assoc] at nd; exact nodup_r nd
        have nd1 : (f1 ++ fp).Nodup := by
          rw [List.append_assoc] at nd
          exact nodup_of (nodup_l nd) (nodup_r (nodup_r nd)) fun a z y => nodup_d nd a z (List.mem_append_right _ y)
        have d12 : ∀ a ∈ f1, a ∉ f2 := nodup_d (nodup_l nd)
        obtain ⟨F1, fp1, g1, s1, p1⟩ := h1.par1 (q := decide (bs.head? = some true)) ok nd1 (fun a z => hr a (List.mem_append_left _ z)) (by simpa using q1)
        have h2' : RrL G F1 H σ vs rs f2 := by
          refine h2.step (fp := f1 ++ fp) (fp' := g1 ++ fp1) s1.step (fun a z => ?_) fun a z y => ?_
          · rcases List.mem_append.mp z with z | z
            · exact (h1.own a z).1
            · exact ok.nf a z
          · rcases List.mem_append.mp y with y | y
            · exact d12 a y z
            · exact nodup_d ndx a z y
        have nd2 : (f2 ++ fp1).Nodup := nodup_of (nodup_l ndx) s1.ok.nd fun a z y => nodup_d ndx a z (s1.sub a y)
        obtain ⟨F2, fp2, g2, s2, p2⟩ := RrL.par s1.ok h2' nd2 (fun a z => hr a (List.mem_append_right _ z)) q2
        have nF2 : ∀ a ∈ g1, ¬ F2 a := fun a z f => by
          rcases s2.new a f with w | w | w
          · exact (p1.own a z).1 w
          · exact d12 a (s1.subr a z) w
          · exact nodup_d nd1 a (s1.subr a z) (s1.sub a w.1)
        have p1' : Rp G.K G.ca F2 H v d1 g1 := p1.keep (fun _ _ e _ => e) (fun _ _ _ e _ => e) (fun _ _ _ e _ => e) s2.mono (fun _ _ _ e _ => e) nF2
        refine ⟨F2, fp2, g1 ++ g2, ⟨fun a z => s2.mono a (s1.mono a z), fun a z => ?_, s2.ok, fun a z => s1.sub a (s2.sub a z), fun a z => ?_, nodup_of s1.ndr s2.ndr fun a z y => d12 a (s1.subr a z) (s2.subr a y)⟩, .cons p1' p2⟩
        · rcases s2.new a z with w | w | w
          · rcases s1.new a w with w | w | w
            · exact .inl w
            · exact .inr (.inl (List.mem_append_left _ w))
            · exact .inr (.inr ⟨w.1, fun x => w.2 (s2.sub a x)⟩)
          · exact .inr (.inl (List.mem_append_right _ w))
          · exact .inr (.inr ⟨s1.sub a w.1, w.2⟩)
        · rcases List.mem_append.mp z with z | z
          · exact List.mem_append_left _ (s1.subr a z)
          · exact List.mem_append_right _ (s2.subr a z)
      · cases e
    · cases e

/-- a tuple display whose items may be owned -/
def wTpo (wa : WA) : WE := fun ρ Q => wa ρ fun rs ρ1 => ∃ ds ρ2, parR (rs.map fun _ => true) ρ1 rs = some (ds, ρ2) ∧ ds.length ≤ sizeLine ∧ Q (.tpo ds) ρ2
theorem d_tpo {x1} {wa : WA} (h : PA X es (LA G wa)) : PE X (.Tuple es x1 pos) (LE G (wTpo wa)) := imE (pe_tupF h) fun σ H Q q => by
  obtain ⟨F, ρ, fp, Qd, ok, h, k⟩ := q
  refine ⟨F, ρ, fp, _, ok, h, fun vs H1 F1 ρ1 fp1 rs fr en rr q => ?_⟩
  obtain ⟨ds, ρ2, e, z, q⟩ := q
  obtain ⟨F2, fp2, fr2, s, rp⟩ := rr.par en.ok en.nd (en.hr ok) e
  refine ⟨by rw [rp.length]; exact z, fun a o ha h1 h2 => ?_⟩
  have en2 : En G F H fp σ F2 H1 ρ2 fp2 fr2 := ⟨en.st.trans s.step, s.ok, s.nd en.nd⟩
  have en3 := en2.trans (En.tup (o := .frz o (.tup vs)) en2.ok ha) fun x z => (rp.own x z).2.imp fun _ h => h.1
  rw [List.append_nil] at en3
  exact k _ _ F2 ρ2 fp2 (.tpo ds) fr2 en3 (.inl (.tpo (.of upd_same h1 h2) (rp.new ha))) q

/-! ### a, b = x, y -/
def wPar (bs : List Bool) (st : List D → Sl → Sl) (n : Nat) (wa : WA) : WS := fun Dd ρ => wa ρ fun rs ρ1 => ∃ ds ρ2, rs.length = n ∧ parR bs ρ1 rs = some (ds, ρ2) ∧ Dd.nx (st ds ρ2)
def st2 (i j : Nat) : List D → Sl → Sl
  | [d, e], ρ => (ρ.set i (some d)).set j (some e)
  | _, ρ => ρ
def st3 (i j l : Nat) : List D → Sl → Sl
  | [d, e, f], ρ => ((ρ.set i (some d)).set j (some e)).set l (some f)
  | _, ρ => ρ
theorem RrL.len {vs : List V} {rs : List D} (h : RrL G F H σ vs rs fr) : vs.length = rs.length := by
  induction h with
  | nil => rfl
  | cons _ _ ih => simp [ih]
theorem Ok.setW {i : Nat} (ok : Ok G F H σ ρ fp) (hi : i < ρ.length) (hpm : ∀ p ∈ G.pm, p.1 ≠ i) (rp : Rp G.K G.ca F H v d fr) (nd : (fr ++ fr' ++ fp).Nodup) (hr : ∀ a ∈ fr ++ fr', a ∈ G.fp0 ∨ G.H0 a = none) : ∃ fp', Ok G F H (σ.set i (some v)) (ρ.set i (some d)) fp' ∧ (∀ a ∈ fp', a ∈ fr ++ fp) ∧ (fr' ++ fp').Nodup := by
  have nd' := nd
  rw [List.append_assoc] at nd
  obtain ⟨fp', ok', sub⟩ := ok.setV hi hpm rp (fun a z y => nodup_d nd a z (List.mem_append_right _ y)) (nodup_l nd) (fun a z => hr a (List.mem_append_left _ z))
  refine ⟨fp', ok', sub, nodup_of (nodup_l (nodup_r nd)) ok'.nd fun a z y => ?_⟩
  rcases List.mem_append.mp (sub a y) with w | w
  · exact nodup_d nd a w (List.mem_append_left _ z)
  · exact nodup_d (nodup_r nd) a z w
theorem ls_par {bs : List Bool} {i j : Nat} {wa : WA} (hpi : ∀ p ∈ G.pm, p.1 ≠ i) (hpj : ∀ p ∈ G.pm, p.1 ≠ j) : ∀ D σ H, i < σ.length ∧ j < σ.length ∧ LS G (wPar bs (st2 i j) 2 wa) D σ H → tPar i j (LA G wa) D σ H := fun D σ H ⟨hi, hj, q⟩ => by
  obtain ⟨F, ρ, fp, Dd, ok, h, k⟩ := q
  refine ⟨F, ρ, fp, _, ok, h, fun vs H1 F1 ρ1 fp1 rs fr en rr q => ?_⟩
  obtain ⟨ds, ρ2, hl, e, q⟩ := q
  obtain ⟨F2, fp2, fr2, s, rp⟩ := rr.par en.ok en.nd (en.hr ok) e
  have st := en.st.trans s.step
  have hr2 : ∀ a ∈ fr2, a ∈ G.fp0 ∨ G.H0 a = none := fun a z => (ok.rch.trans st).fps a (List.mem_append_left _ z)
  have l1 := rr.len
  have l2 := rp.length
  match vs, ds, fr2, rp with
  | [v, w], [d1, d2], _, .cons (fp := f1) r1 (.cons (fp := f2) r2 .nil) =>
    refine ⟨v, w, rfl, ?_⟩
    have nd := s.nd en.nd
    have len2 : ρ2.length = σ.length := s.ok.rs.length.symm
    have nd' : (f1 ++ f2 ++ fp2).Nodup := by simpa using nd
    obtain ⟨fp3, ok3, sub3, nd3⟩ := s.ok.setW (i := i) (fr' := f2) (by omega) hpi r1 nd' (by simpa using hr2)
    obtain ⟨fp4, ok4, sub4, _⟩ := ok3.setW (i := j) (fr' := []) (by rw [List.length_set]; omega) hpj r2 (by simpa using nd3) (fun a z => hr2 a (by simp at z; simp [z]))
    refine k.nx _ H1 F2 _ fp4 (st.less fun a z => ?_) ok4 q
    rcases List.mem_append.mp (sub4 a z) with w | w
    · simp [w]
    · rcases List.mem_append.mp (sub3 a w) with w | w <;> simp [w]
  | [], _, _, _ => simp at l1; omega
  | [_], _, _, _ => simp at l1; omega
  | _ :: _ :: _ :: _, _, _, _ => simp at l1; omega
  | [_, _], [], _, _ => simp at l2
  | [_, _], [_], _, _ => simp at l2
  | [_, _], _ :: _ :: _ :: _, _, _ => simp at l2
theorem ls_par3 {bs : List Bool} {i j l : Nat} {wa : WA} (hpi : ∀ p ∈ G.pm, p.1 ≠ i) (hpj : ∀ p ∈ G.pm, p.1 ≠ j) (hpl : ∀ p ∈ G.pm, p.1 ≠ l) : ∀ D σ H, i < σ.length ∧ j < σ.length ∧ l < σ.length ∧ LS G (wPar bs (st3 i j l) 3 wa) D σ H → tPar3 i j l (LA G wa) D σ H := fun D σ H ⟨hi, hj, hl', q⟩ => by
  obtain ⟨F, ρ, fp, Dd, ok, h, k⟩ := q
  refine ⟨F, ρ, fp, _, ok, h, fun vs H1 F1 ρ1 fp1 rs fr en rr q => ?_⟩
  obtain ⟨ds, ρ2, hl, e, q⟩ := q
  obtain ⟨F2, fp2, fr2, s, rp⟩ := rr.par en.ok en.nd (en.hr ok) e
  have st := en.st.trans s.step
  have hr2 : ∀ a ∈ fr2, a ∈ G.fp0 ∨ G.H0 a = none := fun a z => (ok.rch.trans st).fps a (List.mem_append_left _ z)
  have l1 := rr.len
  have l2 := rp.length
  match vs, ds, fr2, rp with
  | [v, w, x], [d1, d2, d3], _, .cons (fp := f1) r1 (.cons (fp := f2) r2 (.cons (fp := f3) r3 .nil)) =>
    refine ⟨v, w, x, rfl, ?_⟩
    have nd := s.nd en.nd
    have len2 : ρ2.length = σ.length := s.ok.rs.length.symm
    have nd' : (f1 ++ (f2 ++ f3) ++ fp2).Nodup := by simpa using nd
    obtain ⟨fp3, ok3, sub3, nd3⟩ := s.ok.setW (i := i) (fr' := f2 ++ f3) (by omega) hpi r1 nd' (by simpa using hr2)
    obtain ⟨fp4, ok4, sub4, nd4⟩ := ok3.setW (i := j) (fr' := f3) (by rw [List.length_set]; omega) hpj r2 (by simpa using nd3) (fun a z => hr2 a (by
      rcases List.mem_append.mp z with z | z <;> simp [z]))
    obtain ⟨fp5, ok5, sub5, _⟩ := ok4.setW (i := l) (fr' := []) (by rw [List.length_set, List.length_set]; omega) hpl r3 (by simpa using nd4) (fun a z => hr2 a (by simp at z; simp [z]))
    refine k.nx _ H1 F2 _ fp5 (st.less fun a z => ?_) ok5 q
    rcases List.mem_append.mp (sub5 a z) with w | w
    · simp [w]
    · rcases List.mem_append.mp (sub4 a w) with w | w
      · simp [w]
      · rcases List.mem_append.mp (sub3 a w) with w | w <;> simp [w]
  | [], _, _, _ => simp at l1; omega
  | [_], _, _, _ => simp at l1; omega
  | [_, _], _, _, _ => simp at l1; omega
  | _ :: _ :: _ :: _ :: _, _, _, _ => simp at l1; omega
  | [_, _, _], [], _, _ => simp at l2
  | [_, _, _], [_], _, _ => simp at l2
  | [_, _, _], [_, _], _, _ => simp at l2
  | [_, _, _], _ :: _ :: _ :: _ :: _, _, _ => simp at l2
theorem ds_par {bs : List Bool} {i j : Nat} {x y : Str} {wa : WA} {px py pt : Pos} {kt k2 pt2} (hc : X.calm = true) (hN : X.N.Nodup) (hi : X.N[i]? = some x) (hj : X.N[j]? = some y) (hij : i ≠ j)
    (hx : X.env.scope.names.lookup x = some .local) (hy : X.env.scope.names.lookup y = some .local) (hpi : ∀ p ∈ G.pm, p.1 ≠ i) (hpj : ∀ p ∈ G.pm, p.1 ≠ j) (ha : PA X [a, b] (LA G wa))
    (hw : swappedStores [.Tuple [.Name x px, .Name y py] kt pt] (.Tuple [a, b] k2 pt2) X.env = pure (some [x, y]) := by rfl)
    (hs : swapsWithSole [.Tuple [.Name x px, .Name y py] kt pt] (.Tuple [a, b] k2 pt2) pos.line X.env = pure false := by rfl) :
    PS X (.Assign [.Tuple [.Name x px, .Name y py] kt pt] (.Tuple [a, b] k2 pt2) pos) (LS G (wPar bs (st2 i j) 2 wa)) := by
  refine ⟨fun pins s σ H D I q => (ps_par hc hN hi hj hij hx hy ha hw hs).run pins s σ H D I (ls_par hpi hpj D σ H ⟨?_, ?_, q⟩)⟩
  · rw [I.len]; exact (List.getElem?_eq_some_iff.mp hi).1
  · rw [I.len]; exact (List.getElem?_eq_some_iff.mp hj).1
theorem ds_par3 {bs : List Bool} {i j l : Nat} {x y z : Str} {wa : WA} {px py pz pt : Pos} {kt k2 pt2} (hc : X.calm = true) (hN : X.N.Nodup) (hi : X.N[i]? = some x) (hj : X.N[j]? = some y) (hl : X.N[l]? = some z) (hij : i ≠ j) (hil : i ≠ l) (hjl : j ≠ l)
    (hx : X.env.scope.names.lookup x = some .local) (hy : X.env.scope.names.lookup y = some .local) (hz : X.env.scope.names.lookup z = some .local) (hpi : ∀ p ∈ G.pm, p.1 ≠ i) (hpj : ∀ p ∈ G.pm, p.1 ≠ j) (hpl : ∀ p ∈ G.pm, p.1 ≠ l) (ha : PA X [a, b, c] (LA G wa))
    (hw : swappedStores [.Tuple [.Name x px, .Name y py, .Name z pz] kt pt] (.Tuple [a, b, c] k2 pt2) X.env = pure (some [x, y, z]) := by rfl)
    (hs : swapsWithSole [.Tuple [.Name x px, .Name y py, .Name z pz] kt pt] (.Tuple [a, b, c] k2 pt2) pos.line X.env = pure false := by rfl) :
    PS X (.Assign [.Tuple [.Name x px, .Name y py, .Name z pz] kt pt] (.Tuple [a, b, c] k2 pt2) pos) (LS G (wPar bs (st3 i j l) 3 wa)) := by
  refine ⟨fun pins s σ H D I q => (ps_par3 hc hN hi hj hl hij hil hjl hx hy hz ha hw hs).run pins s σ H D I (ls_par3 hpi hpj hpl D σ H ⟨?_, ?_, ?_, q⟩)⟩
  · rw [I.len]; exact (List.getElem?_eq_some_iff.mp hi).1
  · rw [I.len]; exact (List.getElem?_eq_some_iff.mp hj).1
  · rw [I.len]; exact (List.getElem?_eq_some_iff.mp hl).1

/-! ### the script -/
theorem Rr.scr {ns : List Int} (h : Rr G F H σ v (.scr ns) fr) : ∃ a, v = .ref a ∧ fr = [] ∧ SqL G.K H a (ns.map V.int) := by
  rcases h with h | ⟨_, e, _⟩
  · cases h with
    | @scr a _ h =>
      refine ⟨a, rfl, rfl, ?_⟩
      rcases h with ⟨o, h⟩ | (h | ⟨o, h⟩) | h
      · exact .inl (.inr ⟨o, h⟩)
      · cases h
      · cases h
      · exact .inr h
  · cases e
def nLenS : ON := fun ρ rs K => ∃ ns, rs = [.scr ns] ∧ K (.int ns.length) ρ
theorem nLenS_ok : ONOk G (fun vs H Q => ∃ x n, vs = [x] ∧ LenV G.K x H n ∧ Q (.int n) H) nLenS := fun F H σ ρ fp vs rs fr Kd Q ok rr nd h k => by
  obtain ⟨ns, rfl, q⟩ := h
  obtain ⟨v, rfl, r1⟩ := rr.one
  obtain ⟨a, rfl, _, s⟩ := r1.scr
  exact ⟨_, ns.length, rfl, .inl ⟨_, s, by simp⟩, k _ H F ρ fp _ [] (En.stay ok) (.inl (.int _)) q⟩
theorem d_lenS {p : Pos} {wa : WA} (hK : X.K = G.K) (hg : Gl X "len") (hm : X.mg "len" = none) (ha : PA X (e :: es) (LA G wa)) (he : starEach (e :: es) X.env = (false, eval e X.env) :: starEach es X.env := by rfl) (hpl : (backTo pos (starEach es X.env)).any (·.1) = false := by rfl) :
    PE X (.Call (.Name "len" p) (e :: es) [] pos) (LE G (wCB nLenS wa)) := d_cb call_len (hK ▸ nLenS_ok) hg hm boot_len ha (by decide) (by decide) he hpl
def oIxS : O2 := fun ρ x y K => ∃ ns i u, x = .scr ns ∧ y = .int i ∧ atI ns i = some u ∧ K (.int u)
theorem atI_map {ns : List Int} {i u : Int} (h : atI ns i = some u) : atI (ns.map V.int) i = some (.int u) := by
  unfold atI at h ⊢
  rw [List.length_map]
  cases q : ixN ns.length i with
  | none => rw [q] at h; cases h
  | some j =>
    rw [q] at h
    show (ns.map V.int)[j]? = _
    rw [List.getElem?_map, show ns[j]? = some u from h]; rfl
theorem oIxS_ok : O2Ok G (rIx G.K) oIxS := fun F H σ ρ fp v1 v2 x y f1 f2 Kd Q ok r1 r2 nd h k => by
  obtain ⟨ns, i, u, rfl, rfl, e, q⟩ := h
  obtain ⟨rfl, _⟩ := r2.int
  obtain ⟨a, rfl, _, s⟩ := r1.scr
  exact .inl ⟨a, _, i, _, rfl, rfl, s, atI_map e, k _ H F _ [] (En.refl ok) (.int _) q⟩
theorem d_ixS (hK : X.K = G.K) (ha : PE X a (LE G wa)) (hb : PE X b (LE G wb)) (hs : PlainIx b := by exact fun _ _ => rfl) : PE X (.Subscript a b pos) (LE G (wOp oIxS wa wb)) :=
  imE (pe_ix ix_seq ha hb hs) (LE.op (hK ▸ oIxS_ok))
theorem RpL.ints (ns : List Int) : RpL K ca F H (ns.map V.int) (ns.map D.int) [] := by
  induction ns with
  | nil => exact .nil
  | cons n ns ih => exact .cons (fp := []) (fq := []) (.int n) ih
def wSlS (we : WE) (wl wh : WO) : WE := fun ρ Q => we ρ fun x ρ1 => wl ρ1 fun lo ρ2 => wh ρ2 fun hi ρ3 => ∃ ns, x = .scr ns ∧ Q (.lst true (cut (ns.map D.int) lo hi)) ρ3
theorem d_slS {lo hi : Option Expr} {wl wh : WO} {p2 : Pos} (hK : X.K = G.K) (he : PE X e (LE G we)) (hl : PO X lo (LO G wl)) (hu : PO X hi (LO G wh)) : PE X (.Subscript e (.Slice lo hi none p2) pos) (LE G (wSlS we wl wh)) :=
  imE (pe_slice sl_list he hl hu) fun σ H Q q => by
    obtain ⟨F, ρ, fp, Qd, ok, h, k⟩ := q
    refine ⟨F, ρ, fp, _, ok, h, fun v H1 F1 ρ1 fp1 x f1 en1 rr1 q => ?_⟩
    refine ⟨F1, ρ1, fp1, _, en1.ok, q, fun i H2 F2 ρ2 fp2 en2 q => ?_⟩
    refine ⟨F2, ρ2, fp2, _, en2.ok, q, fun j H3 F3 ρ3 fp3 en3 q => ?_⟩
    have en := (en1.drop en2).drop en3
    have rr := (rr1.step en2.st en1.ok.nf (nodup_d en1.nd))
    have nd2 : (f1 ++ fp2).Nodup := ((en1.trans en2 rr1.dom)).nd |> fun z => by simpa using z
    have rr3 := rr.step en3.st en2.ok.nf (nodup_d nd2)
    obtain ⟨ns, rfl, qq⟩ := q
    obtain ⟨a, rfl, _, s⟩ := rr3.scr
    exact ⟨a, _, rfl, hK ▸ s, fun p hp => k _ _ F3 ρ3 fp3 _ [p] (en.trans0 (En.own en.ok hp)) (.inl (.low upd_same (en.ok.not_none hp).1 (((RpL.ints ns).cut _ _).new hp))) qq⟩
end
end M
/-! M12: defs by name. -/
namespace M
open PySem PySem.Spec PyProof.Rows L2

/-- a def that may be called by its name -/
structure Cal (P : Program) (w : World) (K : PySem.W.Frag) (ca : Cax) (mg : Str → Option Value) (base : Heap) (k : Nat) (x : Str) (own : List Nat) (sp : Spd) : Prop where
  ex : ∃ (f : Addr) (fd : FuncData) (ps : List Str), FnG P w K mg base (L2.CX P w) k f fd ps (lift K ca own sp) ∧ mg x = some (.ref f) ∧ PySem.W.keepIn K (.ref f) = true ∧ Binds K fd ps []
/-- the built-in names are free -/
structure Bt (mg : Str → Option Value) : Prop where
  len : mg "len" = none
  range : mg "range" = none
  list : mg "list" = none
  tuple : mg "tuple" = none
  str : mg "str" = none
  int : mg "int" = none
  bool : mg "bool" = none
  repr : mg "repr" = none
  abs : mg "abs" = none
  min : mg "min" = none
  max : mg "max" = none
  sum : mg "sum" = none
  all : mg "all" = none
  any : mg "any" = none
  sorted : mg "sorted" = none
  divmod : mg "divmod" = none
  isinstance : mg "isinstance" = none
  enumerate : mg "enumerate" = none
  zip : mg "zip" = none
  dict : mg "dict" = none
  set : mg "set" = none
  type : mg "type" = none

section
variable {G : Gc} {X : Cx} {x : Str} {own bor : List Nat} {n k j : Nat} {sp : Spd} {wa : WA} {e : Expr} {es : List Expr} {Ex : DXs} {W : WX}
theorem d_c {p pos : Pos} (c : Cal X.prog X.w X.K G.ca X.mg X.base k x own sp) (hr : RoomG j X.A) (ha : PA X (e :: es) (LA G wa)) (hK : X.K = G.K := by rfl) (hk : k ≤ j := by decide) (ho : ownOk own n = true := by decide) (hg : Gl X x := by rfl) (hdb : (x == ("__debug__" : Str)) = false := by decide) (he : starEach (e :: es) X.env = (false, eval e X.env) :: starEach es X.env := by rfl) (hpl : (backTo pos (starEach es X.env)).any (·.1) = false := by rfl) :
    PE X (.Call (.Name x p) (e :: es) [] pos) (LE G (wCall own bor n sp [] exF wa)) := by
  obtain ⟨f, fd, ps, F, hm, kp, b⟩ := c.ex
  rw [hK] at F
  exact d_call (G := G) (by rw [hK]; exact F) (hr.mono hk) hm kp b .nil takes0 xlk0 (fun _ _ => .nil) ha ho hg hdb he hpl
theorem d_cx {p pos : Pos} (c : Cal X.prog X.w X.K G.ca X.mg X.base k x own sp) (hr : RoomG j X.A) (tk : Takes X W) (lk : XLk G Ex W) (ha : PA X (e :: es) (LA G wa)) (hK : X.K = G.K := by rfl) (hk : k ≤ j := by decide) (ho : ownOk own n = true := by decide) (hg : Gl X x := by rfl) (hdb : (x == ("__debug__" : Str)) = false := by decide) (he : starEach (e :: es) X.env = (false, eval e X.env) :: starEach es X.env := by rfl) (hpl : (backTo pos (starEach es X.env)).any (·.1) = false := by rfl) :
    PE X (.Call (.Name x p) (e :: es) [] pos) (LE G (wCall own bor n sp [] Ex wa)) := by
  obtain ⟨f, fd, ps, F, hm, kp, b⟩ := c.ex
  rw [hK] at F
  exact d_call (G := G) (by rw [hK]; exact F) (hr.mono hk) hm kp b .nil tk lk (fun _ _ => .nil) ha ho hg hdb he hpl
theorem d_glI {x : Str} {i : Int} {pos : Pos} (hm : ∃ t, X.mg x = some (.int i t)) (hg : Gl X x := by rfl) (hd : (x == ("__debug__" : Str)) = false := by decide) : PE X (.Name x pos) (LE G (wC (.int i))) := by
  obtain ⟨t, hm⟩ := hm
  exact le_c (pe_glob (v := .int i) hg hm ⟨t, rfl⟩ hd) fun _ _ _ _ => .int i
theorem d_glS {x z : Str} {pos : Pos} (hm : ∃ t, X.mg x = some (.str z t)) (hg : Gl X x := by rfl) (hd : (x == ("__debug__" : Str)) = false := by decide) : PE X (.Name x pos) (LE G (wC (.str z))) := by
  obtain ⟨t, hm⟩ := hm
  exact le_c (pe_glob (v := .str z) hg hm ⟨t, rfl⟩ hd) fun _ _ _ _ => .str z
def wNeg (wa : WE) : WE := fun ρ Q => wa ρ fun x ρ1 => ∃ i, x = .int i ∧ Q (.int (-i)) ρ1
theorem d_ng {a : Expr} {wa : WE} {pos : Pos} (ha : PE X a (LE G wa)) : PE X (.UnaryOp .USub a pos) (LE G (wNeg wa)) := d_neg ha
theorem pmni {own vs : List Nat} (h : G.pm.map (·.1) = own) (hi : own.all (fun j => !vs.contains j) = true := by decide) : ∀ p ∈ G.pm, p.1 ∉ vs := fun p hp e => by
  have : p.1 ∈ own := by rw [← h]; exact List.mem_map.mpr ⟨p, hp, rfl⟩
  have := List.all_eq_true.mp hi _ this
  simp [e] at this
theorem gOw_name {i : Nat} (hpm : ∀ p ∈ G.pm, p.1 ≠ i) : ∀ v σ H Q, LG G (gOw i) [i] v σ H Q → i < σ.length → gName i v σ H Q := fun v σ H Q q hi => by
  obtain ⟨F, ρ, fp, r, fr, Qd, ok, rr, ⟨nd, hr⟩, ⟨d, ρ1, e, q⟩, k⟩ := q
  obtain ⟨F1, fp1, g1, s1, rp⟩ := rr.par1 (q := true) ok nd hr e
  have hl : i < ρ1.length := by
    have := s1.ok.rs.length
    omega
  have nd1 := s1.nd nd
  obtain ⟨fp2, ok2, sub⟩ := s1.ok.setV (i := i) hl hpm rp (nodup_d nd1) (nodup_l nd1) (fun a z => hr a (s1.subr a z))
  exact k _ H F1 _ fp2 (s1.step.less sub) ok2 off_set q
theorem ds_lcN {i : Nat} {y : Str} {py spos pos : Pos} {elt tg iter : Expr} {ifs : List Expr} {scope : Scope} {own : List (Str × Nat)} {wi : WI} {g gy : WG} {S : List Nat} {wt : WT} {we : WE} (hc : X.calm = true) (hN : X.N.Nodup) (hy : X.N[i]? = some y) (hyl : X.env.scope.names.lookup y = some .local) (hgy : ∀ v σ H Q, LG G gy [i] v σ H Q → i < σ.length → gName i v σ H Q)
    (hsw : swapsWith (.ListComp elt [⟨tg, iter, ifs, 0⟩] scope pos) (some (.Name y py)) spos.line X.env = pure true) (hi : PI X tg iter (LW G wi)) (ok : BlkOk X.N X.env.scope scope own)
    (hg : ∀ (s : Shared) (H : Hp) (C : Addr) (cl : List (Str × Addr)) (fp : List Addr), PG (X.blk s H scope (compEnvC scope cl C X.env) fp) tg (LG G g S)) (ht : ∀ (s : Shared) (H : Hp) (C : Addr) (cl : List (Str × Addr)) (fp : List Addr), PTs (X.blk s H scope (compEnvC scope cl C X.env) fp) ifs (LT G wt))
    (he : ∀ (s : Shared) (H : Hp) (C : Addr) (cl : List (Str × Addr)) (fp : List Addr), PE (X.blk s H scope (compEnvC scope cl C X.env) fp) elt (LE G we)) (hS : ∀ j ∈ S, j ∈ own.map (·.2)) (hpm : ∀ p ∈ G.pm, p.1 ∉ own.map (·.2)) (hs : ∀ x, foldedSetIterable iter X.env x = pure x := by intro _; rfl) :
    PS X (.Assign [.Name y py] (.ListComp elt [⟨tg, iter, ifs, 0⟩] scope pos) spos) (LS G (wAsg (wLc wi g wt we (own.map (·.2))) gy)) := ⟨fun pins s σ H D I q => (ps_setLc hc hN hy hyl hsw hi ok hg ht he hs).run pins s σ H D I (by
  obtain ⟨F, ρ, fp, Dd, ok, h, k⟩ := q
  refine le_lc hS hpm σ H _ ⟨F, ρ, fp, _, ok, h, fun v H1 F1 ρ1 fp1 r fr en rr q => ?_⟩
  exact hgy v σ H1 _ ⟨F1, ρ1, fp1, r, fr, Dd.nx, en.ok, rr, ⟨en.nd, en.hr ok⟩, q, fun σ' H' F' ρ' fp' s ok' _ q' => k.nx σ' H' F' ρ' fp' (en.st.trans s) ok' q'⟩ (by rw [I.len]; exact (List.getElem?_eq_some_iff.mp hy).1))⟩
end
end M
/-! M13: instances: fields, methods, properties, made anew. -/
namespace M
open PySem PySem.Spec PyProof.Rows L2

def getX {α : Type} (f : Str) : List Str → List α → Option α
  | g :: r, x :: xs => if g = f then some x else getX f r xs
  | _, _ => none
def putK (f : Str) : List Str → List Str
  | [] => [f]
  | g :: r => if g = f then g :: r else g :: putK f r
def putX {α : Type} (f : Str) (d : α) : List Str → List α → List α
  | g :: r, x :: xs => if g = f then d :: xs else x :: putX f d r xs
  | _, _ => [d]
theorem putF_zip (f : Str) (v : V) : ∀ (fs : List Str) (us : List V), fs.length = us.length → putF f v (fs.zip us) = (putK f fs).zip (putX f v fs us)
  | [], [], _ => rfl
  | g :: fs, u :: us, h => by
    show (if g = f then (g, v) :: fs.zip us else (g, u) :: putF f v (fs.zip us)) = _
    unfold putK putX
    by_cases e : g = f
    · rw [if_pos e, if_pos e, if_pos e]; rfl
    · rw [if_neg e, if_neg e, if_neg e, putF_zip f v fs us (by simpa using h)]; rfl
theorem put_len {α : Type} (f : Str) (v : α) : ∀ (fs : List Str) (us : List α), fs.length = us.length → (putK f fs).length = (putX f v fs us).length
  | [], [], _ => rfl
  | g :: fs, u :: us, h => by
    unfold putK putX
    by_cases e : g = f
    · rw [if_pos e, if_pos e]; simpa using h
    · rw [if_neg e, if_neg e]
      have := put_len f v fs us (by simpa using h)
      simp [this]
theorem getX_lookup (f : Str) : ∀ (fs : List Str) (us : List V), (fs.zip us).lookup f = getX f fs us
  | [], _ => by cases ‹List V› <;> rfl
  | g :: fs, [] => rfl
  | g :: fs, u :: us => by
    show List.lookup f ((g, u) :: fs.zip us) = _
    unfold getX
    by_cases e : g = f
    · subst e
      rw [if_pos rfl, List.lookup_cons_self]
    · rw [if_neg e, List.lookup_cons, show (f == g) = false from beq_eq_false_iff_ne.mpr (Ne.symm e)]
      exact getX_lookup f fs us

section
variable {G : Gc} {X : Cx} {F F' F1 F2 : Addr → Prop} {H H' H1 H2 : Hp} {σ σ' : L2.St} {ρ ρ' ρ1 ρ2 : Sl} {fp fp' fp1 fp2 fr fr1 fr2 fr' fo : List Addr} {v v1 v2 : V} {r r1 r2 d : D} {p : Addr} {o : HO}
  {a b c e : Expr} {es : List Expr} {wa wb wc we wo : WE} {ta tb tc : WT} {rest : List Expr} {pos : Pos} {K : PySem.W.Frag} {ca : Cax}

theorem RpL.getX {f : Str} : ∀ {fs : List Str} {ds : List D} {vs : List V}, RpL K ca F H vs ds [] → ∀ {d : D}, M.getX f fs ds = some d → ∃ v, M.getX f fs vs = some v ∧ Rp K ca F H v d []
  | [], ds, vs, _, d, e => by cases ds <;> cases e
  | g :: fs, [], vs, _, d, e => by cases e
  | g :: fs, x :: ds, v :: vs, h, d, e => by
    obtain ⟨r, t⟩ := h.nil_of
    unfold M.getX at e ⊢
    by_cases q : g = f
    · rw [if_pos q] at e ⊢; cases e; exact ⟨v, rfl, r⟩
    · rw [if_neg q] at e ⊢; exact RpL.getX t e
theorem RpL.noX {f : Str} : ∀ {fs : List Str} {ds : List D} {vs : List V} {fr : List Addr}, RpL K ca F H vs ds fr → M.getX f fs ds = none → M.getX f fs vs = none
  | [], ds, vs, _, _, e => by cases vs <;> rfl
  | g :: fs, [], [], _, _, e => rfl
  | g :: fs, x :: ds, v :: vs, _, .cons r t, e => by
    unfold M.getX at e ⊢
    by_cases q : g = f
    · rw [if_pos q] at e; cases e
    · rw [if_neg q] at e ⊢; exact RpL.noX t e
theorem RpL.putX {f : Str} (rv : Rp K ca F H v d []) : ∀ {fs : List Str} {ds : List D} {vs : List V}, RpL K ca F H vs ds [] → RpL K ca F H (M.putX f v fs vs) (M.putX f d fs ds) []
  | [], [], [], _ => .one rv
  | [], x :: ds, v :: vs, h => .one rv
  | g :: fs, [], [], _ => .one rv
  | g :: fs, x :: ds, v :: vs, h => by
    obtain ⟨r, t⟩ := h.nil_of
    unfold M.putX
    by_cases q : g = f
    · rw [if_pos q, if_pos q]; exact .cons (fp := []) (fq := []) rv t
    · rw [if_neg q, if_neg q]; exact .cons (fp := []) (fq := []) r (RpL.putX rv t)

/-- an instance -/
theorem Rp.ins {o : Bool} {c : Str} {fs : List Str} {xs : List D} (h : Rp K ca F H v (.ins o c fs xs) fr) : ∃ a dx vs, v = .ref a ∧ H a = some (.ins (ca c) dx (fs.zip vs)) ∧ fs.length = vs.length ∧ RpL K ca F H vs xs [] := by
  cases h with
  | ifz e _ l r => exact ⟨_, _, _, rfl, e, l, r⟩
  | iow e _ l r => exact ⟨_, _, _, rfl, e, l, r⟩
def wFld (c f : Str) (wo : WE) : WE := fun ρ Q => wo ρ fun x ρ1 => ∃ o fs xs d, pk ρ1 x = some (.ins o c fs xs) ∧ getX f fs xs = some d ∧ Q d ρ1
theorem d_fld {c f : Str} (hc : Cls X.K (G.ca c)) (hn : NoAttr X.K (G.ca c) f) (he : PE X e (LE G wo)) (hb : attributeBase e f X.env (eval e X.env) = eval e X.env := by rfl) : PE X (.Attribute e f pos) (LE G (wFld c f wo)) := imE (pe_fld he hb) fun σ H Q q => by
  obtain ⟨F, ρ, fp, Qd, ok, h, k⟩ := q
  refine ⟨F, ρ, fp, _, ok, h, fun v1 H1 F1 ρ1 fp1 x f1 en1 rr1 q => ?_⟩
  obtain ⟨o, fs, xs, d, e1, e2, q⟩ := q
  obtain ⟨_, rp, _⟩ := rr1.see en1.ok e1
  obtain ⟨a, dx, vs, rfl, ha, l, rl⟩ := rp.ins
  obtain ⟨u, eu, ru⟩ := rl.getX e2
  exact ⟨a, G.ca c, dx, _, u, rfl, ha, hc, hn, by rw [getX_lookup]; exact eu, k u H1 F1 ρ1 fp1 d [] (en1.drop (En.refl en1.ok)) (.inl ru) q⟩

/-- e.f = .., e an instance that a slot owns -/
def gAttr (c f : Str) (wo : WE) : WG := fun r ρ Q => wo ρ fun o ρ1 => ∃ j fs xs d ρ2, o = .sl j ∧ fzR ρ1 r = some (d, ρ2) ∧ ρ2[j]? = some (some (.ins true c fs xs)) ∧ fs.length < 1000 ∧ Q (ρ2.set j (some (.ins true c (putK f fs) (putX f d fs xs))))
theorem low_ins {a : Addr} {c : Str} {fs : List Str} {xs : List D} : ∀ fp, Rp K ca F H (.ref a) (.ins true c fs xs) fp → fp = [a] := fun fp h => by cases h; rfl
theorem pg_attr {o : Expr} {f : Str} {to : TE} (ho : PE X o to) : PG X (.Attribute o f pos) (fun y σ H Q => to σ H fun x H2 => ∃ a C dx fs, x = .ref a ∧ H2 a = some (.ins C dx fs) ∧ Cls X.K C ∧ NoAttr X.K C f ∧ fs.length < 1000 ∧ Q σ (upd H2 a (.ins C dx (putF f y fs)))) := by
  refine ⟨fun pins s σ H v u Q I r h => ?_⟩
  rw [assign_Attribute]
  refine wpAny_bind (wpAny_holding (thn (ho.run pins s σ H _ I h) fun ov s1 ⟨x, H1, I1, r1, q1⟩ => ?_))
  obtain ⟨a, C, dx, fs, rfl, ea, c, n, hl, q⟩ := q1
  obtain rfl : ov = Value.ref a := r1
  refine wpAny_bind (wpAny_standAt (wpAny_bind (wpAny_holding ?_)))
  exact setattr_ok I1 ea c n hl r fun s' I' => wpAny_release ⟨σ, _, I', q⟩
theorem dg_attr {o : Expr} {c f : Str} (hc : Cls X.K (G.ca c)) (hn : NoAttr X.K (G.ca c) f) (ho : PE X o (LE G wo)) : PG X (.Attribute o f pos) (LG G (gAttr c f wo) []) := imG (pg_attr ho) fun v σ H Q q => by
  obtain ⟨F, ρ, fp, r, fr, Qd, ok, rr, ⟨nd, hr⟩, h, k⟩ := q
  refine ⟨F, ρ, fp, _, ok, h, fun vo H1 F1 ρ1 fp1 o f1 en1 ro q => ?_⟩
  obtain ⟨j, fs, xs, d, ρ2, rfl, e3, e4, hl, q⟩ := q
  obtain ⟨hσ, rfl⟩ := ro.sl
  have st : Step G.ca.tb F H fp F1 H1 fp1 := en1.st0
  have rr2 := rr.step st ok.nf (nodup_d nd)
  have nd2 : (fr ++ fp1).Nodup := nodup_of (nodup_l nd) en1.ok.nd fun a z y => by
    rcases st.fps a y with w | w
    · exact nodup_d nd a z w
    · obtain ⟨u, eu⟩ := rr.dom a z
      rw [eu] at w; cases w
  obtain ⟨F3, fp3, s3, rp⟩ := rr2.share en1.ok nd2 hr e3
  obtain ⟨l, fq, r', e1, g1, _, g3, _⟩ := s3.ok.rs.at_ (i := j) (by rw [List.getElem?_eq_some_iff] at e4; exact e4.1)
  obtain ⟨v', ev, rpi⟩ := g1 _ e4
  rw [hσ] at ev; cases ev
  cases rpi with
  | @iow a dx _ _ us _ ha nF ll rl =>
    have rl2 := rl.putX (f := f) (fs := fs) rp
    obtain ⟨fp4, en4⟩ := s3.ok.change (fr := []) e4 hσ low_ins ha trivial (u := .ins (G.ca c) dx ((putK f fs).zip (putX f v fs us))) (d1 := .ins true c (putK f fs) (putX f d fs xs))
      (.iow upd_same nF (put_len f v fs us ll) (rl2.mut ha trivial nF))
    refine ⟨a, G.ca c, dx, _, rfl, ha, hc, hn, by rw [List.length_zip]; omega, ?_⟩
    rw [putF_zip f v fs us ll]
    refine k σ _ F3 _ fp4 ?_ en4.ok off_refl q
    have s1 : Step G.ca.tb F H (fr ++ fp) F1 H1 (fr ++ fp1) := st.frame fr
    have s4 : Step G.ca.tb F3 H1 fp3 F3 (upd H1 a (HO.ins (G.ca c) dx ((putK f fs).zip (putX f v fs us)))) fp4 := by simpa using en4.st
    exact s1.trans (s3.step.trans s4)

/-! ### a method called -/
/-- a def that may be called as a method (a property, a special method) of the class c -/
structure Met (P : Program) (w : World) (K : PySem.W.Frag) (ca : Cax) (mg : Str → Option Value) (base : Heap) (k : Nat) (c m : Str) (own : List Nat) (sp : Spd) : Prop where
  ex : ∃ (f : Addr) (fd : FuncData) (ps : List Str), FnG P w K mg base (L2.CX P w) k f fd ps (lift K ca own sp) ∧ L2.Meth K (ca c) m f ∧ Binds K fd ps [] ∧ PySem.W.fnIn K f = true
  cls : Cls K (ca c)
def isIns (ρ : Sl) (r : D) (c m : Str) : Prop := ∃ o fs xs, pk ρ r = some (.ins o c fs xs) ∧ getX m fs xs = none
def wMeth (c m : Str) (own bor : List Nat) (n : Nat) (sp : Spd) (dd : List D) (Ex : DXs) (wo : WE) (wa : WA) : WE := fun ρ Q => wo ρ fun x ρ0 => isIns ρ0 x c m ∧ wa ρ0 fun rs ρ1 => callD own bor n sp dd Ex Q (x :: rs) ρ1
theorem isIns.at_ {c m : Str} (ok : Ok G F H σ ρ fp) (rr : Rr G F H σ v r fr) (h : isIns ρ r c m) : ∃ a dx fs, v = .ref a ∧ H a = some (.ins (G.ca c) dx fs) ∧ fs.lookup m = none := by
  obtain ⟨o, fs, xs, e1, e2⟩ := h
  obtain ⟨_, rp, _⟩ := rr.see ok e1
  obtain ⟨a, dx, vs, rfl, ha, l, rl⟩ := rp.ins
  exact ⟨a, dx, _, rfl, ha, by rw [getX_lookup]; exact rl.noX e2⟩
theorem ls_meth {c m : Str} {own bor : List Nat} {sp : Spd} {dvs : List V} {dd : List D} {Ex : DXs} {W : WX} {wa : WA} {n : Nat} (lk : XLk G Ex W) (hd : ∀ F H, RpL G.K G.ca F H dvs dd []) (ho : ownOk own n = true) :
    ∀ σ H Q, LE G (wMeth c m own bor n sp dd Ex wo wa) σ H Q → tMethS (G.ca c) m (lift G.K G.ca own sp) dvs (fun σ cls d H => W cls d σ H) (LE G wo) (LA G wa) σ H Q := fun σ H Q q => by
  obtain ⟨F, ρ, fp, Qd, ok, h, k⟩ := q
  refine ⟨F, ρ, fp, _, ok, h, fun v0 H0 F0 ρ0 fp0 r0 f0 en0 rr0 ⟨hi, q⟩ => ?_⟩
  obtain ⟨a, dx, fs, rfl, ha, hm⟩ := hi.at_ en0.ok rr0
  refine ⟨a, dx, fs, rfl, ha, hm, F0, ρ0, fp0, _, en0.ok, q, fun vs H1 F1 ρ1 fp1 rs fr en rr q => ?_⟩
  exact call_core (vs := .ref a :: vs) lk hd ho ok.rch (en0.trans en rr0.dom) (.cons (rr0.step en.st en0.ok.nf (nodup_d en0.nd)) rr) q k
theorem d_meth {c m : Str} {own bor : List Nat} {sp : Spd} {Ex : DXs} {W : WX} {wa : WA} {n k j : Nat} {apos : Pos} {o : Expr} {pl : Sem Bool} (me : Met X.prog X.w X.K G.ca X.mg X.base k c m own sp) (hr : RoomG j X.A) (tk : Takes X W) (lk : XLk G Ex W) (he : PE X o (LE G wo)) (ha : PA X (e :: es) (LA G wa)) (hK : X.K = G.K := by rfl) (hk : k ≤ j := by decide) (ho : ownOk own n = true := by decide)
    (hst : starEach (e :: es) X.env = (false, eval e X.env) :: starEach es X.env := by rfl) (hpl : (backTo pos (starEach es X.env)).any (·.1) = false := by rfl) (ht : MRunK X o m (e :: es) [] apos pos pl := by rfl) :
    PE X (.Call (.Attribute o m apos) (e :: es) [] pos) (LE G (wMeth c m own bor n sp [] Ex wo wa)) := by
  obtain ⟨f, fd, ps, F, hm, b, _⟩ := me.ex
  exact imE (pe_methG (pl := pl) he me.cls hm F (hr.mono hk) b .nil (fun σ => passAt tk σ) ha hst hpl ht) (hK ▸ ls_meth (dvs := []) lk (fun _ _ => .nil) ho)
theorem la_nil : ∀ σ H Q, LA G wNil σ H Q → tNil σ H Q := fun σ H Q q => by
  obtain ⟨F, ρ, fp, Qd, ok, h, k⟩ := q
  exact k [] H F ρ fp [] [] (En.refl ok) .nil h
theorem d_meth0 {c m : Str} {own bor : List Nat} {sp : Spd} {Ex : DXs} {W : WX} {n k j : Nat} {apos : Pos} {o : Expr} {pl : Sem Bool} (me : Met X.prog X.w X.K G.ca X.mg X.base k c m own sp) (hr : RoomG j X.A) (tk : Takes X W) (lk : XLk G Ex W) (he : PE X o (LE G wo)) (hK : X.K = G.K := by rfl) (hk : k ≤ j := by decide) (ho : ownOk own n = true := by decide) (ht : MRunK X o m [] [] apos pos pl := by rfl) :
    PE X (.Call (.Attribute o m apos) [] [] pos) (LE G (wMeth c m own bor n sp [] Ex wo wNil)) := by
  obtain ⟨f, fd, ps, F, hm, b, _⟩ := me.ex
  refine imE (pe_methG0 (pl := pl) he me.cls hm F (hr.mono hk) b .nil (fun σ => passAt tk σ) ht) fun σ H Q q => ?_
  have := (hK ▸ ls_meth (dvs := []) lk (fun _ _ => .nil) ho) σ H Q q
  obtain ⟨F, ρ, fp, Qd, ok, h, k⟩ := this
  exact ⟨F, ρ, fp, Qd, ok, h, fun v H' F' ρ' fp' r fr en rr q => let ⟨a, dx, fs, e1, e2, e3, z⟩ := k v H' F' ρ' fp' r fr en rr q; ⟨a, dx, fs, e1, e2, e3, la_nil σ _ _ z⟩⟩

/-! ### a property read, len, bool, str, [] of an instance -/
/-- the getter -/
structure Prp (P : Program) (w : World) (K : PySem.W.Frag) (ca : Cax) (mg : Str → Option Value) (base : Heap) (k : Nat) (c f : Str) (sp : Spd) : Prop where
  ex : ∃ (p g : Addr) (fd : FuncData) (ps : List Str), FnG P w K mg base (L2.CX P w) k g fd ps (lift K ca [] sp) ∧ PropOf K (ca c) f p g ∧ Binds K fd ps []
  cls : Cls K (ca c)
def isIn (ρ : Sl) (r : D) (c : Str) : Prop := ∃ o fs xs, pk ρ r = some (.ins o c fs xs)
theorem isIn.at_ {c : Str} (ok : Ok G F H σ ρ fp) (rr : Rr G F H σ v r fr) (h : isIn ρ r c) : ∃ a dx fs, v = .ref a ∧ H a = some (.ins (G.ca c) dx fs) := by
  obtain ⟨o, fs, xs, e1⟩ := h
  obtain ⟨_, rp, _⟩ := rr.see ok e1
  obtain ⟨a, dx, vs, rfl, ha, l, rl⟩ := rp.ins
  exact ⟨a, dx, _, rfl, ha⟩
def wProp (c : Str) (sp : Spd) (wo : WE) : WE := fun ρ Q => wo ρ fun x ρ0 => isIn ρ0 x c ∧ callD [] [] 1 sp [] exF Q [x] ρ0
theorem d_prop {c f : Str} {sp : Spd} {k j : Nat} (me : Prp X.prog X.w X.K G.ca X.mg X.base k c f sp) (hr : RoomG j X.A) (he : PE X e (LE G wo)) (hK : X.K = G.K := by rfl) (hk : k + 1 ≤ j := by decide) (hb : attributeBase e f X.env (eval e X.env) = eval e X.env := by rfl) : PE X (.Attribute e f pos) (LE G (wProp c sp wo)) := by
  obtain ⟨p, g, fd, ps, F, hp, b⟩ := me.ex
  refine imE (pe_propG (E := fun _ _ _ _ => False) he me.cls hp F (hr.mono hk) b (fun σ => passAt (takes0 (X := X.nox)) σ) hb) fun σ H Q q => ?_
  obtain ⟨F, ρ, fp, Qd, ok, h, k⟩ := q
  refine ⟨F, ρ, fp, _, ok, h, fun v0 H0 F0 ρ0 fp0 r0 f0 en0 rr0 ⟨hi, q⟩ => ?_⟩
  obtain ⟨a, dx, fs, rfl, ha⟩ := hi.at_ en0.ok rr0
  refine ⟨a, dx, fs, rfl, ha, ?_⟩
  have rl : RrL G F0 H0 σ [.ref a] [r0] (f0 ++ []) := .cons rr0 .nil
  exact hK ▸ call_core (W := fun _ _ _ _ => False) (dvs := []) (vs := [.ref a]) xlk0 (fun _ _ => .nil) (by decide) ok.rch (by rw [List.append_nil]; exact en0) rl q k
end
end M
/-! M14: len, str, bool, [] of an instance, by the class's own defs. -/
namespace M
open PySem PySem.Spec PyProof.Rows L2

section
variable {G : Gc} {X : Cx} {F F' F1 F2 : Addr → Prop} {H H' H1 H2 : Hp} {σ σ' : L2.St} {ρ ρ' ρ1 ρ2 : Sl} {fp fp' fp1 fp2 fr fr1 fr2 fr' fo : List Addr} {v v1 v2 : V} {r r1 r2 d : D} {p : Addr} {o : HO}
  {a b c e : Expr} {es : List Expr} {wa wb wc we wo : WE} {ta tb tc : WT} {rest : List Expr} {pos : Pos} {K : PySem.W.Frag} {ca : Cax}
/-- a def runs at any place with room -/
theorem run_at {CX : CXT} {k : Nat} {f : Addr} {fd : FuncData} {ps : List Str} {sp : Sp} {E : L2.St → XK} {A' : Around} {pins : List (Addr × Obj)} {s : Shared} {Q : VK} {us : List Value} {vs : List V} (F : FnG X.prog X.w X.K X.mg X.base CX k f fd ps sp) (hr : RoomG k A') (h0 : Env0 X.prog X.w X.K X.mg X.base A' X.stack s H) (hb : Binds X.K fd ps []) (hx : PassesAt CX X σ (E σ))
    (I : Inv X pins σ H s) (rv : Vals vs us) (h : sp vs H Q (E σ)) : wpAny (model X.prog X.w) A' (call (.ref f) us) (EP X pins σ Q) X.xe s := run_posG (dvs := []) F hr h0 hb .nil hx I rv (by rw [List.append_nil]; exact h)

/-- an instance's own special method, told on values -/
abbrev rSpc (C : Addr) (sp : Sp) (p : V → Prop) : List V → Hp → VK → Prop := fun vs H Q => ∃ a dx fs, vs = [.ref a] ∧ H a = some (.ins C dx fs) ∧ sp [.ref a] H (fun v H' => p v ∧ Q v H') fun _ _ _ => False
def pLen : V → Prop := fun v => ∃ n : Int, v = .int n ∧ 0 ≤ n ∧ n < 2 ^ 63
def pStr : V → Prop := fun v => ∃ x, v = .str x
def pBl : V → Prop := fun v => ∃ x, v = .bl x
variable {k j : Nat} {C f : Addr} {fd : FuncData} {ps : List Str} {sp : Sp}
theorem no_pass {σ : L2.St} : PassesAt (L2.CX X.prog X.w) X σ ((fun _ _ _ _ => False : L2.St → XK) σ) := passAt (takes0 (X := X)) σ
theorem call_lenI (me : L2.Meth X.K C "__len__" f) (F : FnG X.prog X.w X.K X.mg X.base (L2.CX X.prog X.w) k f fd ps sp) (hr : RoomG (k + 1) X.A) (hb : Binds X.K fd ps []) : CallR X (.builtin "len") (rSpc C sp pLen) := by
  intro pins s σ H xs us Q I rv h
  obtain ⟨a, dx, fs, rfl, ea, q⟩ := h
  obtain ⟨u, rfl, ru⟩ := Vals.one rv
  obtain rfl : u = Value.ref a := ru
  obtain ⟨mA, O, _⟩ := ins_get I.hok ea
  obtain ⟨od, J, _⟩ := O.look
  obtain ⟨m, fr⟩ := I.fr
  refine PySem.W.len_K fr I.ok.mod.kin J me.at_ me.fn (wpAny_mono (run_at (E := fun _ _ _ _ => False) F hr.in1 I.env0.in1 hb no_pass I rv q) (fun u s' z => ?_) fun _ _ z => z)
  obtain ⟨v, H', I', rv', ⟨n, rfl, h0, h1⟩, q'⟩ := z
  obtain ⟨t, rfl⟩ := rv'
  exact ⟨⟨h0, h1⟩, .int n, H', I'.tok _, ⟨_, rfl⟩, q'⟩
theorem call_strI (me : L2.Meth X.K C "__str__" f) (F : FnG X.prog X.w X.K X.mg X.base (L2.CX X.prog X.w) k f fd ps sp) (hr : RoomG (k + 2) X.A) (hb : Binds X.K fd ps []) : CallR X (.type "str") (rSpc C sp pStr) := by
  intro pins s σ H xs us Q I rv h
  obtain ⟨a, dx, fs, rfl, ea, q⟩ := h
  obtain ⟨u, rfl, ru⟩ := Vals.one rv
  obtain rfl : u = Value.ref a := ru
  obtain ⟨mA, O, _⟩ := ins_get I.hok ea
  obtain ⟨od, J, _⟩ := O.look
  refine PySem.W.kso_call hr.in1.in1.rm.units0 I.kIn J me.at_ me.fn (wpAny_mono (run_at (E := fun _ _ _ _ => False) F hr.in1.in1 I.env0.in1.in1 hb no_pass I rv q) (fun u s' z => ?_) fun _ _ z => z)
  obtain ⟨v, H', I', rv', ⟨x, rfl⟩, q'⟩ := z
  obtain ⟨t, rfl⟩ := rv'
  exact ⟨.str x, H', I', ⟨_, rfl⟩, q'⟩
theorem bool_new_tree (x : Value) : Builtin.«bool.__new__» ⟨[.type "bool", x], []⟩ = (truthy x >>= fun b => PySem.ret (.bool b)) := by
  unfold Builtin.«bool.__new__»
  simp only [PySem.F.conv_sub_bool]
  rfl
/-- its truth -/
theorem truthyI0 {A' : Around} (me : L2.Meth X.K C "__bool__" f) (F : FnG X.prog X.w X.K X.mg X.base (L2.CX X.prog X.w) k f fd ps sp) (hr : RoomG k A') (hb : Binds X.K fd ps []) {pins : List (Addr × Obj)} {s : Shared} {Q : VK} {x : Addr} {dx : Addr} {fs : List (Str × V)} (I : Inv X pins σ H s) (h0 : Env0 X.prog X.w X.K X.mg X.base A' X.stack s H) (ea : H x = some (.ins C dx fs))
    (q : sp [.ref x] H (fun v H' => pBl v ∧ Q v H') fun _ _ _ => False) : wpAny (model X.prog X.w) A' (truthy (.ref x)) (TP X pins σ fun y H' => Q (.bl y) H') X.xe s := by
  obtain ⟨mA, O, _⟩ := ins_get I.hok ea
  obtain ⟨od, J, _⟩ := O.look
  obtain ⟨m, fr⟩ := I.fr
  refine PySem.W.truthy_K fr I.ok.mod.kin J me.at_ me.fn (wpAny_mono (run_at (E := fun _ _ _ _ => False) (us := [.ref x]) F hr h0 hb no_pass I (.cons (show RelV (.ref x) (.ref x) from rfl) .nil) q) (fun u s' z => ?_) fun _ _ z => z)
  obtain ⟨v, H', I', rv', ⟨y, rfl⟩, q'⟩ := z
  have : u = .bool y := rv'
  subst this
  exact ⟨H', I', q'⟩
theorem call_boolI (me : L2.Meth X.K C "__bool__" f) (F : FnG X.prog X.w X.K X.mg X.base (L2.CX X.prog X.w) k f fd ps sp) (hr : RoomG (k + 2) X.A) (hb : Binds X.K fd ps []) : CallR X (.type "bool") (rSpc C sp pBl) := by
  intro pins s σ H xs us Q I rv h
  obtain ⟨a, dx, fs, rfl, ea, q⟩ := h
  obtain ⟨u, rfl, ru⟩ := Vals.one rv
  obtain rfl : u = Value.ref a := ru
  refine callType_codes (T := "bool") (Bi := Builtin.«object.__init__») (Q₁ := fun r s₁ => ∃ y, r = .bool y ∧ EP X pins σ Q r s₁) PySem.F.called_bool (PySem.F.typeCall_bool_1 _) PySem.F.entry_object_init ?_ ?_
  · refine codeAny_of_tree ?_
    show wpAny _ X.A.in1.in1 (do checkBuiltinCall "bool.__new__" ⟨[.type "bool", .ref a], []⟩; again (.builtin "bool.__new__" ⟨[.type "bool", .ref a], []⟩)) _ _ s
    refine wpAny_bind (wpAny_of_eq (PySem.F.newCall_bool_1 _) (wpAny_pure ⟨plainId_quiet (by decide +kernel) _, codeAny_builtin PySem.F.entry_bool_new ?_⟩))
    rw [Around.under_plainId (by decide +kernel) _]
    rw [bool_new_tree]
    refine wpAny_bind (wpAny_mono (truthyI0 me F hr.in1.in1 hb I I.env0.in1.in1 ea q) (fun y s' z => ?_) fun _ _ z => z)
    obtain ⟨H', I', q'⟩ := z
    exact wpAny_pure ⟨_, rfl, .bl y, H', I', rfl, q'⟩
  · rintro obj s₁ ⟨y, rfl, hq⟩
    exact ⟨PySem.typeIs_bool _ _, PySem.F.args_object_init_2 _ _, object_init_meets PySem.F.called_bool.init.lookup PySem.F.called_bool.made (by decide) X.prog X.w X.A.in1 _ s₁ ⟨PySem.typeIs_bool _ _, rfl, hq⟩⟩
end
end M
/-! M15: calls by keywords and with defaults, instances made, specials over data. -/
namespace M
open PySem PySem.Spec PyProof.Rows L2

def permL {α : Type} (is : List Nat) (xs : List α) : List α := is.filterMap fun i => xs[i]?

section
variable {G : Gc} {X : Cx} {F F' F1 F2 : Addr → Prop} {H H' H1 H2 : Hp} {σ σ' : L2.St} {ρ ρ' ρ1 ρ2 : Sl} {fp fp' fp1 fp2 fr fr1 fr2 fr' fo : List Addr} {v v1 v2 : V} {r r1 r2 d : D} {p : Addr} {o : HO}
  {a b c e : Expr} {es : List Expr} {wa wb wc we wo : WE} {ta tb tc : WT} {rest : List Expr} {pos : Pos} {K : PySem.W.Frag} {ca : Cax}

/-! ### specials -/
def nSpc (c : Str) (sp : Spd) (q : D → Prop) : ON := fun ρ rs K => ∃ x, rs = [x] ∧ isIn ρ x c ∧ callD [] [] 1 sp [] exF (fun r ρ1 => q r ∧ K r ρ1) [x] ρ
def qLen : D → Prop := fun v => ∃ n : Int, v = .int n ∧ 0 ≤ n ∧ n < 2 ^ 63
def qStr : D → Prop := fun v => ∃ x, v = .str x
def qBl : D → Prop := fun v => ∃ x, v = .bl x
theorem pq_len {K ca F H v r fr} (h : Rp K ca F H v r fr) (q : qLen r) : pLen v := by
  obtain ⟨n, rfl, z⟩ := q
  cases h; exact ⟨n, rfl, z⟩
theorem pq_str {K ca F H v r fr} (h : Rp K ca F H v r fr) (q : qStr r) : pStr v := by
  obtain ⟨n, rfl⟩ := q
  cases h; exact ⟨n, rfl⟩
theorem pq_bl {K ca F H v r fr} (h : Rp K ca F H v r fr) (q : qBl r) : pBl v := by
  obtain ⟨n, rfl⟩ := q
  cases h; exact ⟨n, rfl⟩
theorem nSpc_ok {c : Str} {sp : Spd} {q : D → Prop} {p : V → Prop} (hp : ∀ {K ca F H v r fr}, Rp K ca F H v r fr → q r → p v) (hs : ∀ i, ¬ q (.sl i)) : ONOk G (rSpc (G.ca c) (lift G.K G.ca [] sp) p) (nSpc c sp q) := fun F H σ ρ fp vs rs fr Kd Q ok rr ⟨nd, hr⟩ h k => by
  obtain ⟨x, rfl, hi, h⟩ := h
  obtain ⟨v, rfl, r1⟩ := rr.one
  obtain ⟨a, dx, fs, rfl, ha⟩ := hi.at_ ok r1
  refine ⟨a, dx, fs, rfl, ha, ?_⟩
  have rch : Step G.ca.tb G.F0 G.H0 G.fp0 F H (fr ++ fp) := ⟨ok.rch.mono, ok.rch.new, ok.rch.kept, ok.rch.there, fun a z => (List.mem_append.mp z).elim (hr a) (ok.rch.fps a), ok.rch.tab⟩
  have en : En G F H (fr ++ fp) σ F H ρ fp fr := ⟨.refl, ok, nd⟩
  exact call_core (W := fun _ _ _ _ => False) (dvs := []) (vs := [.ref a]) xlk0 (fun _ _ => .nil) (by decide) rch en rr h fun v H' F' ρ' fp' r fr' en' rr' q' => by
    refine ⟨?_, k v H' F' ρ' fp' r fr' en' rr' q'.2⟩
    rcases rr' with rp | ⟨i, rfl, _⟩
    · exact hp rp q'.1
    · exact absurd q'.1 (hs i)
variable {k j : Nat} {cn : Str} {sp : Spd} {wa : WA} {p1 : Pos}
theorem d_lenI (me : Met X.prog X.w X.K G.ca X.mg X.base k cn "__len__" [] sp) (hr : RoomG j X.A) (hg : Gl X "len") (hm : X.mg "len" = none) (ha : PA X (e :: es) (LA G wa)) (hK : X.K = G.K := by rfl) (hk : k + 1 ≤ j := by decide) (he : starEach (e :: es) X.env = (false, eval e X.env) :: starEach es X.env := by rfl) (hpl : (backTo pos (starEach es X.env)).any (·.1) = false := by rfl) :
    PE X (.Call (.Name "len" p1) (e :: es) [] pos) (LE G (wCB (nSpc cn sp qLen) wa)) := by
  obtain ⟨f, fd, ps, F, m, b, _⟩ := me.ex
  exact d_cb (call_lenI m F (hr.mono hk) b) (hK ▸ nSpc_ok pq_len fun i ⟨_, z, _⟩ => nomatch z) hg hm boot_len ha (by decide) (by decide) he hpl
theorem d_strI (me : Met X.prog X.w X.K G.ca X.mg X.base k cn "__str__" [] sp) (hr : RoomG j X.A) (hg : Gl X "str") (hm : X.mg "str" = none) (ha : PA X (e :: es) (LA G wa)) (hK : X.K = G.K := by rfl) (hk : k + 2 ≤ j := by decide) (he : starEach (e :: es) X.env = (false, eval e X.env) :: starEach es X.env := by rfl) (hpl : (backTo pos (starEach es X.env)).any (·.1) = false := by rfl) :
    PE X (.Call (.Name "str" p1) (e :: es) [] pos) (LE G (wCB (nSpc cn sp qStr) wa)) := by
  obtain ⟨f, fd, ps, F, m, b, _⟩ := me.ex
  exact d_cty (call_strI m F (hr.mono hk) b) (hK ▸ nSpc_ok pq_str fun i ⟨_, z⟩ => nomatch z) hg hm (by decide +kernel) ha (by decide) (by decide) he hpl
theorem d_boolI (me : Met X.prog X.w X.K G.ca X.mg X.base k cn "__bool__" [] sp) (hr : RoomG j X.A) (hg : Gl X "bool") (hm : X.mg "bool" = none) (ha : PA X (e :: es) (LA G wa)) (hK : X.K = G.K := by rfl) (hk : k + 2 ≤ j := by decide) (he : starEach (e :: es) X.env = (false, eval e X.env) :: starEach es X.env := by rfl) (hpl : (backTo pos (starEach es X.env)).any (·.1) = false := by rfl) :
    PE X (.Call (.Name "bool" p1) (e :: es) [] pos) (LE G (wCB (nSpc cn sp qBl) wa)) := by
  obtain ⟨f, fd, ps, F, m, b, _⟩ := me.ex
  exact d_cty (call_boolI m F (hr.mono hk) b) (hK ▸ nSpc_ok pq_bl fun i ⟨_, z⟩ => nomatch z) hg hm (by decide +kernel) ha (by decide) (by decide) he hpl

/-! ### o[i], by the class's own __getitem__ -/
def wIxI (c : Str) (sp : Spd) (Ex : DXs) (wa wb : WE) : WE := fun ρ Q => wa ρ fun x ρ1 => wb ρ1 fun y ρ2 => isIn ρ2 x c ∧ callD [] [] 2 sp [] Ex Q [x, y] ρ2
theorem d_ixI {Ex : DXs} {W : WX} (me : Met X.prog X.w X.K G.ca X.mg X.base k cn "__getitem__" [] sp) (hr : RoomG j X.A) (tk : Takes X W) (lk : XLk G Ex W) {wa' : WE} (ha : PE X a (LE G wa')) (hb : PE X b (LE G wb)) (hK : X.K = G.K := by rfl) (hk : k + 1 ≤ j := by decide) (hsl : ∀ x i, subscripted b true (.ref x) i = runValue (.builtin "lifetime.subscript" ⟨[.ref x, i], []⟩) := by exact fun _ _ => by with_unfolding_all rfl) : PE X (.Subscript a b pos) (LE G (wIxI cn sp Ex wa' wb)) := by
  obtain ⟨f, fd, ps, F, m, bi, fi⟩ := me.ex
  refine ⟨fun pins s σ H Q I q => ?_⟩
  obtain ⟨F0, ρ, fp, Qd, ok, h, kk⟩ := q
  have key := bin2 (R := fun v1 v2 H2 => ∃ x dx fs, v1 = .ref x ∧ H2 x = some (.ins (G.ca cn) dx fs) ∧ lift G.K G.ca [] sp [v1, v2] H2 Q (fun cls d H => W cls d σ H)) (k := fun x y ρ2 => isIn ρ2 x cn ∧ callD [] [] 2 sp [] Ex Qd [x, y] ρ2) ok h fun v1 v2 H2 F2 ρ2 fp2 x y f1 f2 en r1 r2 ⟨hi, q⟩ => by
    obtain ⟨z, dx, fs, rfl, hz⟩ := hi.at_ en.ok r1
    have rl : RrL G F2 H2 σ [.ref z, v2] [x, y] (f1 ++ (f2 ++ [])) := .cons r1 (.cons r2 .nil)
    exact ⟨z, dx, fs, rfl, hz, call_core (dvs := []) (vs := [.ref z, v2]) lk (fun _ _ => .nil) (by decide) ok.rch (by rw [List.append_nil]; exact en) rl q kk⟩
  refine Subscript_ (binT ha hb I key fun v u s2 x y H2 I2 rx ry q => ?_)
  obtain ⟨z, dx, fs, rfl, hz, q⟩ := q
  obtain rfl : v = Value.ref z := rx
  obtain ⟨mA, O, _⟩ := ins_get I2.hok hz
  obtain ⟨od, J, _⟩ := O.look
  obtain ⟨mm, fr⟩ := I2.fr
  rw [← hK] at q
  exact PySem.W.sub_K fr I2.ok.mod.kin J m.at_ fi m.fn (run_at (E := fun σ cls d H => W cls d σ H) F (hr.mono hk).in1 I2.env0.in1 bi (passAt tk σ) I2 (.cons (show RelV (.ref z) (.ref z) from rfl) (.cons ry .nil)) q) (hsl z u)
end
end M
/-! M16: calls by keywords and with defaults; instances made. -/
namespace M
open PySem PySem.Spec PyProof.Rows L2
section
variable {G : Gc} {X : Cx} {F F' F1 F2 : Addr → Prop} {H H' H1 H2 : Hp} {σ σ' : L2.St} {ρ ρ' ρ1 ρ2 : Sl} {fp fp' fp1 fp2 fr fr1 fr2 fr' fo : List Addr} {v v1 v2 : V} {r r1 r2 d : D} {p : Addr} {o : HO}
  {a b c e : Expr} {es : List Expr} {wa wk : WA} {we wo : WE} {ta tb tc : WT} {rest : List Expr} {pos : Pos} {K : PySem.W.Frag} {ca : Cax}

theorem isOw_fz (d : D) : isOw (fz d) = false := by cases d <;> rfl
theorem fzR_pl {ρ : Sl} {r d : D} {ρ' : Sl} (e : fzR ρ r = some (d, ρ')) : isOw d = false := by
  unfold fzR at e
  split at e
  · split at e
    · cases e; exact isOw_fz _
    · cases e
  · cases e; exact isOw_fz _
theorem fzRs_pl : ∀ {rs : List D} {ρ : Sl} {ds : List D} {ρ' : Sl}, fzRs ρ rs = some (ds, ρ') → ∀ d ∈ ds, isOw d = false
  | [], ρ, ds, ρ', e => by cases e; exact fun d z => nomatch z
  | r :: rs, ρ, ds, ρ', e => by
    unfold fzRs at e
    split at e
    · rename_i d1 ρ1 q1
      split at e
      · rename_i d2 ρ2 q2
        cases e
        intro d z
        rcases List.mem_cons.mp z with z | z
        · rw [z]; exact fzR_pl q1
        · exact fzRs_pl q2 d z
      · cases e
    · cases e
theorem RpL.perm {is : List Nat} {vs : List V} {ds : List D} (h : RpL K ca F H vs ds []) : RpL K ca F H (permL is vs) (permL is ds) [] := by
  induction is with
  | nil => exact .nil
  | cons i is ih =>
    unfold permL
    rw [List.filterMap_cons, List.filterMap_cons]
    cases q : ds[i]? with
    | none =>
      have : vs[i]? = none := by
        rw [List.getElem?_eq_none_iff] at q ⊢
        rw [h.length]; exact q
      rw [this]; exact ih
    | some d =>
      obtain ⟨v, e, r⟩ := h.at_ q
      rw [e]
      exact .cons (fp := []) (fq := []) r ih
theorem mem_perm {α : Type} {is : List Nat} {xs : List α} {x : α} (h : x ∈ permL is xs) : x ∈ xs := by
  obtain ⟨i, _, e⟩ := List.mem_filterMap.mp h
  exact List.mem_of_getElem? e
/-- through what a callee does, the slots' own ones stand -/
theorem thru0 (ok : Ok G F2 H2 σ ρ2 fp2) (dj : ∀ a ∈ fo, a ∉ fp2) (nFo : ∀ a ∈ fo, ¬ F2 a) (rch2 : Step G.ca.tb G.F0 G.H0 G.fp0 F2 H2 (fo ++ fp2)) (s : Step G.ca.tb F2 H2 fo F' H' fr') (dm : ∀ a, F' a → ∃ o, H' a = some o) :
    Step G.ca.tb F2 H2 (fo ++ fp2) F' H' (fr' ++ fp2) ∧ Ok G F' H' σ ρ2 fp2 ∧ ∀ a ∈ fr', a ∉ fp2 := by
  have newF : ∀ a, F' a → F2 a ∨ a ∈ fo ∨ H2 a = none := s.new
  have there : ∀ a ∈ fp2, ∃ o, H2 a = some o := fun a z => let ⟨_, o, e, _⟩ := ok.rs.own a z; ⟨o, e⟩
  have st2 : Step G.ca.tb F2 H2 (fo ++ fp2) F' H' (fr' ++ fp2) := ⟨s.mono, fun a z => (newF a z).imp id (Or.imp (List.mem_append_left _) id), fun a o e m c => s.kept a o e m (c.imp (fun n z => n (List.mem_append_left _ z)) id), s.there, fun a z => by
    rcases List.mem_append.mp z with w | w
    · exact (s.fps a w).imp (List.mem_append_left _) id
    · exact .inl (List.mem_append_right _ w), s.tab⟩
  refine ⟨st2, ⟨ok.rs.keep (fun a o e n => s.keep a o e (.inr n)) (fun a o f e _ => s.keep a o e (.inl fun z => nFo a z f)) (fun a u f e d => rd_keep (fun o e _ => s.keep a o e (.inl fun z => nFo a z f)) e d) s.mono (fun a z o e _ => s.keep a o e (.inl fun w => dj a w z)) (fun a z f => ?_), ok.nd, dm, ok.pm, ?_⟩, fun a z y => ?_⟩
  · rcases newF a f with w | w | w
    · exact ok.nf a z w
    · exact dj a w z
    · obtain ⟨o, e⟩ := there a z
      rw [e] at w; cases w
  · exact rch2.trans (st2.less fun a z => List.mem_append_right _ z)
  · rcases s.fps a z with w | w
    · exact dj a w y
    · obtain ⟨o, e⟩ := there a y
      rw [e] at w; cases w

/-- a call whose arguments are shared; is: the parameters' places among the arguments and the defaults -/
def callP (is : List Nat) (dd : List D) (sp : Spd) (Ex : DXs) (Q : D → Sl → Prop) (rs : List D) (ρ : Sl) : Prop := ∃ ds ρ2, fzRs ρ rs = some (ds, ρ2) ∧ sp (permL is (ds ++ dd)) (fun r _ => Q r ρ2) fun c fs xs => Ex c fs xs ρ2
theorem share_args {dvs : List V} {dd : List D} {vs : List V} {rs ds : List D} (rch : Step G.ca.tb G.F0 G.H0 G.fp0 F H fp) (hd : ∀ F H, RpL G.K G.ca F H dvs dd []) (hdd : dd.all (fun d => !isOw d) = true) (en : En G F H fp σ F1 H1 ρ1 fp1 fr) (rr : RrL G F1 H1 σ vs rs fr) (e : fzRs ρ1 rs = some (ds, ρ2)) (is : List Nat) :
    ∃ F2 fp2, En G F H fp σ F2 H1 ρ2 fp2 [] ∧ RpL G.K G.ca F2 H1 (permL is (vs ++ dvs)) (permL is (ds ++ dd)) [] ∧ ∀ d ∈ permL is (ds ++ dd), isOw d = false := by
  obtain ⟨F2, fp2, s, rl⟩ := rr.share en.ok en.nd (fun a z => (rch.trans en.st).fps a (List.mem_append_left _ z)) e
  refine ⟨F2, fp2, en.share s, (rl.app (hd _ _)).perm, fun d z => ?_⟩
  rcases List.mem_append.mp (mem_perm z) with z | z
  · exact fzRs_pl e d z
  · simpa using List.all_eq_true.mp hdd d z
theorem callP_core {sp : Spd} {dvs : List V} {dd : List D} {Ex : DXs} {W : WX} {vs : List V} {rs : List D} {Qd : D → Sl → Prop} {Q : VK} {is : List Nat} (lk : XLk G Ex W) (hd : ∀ F H, RpL G.K G.ca F H dvs dd []) (hdd : dd.all (fun d => !isOw d) = true)
    (rch : Step G.ca.tb G.F0 G.H0 G.fp0 F H fp) (en : En G F H fp σ F1 H1 ρ1 fp1 fr) (rr : RrL G F1 H1 σ vs rs fr) (q : callP is dd sp Ex Qd rs ρ1) (k : ∀ v H' F' ρ' fp' r fr, En G F H fp σ F' H' ρ' fp' fr → Rr G F' H' σ v r fr → Qd r ρ' → Q v H') :
    lift G.K G.ca [] sp (permL is (vs ++ dvs)) H1 Q (fun cls d H => W cls d σ H) := by
  obtain ⟨ds, ρ2, e, q⟩ := q
  obtain ⟨F2, fp2, en2, rl, hpl⟩ := share_args rch hd hdd en rr e is
  have rch2 : Step G.ca.tb G.F0 G.H0 G.fp0 F2 H1 ([] ++ fp2) := rch.trans en2.st
  refine ⟨F2, _, [], _, _, rl, List.nodup_nil, en2.ok.dom, en2.ok.rch.tab G.tb0, fun i d hi _ => hpl d (List.mem_of_getElem? hi), q, fun v H' F' r fr' os fo' s nd' dm rp ro q => ?_, fun c x H' F' fs us xs s dm ex hl rx q => ?_⟩
  · cases ro
    rw [List.append_nil] at s nd'
    obtain ⟨st, ok', dj⟩ := thru0 (fo := []) en2.ok (fun a z => nomatch z) (fun a z => nomatch z) rch2 s dm
    exact k v H' F' ρ2 fp2 r fr' ⟨en2.st.trans st, ok', nodup_of nd' ok'.nd dj⟩ (.inl rp) q
  · obtain ⟨st, ok', dj⟩ := thru0 (fo := []) en2.ok (fun a z => nomatch z) (fun a z => nomatch z) rch2 s dm
    exact lk c x σ H' _ ρ2 fp2 fs us xs ok' ex hl rx q

/-- an instance is made -/
def makeP (c : Str) (is : List Nat) (dd : List D) (sp : Spd) (Ex : DXs) (Q : D → Sl → Prop) (rs : List D) (ρ : Sl) : Prop := ∃ ds ρ2, fzRs ρ rs = some (ds, ρ2) ∧ sp (.ins true c [] [] :: permL is (ds ++ dd)) (fun r os => r = .non ∧ ∃ d, os = [d] ∧ Q d ρ2) fun c fs xs => Ex c fs xs ρ2
theorem makeP_core {c : Str} {sp : Spd} {dvs : List V} {dd : List D} {Ex : DXs} {W : WX} {vs : List V} {rs : List D} {Qd : D → Sl → Prop} {Q : VK} {is : List Nat} (lk : XLk G Ex W) (hd : ∀ F H, RpL G.K G.ca F H dvs dd []) (hdd : dd.all (fun d => !isOw d) = true)
    (rch : Step G.ca.tb G.F0 G.H0 G.fp0 F H fp) (en : En G F H fp σ F1 H1 ρ1 fp1 fr) (rr : RrL G F1 H1 σ vs rs fr) (q : makeP c is dd sp Ex Qd rs ρ1) (k : ∀ v H' F' ρ' fp' r fr, En G F H fp σ F' H' ρ' fp' fr → Rr G F' H' σ v r fr → Qd r ρ' → Q v H') {x dx : Addr} (hx : H1 x = none) (hdx : H1 dx = none) (hne : dx ≠ x) :
    lift G.K G.ca [0] sp (.ref x :: permL is (vs ++ dvs)) (upd (upd H1 dx (.own x)) x (.ins (G.ca c) dx [])) (fun v H' => v = .non ∧ Q (.ref x) H') (fun cls d H => W cls d σ H) := by
  obtain ⟨ds, ρ2, e, q⟩ := q
  obtain ⟨F2, fp2, en2, rl, hpl⟩ := share_args rch hd hdd en rr e is
  have hx' : upd H1 dx (.own x) x = none := by rw [upd_ne hne.symm]; exact hx
  have okA := en2.ok.new (o := .own x) hdx
  have okB := okA.new (o := .ins (G.ca c) dx []) hx'
  have enA := En.tup (o := .own x) en2.ok hdx
  have enB := En.own (o := .ins (G.ca c) dx []) okA hx'
  have st3 := (en2.st.trans enA.st).trans enB.st
  have nFx : ¬ F2 x := (en2.ok.not_none hx).1
  have nfx : x ∉ fp2 := (en2.ok.not_none hx).2
  have rlB : RpL G.K G.ca F2 (upd (upd H1 dx (.own x)) x (.ins (G.ca c) dx [])) (permL is (vs ++ dvs)) (permL is (ds ++ dd)) [] := (rl.new hdx).new hx'
  have rpx : Rp G.K G.ca F2 (upd (upd H1 dx (.own x)) x (.ins (G.ca c) dx [])) (.ref x) (.ins true c [] []) [x] := .iow (dx := dx) (vs := []) upd_same nFx rfl .nil
  have djx : ∀ a ∈ [x], a ∉ fp2 := fun a z => by rw [List.mem_singleton.mp z]; exact nfx
  have nFo : ∀ a ∈ [x], ¬ F2 a := fun a z => by rw [List.mem_singleton.mp z]; exact nFx
  refine ⟨F2, _, [x] ++ [], _, _, .cons rpx rlB, by simp, okB.dom, okB.rch.tab G.tb0, fun i d hi hn => ?_, q, fun v H' F' r fr' os fo' s nd' dm rp ro q => ?_, fun c x H' F' fs us xs s dm ex hl rx q => ?_⟩
  · cases i with
    | zero => exact absurd List.mem_cons_self hn
    | succ i => exact hpl d (List.mem_of_getElem? (by simpa using hi))
  · obtain ⟨st, ok', dj⟩ := thru0 (fo := [x]) okB djx nFo (rch.trans st3) (by simpa using s) dm
    obtain ⟨rfl, d, rfl, q⟩ := q
    cases rp
    cases ro with
    | @cons _ _ u _ _ f1 f2 eu r1 r2 =>
      cases r2
      have : u = .ref x := by simpa using eu.symm
      subst this
      refine ⟨rfl, k _ H' F' ρ2 fp2 d f1 ⟨st3.trans (by simpa using st), ok', nodup_of (by simpa using nd') ok'.nd fun a z => dj a (by simp [z])⟩ (.inl r1) q⟩
  · obtain ⟨st, ok', dj⟩ := thru0 (fo := [_]) okB djx nFo (rch.trans st3) (fr' := []) (by simpa using s) dm
    exact lk c x σ H' _ ρ2 fp2 fs us xs ok' ex hl rx q

/-! ### the bundles -/
structure KCal (P : Program) (w : World) (K : PySem.W.Frag) (ca : Cax) (mg : Str → Option Value) (base : Heap) (k : Nat) (x : Str) (n : Nat) (ks : List Str) (is : List Nat) (dd : List D) (sp : Spd) : Prop where
  ex : ∃ (f : Addr) (fd : FuncData) (ps : List Str) (its : List Value) (dvs : List V), FnG P w K mg base (L2.CX P w) k f fd ps (lift K ca [] sp) ∧ mg x = some (.ref f) ∧ PySem.W.keepIn K (.ref f) = true ∧ KBn K fd ps n ks (fun us ws => permL is (us ++ ws ++ its)) (fun vs zs => permL is (vs ++ zs ++ dvs)) ∧ ∀ F H, RpL K ca F H dvs dd []
structure KMet (P : Program) (w : World) (K : PySem.W.Frag) (ca : Cax) (mg : Str → Option Value) (base : Heap) (k : Nat) (c m : Str) (n : Nat) (ks : List Str) (is : List Nat) (dd : List D) (sp : Spd) : Prop where
  ex : ∃ (f : Addr) (fd : FuncData) (ps : List Str) (its : List Value) (dvs : List V), FnG P w K mg base (L2.CX P w) k f fd ps (lift K ca [] sp) ∧ L2.Meth K (ca c) m f ∧ KBn K fd ps (n + 1) ks (fun us ws => permL is (us ++ ws ++ its)) (fun vs zs => permL is (vs ++ zs ++ dvs)) ∧ ∀ F H, RpL K ca F H dvs dd []
  cls : Cls K (ca c)
/-- is counts the arguments without self -/
structure KMak (P : Program) (w : World) (K : PySem.W.Frag) (ca : Cax) (mg : Str → Option Value) (base : Heap) (k : Nat) (c : Str) (n : Nat) (ks : List Str) (is : List Nat) (dd : List D) (sp : Spd) : Prop where
  ex : ∃ (f : Addr) (fd : FuncData) (ps : List Str) (its : List Value) (dvs : List V), FnG P w K mg base (L2.CX P w) k f fd ps (lift K ca [0] sp) ∧ Mk K (ca c) f ∧ KBn K fd ps (n + 1) ks (fun us ws => us.take 1 ++ permL is (us.drop 1 ++ ws ++ its)) (fun vs zs => vs.take 1 ++ permL is (vs.drop 1 ++ zs ++ dvs)) ∧ (∀ F H, RpL K ca F H dvs dd []) ∧ mg c = some (.ref (ca c))

def wCallP (n m : Nat) (is : List Nat) (dd : List D) (sp : Spd) (Ex : DXs) (wa wk : WA) : WE := fun ρ Q => wa ρ fun rs ρ1 => wk ρ1 fun zs ρ2 => rs.length = n ∧ zs.length = m ∧ callP is dd sp Ex Q (rs ++ zs) ρ2
def wMakeP (c : Str) (n m : Nat) (is : List Nat) (dd : List D) (sp : Spd) (Ex : DXs) (wa wk : WA) : WE := fun ρ Q => wa ρ fun rs ρ1 => wk ρ1 fun zs ρ2 => rs.length = n ∧ zs.length = m ∧ makeP c is dd sp Ex Q (rs ++ zs) ρ2
def wMethP (c mt : Str) (n m : Nat) (is : List Nat) (dd : List D) (sp : Spd) (Ex : DXs) (wo : WE) (wa wk : WA) : WE := fun ρ Q => wo ρ fun x ρ0 => isIns ρ0 x c mt ∧ wa ρ0 fun rs ρ1 => wk ρ1 fun zs ρ2 => rs.length = n ∧ zs.length = m ∧ callP is dd sp Ex Q (x :: rs ++ zs) ρ2
theorem imK {kws : List Keyword} {t u : TA} (h : PK X kws t) (i : ∀ σ H Q, u σ H Q → t σ H Q) : PK X kws u := ⟨fun pos pins s σ H Q I q => h.run pos pins s σ H Q I (i σ H Q q)⟩
theorem dk_nil : PK X [] (LA G wNil) := imK pk_nil la_nil
theorem dk_cons {kws : List Keyword} {nm : Option Str} {kpos : Pos} (ha : PE X e (LE G we)) (hr : PK X kws (LA G wk)) : PK X (⟨nm, e, kpos⟩ :: kws) (LA G (wCons we wk)) := imK (pk_cons ha hr) la_cons
section
variable {k j n m : Nat} {x c mt : Str} {ks : List Str} {is : List Nat} {dd : List D} {sp : Spd} {Ex : DXs} {W : WX} {kws : List Keyword} {p1 apos : Pos}
/-- both argument lists, seen at the end -/
theorem two_lists {R : List V → List V → Hp → Prop} {kk : List D → List D → Sl → Prop} (ok : Ok G F H σ ρ fp) (h : wa ρ fun rs ρ1 => wk ρ1 fun zs ρ2 => kk rs zs ρ2)
    (hR : ∀ vs us H' F' ρ' fp' rs zs f1 f2, En G F H fp σ F' H' ρ' fp' (f1 ++ f2) → RrL G F' H' σ vs rs f1 → RrL G F' H' σ us zs f2 → kk rs zs ρ' → R vs us H') : LA G wa σ H fun vs H1 => LA G wk σ H1 fun us H2 => R vs us H2 :=
  ⟨F, ρ, fp, _, ok, h, fun vs H1 F1 ρ1 fp1 rs f1 en1 rr1 q1 => ⟨F1, ρ1, fp1, _, en1.ok, q1, fun us H2 F2 ρ2 fp2 zs f2 en2 rr2 q2 => hR vs us H2 F2 ρ2 fp2 rs zs f1 f2 (en1.trans en2 fun a z => (rr1.own a z).2.imp fun _ h => h.1) (rr1.step en2.st en1.ok.nf (nodup_d en1.nd)) rr2 q2⟩⟩
theorem d_callP (c : KCal X.prog X.w X.K G.ca X.mg X.base k x n ks is dd sp) (hr : RoomG j X.A) (tk : Takes X W) (lk : XLk G Ex W) (ha : PA X (e :: es) (LA G wa)) (hw : PK X kws (LA G wk)) (hK : X.K = G.K := by rfl) (hk : k ≤ j := by decide) (hm : ks.length = m := by rfl) (hdd : dd.all (fun d => !isOw d) = true := by rfl) (hg : Gl X x := by rfl)
    (hall : (backToKw pos (keywordEach kws X.env)).all (·.1.isSome) = true := by rfl) (hks : (backToKw pos (keywordEach kws X.env)).filterMap (·.1) = ks := by rfl) (hdb : (x == ("__debug__" : Str)) = false := by decide) (he : starEach (e :: es) X.env = (false, eval e X.env) :: starEach es X.env := by rfl)
    (hpl : ((backTo pos (starEach (e :: es) X.env)).any (·.1) || (backToKw pos (keywordEach kws X.env)).any (·.1.isNone)) = false := by rfl) : PE X (.Call (.Name x p1) (e :: es) kws pos) (LE G (wCallP n m is dd sp Ex wa wk)) := by
  obtain ⟨f, fd, ps, its, dvs, F, g, kp, b, hd⟩ := c.ex
  refine imE (pe_callKG F (hr.mono hk) hg g kp b (fun σ => passAt tk σ) ha hw hall hks hdb he hpl) fun σ H Q q => ?_
  obtain ⟨F0, ρ, fp, Qd, ok, h, kk⟩ := q
  refine two_lists ok h fun vs us H' F' ρ' fp' rs zs f1 f2 en r1 r2 ⟨l1, l2, q⟩ => ⟨r1.len.trans l1, (r2.len.trans l2).trans hm.symm, ?_⟩
  exact hK ▸ callP_core (vs := vs ++ us) lk (hK ▸ hd) hdd ok.rch en (r1.app r2) q kk
theorem d_makeP (mk : KMak X.prog X.w X.K G.ca X.mg X.base k c n ks is dd sp) (hr : RoomG j X.A) (tk : Takes X W) (lk : XLk G Ex W) (ha : PA X (e :: es) (LA G wa)) (hw : PK X kws (LA G wk)) (hK : X.K = G.K := by rfl) (hk : k + 1 ≤ j := by decide) (hm : ks.length = m := by rfl) (hdd : dd.all (fun d => !isOw d) = true := by rfl) (hg : Gl X c := by rfl)
    (hall : (backToKw pos (keywordEach kws X.env)).all (·.1.isSome) = true := by rfl) (hks : (backToKw pos (keywordEach kws X.env)).filterMap (·.1) = ks := by rfl) (hdb : (c == ("__debug__" : Str)) = false := by decide) (he : starEach (e :: es) X.env = (false, eval e X.env) :: starEach es X.env := by rfl)
    (hpl : ((backTo pos (starEach (e :: es) X.env)).any (·.1) || (backToKw pos (keywordEach kws X.env)).any (·.1.isNone)) = false := by rfl) : PE X (.Call (.Name c p1) (e :: es) kws pos) (LE G (wMakeP c n m is dd sp Ex wa wk)) := by
  obtain ⟨f, fd, ps, its, dvs, F, M, b, hd, g⟩ := mk.ex
  refine imE (pe_makeG M F (hr.mono hk) hg g b (fun σ => passAt tk σ) ha hw hall hks hdb he hpl) fun σ H Q q => ?_
  obtain ⟨F0, ρ, fp, Qd, ok, h, kk⟩ := q
  refine two_lists ok h fun vs us H' F' ρ' fp' rs zs f1 f2 en r1 r2 ⟨l1, l2, q⟩ => ⟨r1.len.trans l1, (r2.len.trans l2).trans hm.symm, fun y dx hx hdx hne => ?_⟩
  exact hK ▸ makeP_core (vs := vs ++ us) lk (hK ▸ hd) hdd ok.rch en (r1.app r2) q kk hx hdx hne
theorem d_makeP0 (mk : KMak X.prog X.w X.K G.ca X.mg X.base k c 0 ks is dd sp) (hr : RoomG j X.A) (tk : Takes X W) (lk : XLk G Ex W) (hw : PK X kws (LA G wk)) (hK : X.K = G.K := by rfl) (hk : k + 1 ≤ j := by decide) (hm : ks.length = m := by rfl) (hdd : dd.all (fun d => !isOw d) = true := by rfl) (hg : Gl X c := by rfl)
    (hall : (backToKw pos (keywordEach kws X.env)).all (·.1.isSome) = true := by rfl) (hks : (backToKw pos (keywordEach kws X.env)).filterMap (·.1) = ks := by rfl) (hdb : (c == ("__debug__" : Str)) = false := by decide)
    (hpl : ((backTo pos (starEach [] X.env)).any (·.1) || (backToKw pos (keywordEach kws X.env)).any (·.1.isNone)) = false := by rfl) : PE X (.Call (.Name c p1) [] kws pos) (LE G (wMakeP c 0 m is dd sp Ex wNil wk)) := by
  obtain ⟨f, fd, ps, its, dvs, F, M, b, hd, g⟩ := mk.ex
  refine imE (pe_makeG0 M F (hr.mono hk) hg g b (fun σ => passAt tk σ) hw hall hks hdb hpl) fun σ H Q q => ?_
  obtain ⟨F0, ρ, fp, Qd, ok, h, kk⟩ := q
  have := two_lists (wa := wNil) ok h (R := fun vs us H2 => vs = [] → us.length = ks.length ∧ ∀ x dx, H2 x = none → H2 dx = none → dx ≠ x → lift G.K G.ca [0] sp (.ref x :: permL is (us ++ dvs)) (upd (upd H2 dx (.own x)) x (.ins (G.ca c) dx [])) (fun v H3 => v = .non ∧ Q (.ref x) H3) (fun cls d H => W cls d σ H)) fun vs us H' F' ρ' fp' rs zs f1 f2 en r1 r2 ⟨l1, l2, q⟩ e => by
    subst e
    refine ⟨(r2.len.trans l2).trans hm.symm, fun y dx hx hdx hne => ?_⟩
    have := makeP_core (vs := [] ++ us) lk (hK ▸ hd) hdd ok.rch en (r1.app r2) q kk hx hdx hne
    exact this
  have := la_nil σ H _ this
  obtain ⟨F1, ρ1, fp1, Q1, ok1, h1, k1⟩ := this
  exact ⟨F1, ρ1, fp1, Q1, ok1, h1, fun us H2 F2 ρ2 fp2 zs f2 en2 rr2 q2 => let z := k1 us H2 F2 ρ2 fp2 zs f2 en2 rr2 q2 rfl; ⟨rfl, z.1, hK ▸ z.2⟩⟩
theorem d_methP {o : Expr} {pl : Sem Bool} (me : KMet X.prog X.w X.K G.ca X.mg X.base k c mt n ks is dd sp) (hr : RoomG j X.A) (tk : Takes X W) (lk : XLk G Ex W) (he : PE X o (LE G wo)) (ha : PA X (e :: es) (LA G wa)) (hw : PK X kws (LA G wk)) (hK : X.K = G.K := by rfl) (hk : k ≤ j := by decide) (hm : ks.length = m := by rfl) (hdd : dd.all (fun d => !isOw d) = true := by rfl)
    (hall : (backToKw pos (keywordEach kws X.env)).all (·.1.isSome) = true := by rfl) (hks : (backToKw pos (keywordEach kws X.env)).filterMap (·.1) = ks := by rfl) (hst : starEach (e :: es) X.env = (false, eval e X.env) :: starEach es X.env := by rfl)
    (hpl : ((backTo pos (starEach (e :: es) X.env)).any (·.1) || (backToKw pos (keywordEach kws X.env)).any (·.1.isNone)) = false := by rfl) (ht : MRunK X o mt (e :: es) kws apos pos pl := by rfl) :
    PE X (.Call (.Attribute o mt apos) (e :: es) kws pos) (LE G (wMethP c mt n m is dd sp Ex wo wa wk)) := by
  obtain ⟨f, fd, ps, its, dvs, F, hme, b, hd⟩ := me.ex
  refine ⟨fun pins s σ H Q I q => ?_⟩
  obtain ⟨F0, ρ, fp, Qd, ok, h, kk⟩ := q
  have key : LE G wo σ H fun v0 H0 => ∃ a dx fs, v0 = .ref a ∧ H0 a = some (.ins (G.ca c) dx fs) ∧ fs.lookup mt = none ∧ LA G wa σ H0 fun vs H2 => LA G wk σ H2 fun us H3 => vs.length = n ∧ us.length = ks.length ∧ lift G.K G.ca [] sp (permL is (.ref a :: vs ++ us ++ dvs)) H3 Q (fun cls d H => W cls d σ H) := by
    refine ⟨F0, ρ, fp, _, ok, h, fun v0 H0 F1 ρ0 fp0 r0 f0 en0 rr0 ⟨hi, q⟩ => ?_⟩
    obtain ⟨a, dx, fs, rfl, hz, hl⟩ := hi.at_ en0.ok rr0
    refine ⟨a, dx, fs, rfl, hz, hl, two_lists en0.ok q fun vs us H' F' ρ' fp' rs zs f1 f2 en r1 r2 ⟨l1, l2, q⟩ => ⟨r1.len.trans l1, (r2.len.trans l2).trans hm.symm, ?_⟩⟩
    exact callP_core (vs := .ref a :: vs ++ us) lk (hK ▸ hd) hdd ok.rch (en0.trans en rr0.dom) (RrL.cons (rr0.step en.st en0.ok.nf (nodup_d en0.nd)) (r1.app r2)) q kk
  refine PySem.W.methodCall_KW (pl := pl) (thn (he.run pins s σ H _ I key) fun u s1 ⟨x, H1, I1, rx, a, dx, fs, ex, ea, l, q⟩ => ?_) ht
  · subst ex
    have hu : u = Value.ref a := rx
    subst hu
    refine getmeth_ok I1 ea me.cls hme l ?_
    refine PySem.W.callWith_KW (first := [.ref a]) (h₀ := X.base) I.ok.mod.kin hme.kp hall (thn (ha.run pos pins s1 σ H1 _ I1 q) fun us s2 ⟨vs, H2, I2, r, q2⟩ => thn (hw.run pos pins s2 σ H2 _ I2 q2) fun ws s3 ⟨zs, H3, I3, rz, l1, l2, q3⟩ => ⟨I3.kIn, ?_⟩) hpl hst
    rw [hks]
    rw [← hK] at q3
    exact run_kwG (E := fun σ cls d H => W cls d σ H) (us := .ref a :: us) (vs := .ref a :: vs) F (hr.mono hk) b (passAt tk σ) I3 (.cons (show RelV (.ref a) (.ref a) from rfl) r) rz (congrArg Nat.succ l1) l2 q3
end
end
end M
/-! M17: dicts with keys that are ints or texts. -/
namespace M
open PySem PySem.Spec PyProof.Rows L2

def keyOf : D → Option Key
  | .int i => some (.inl i)
  | .str x => some (.inr x)
  | _ => none
def keyD : Key → D
  | .inl i => .int i
  | .inr x => .str x
def valD {α : Type} : List Key → List α → Key → Option α
  | j :: ks, x :: xs, k => if j = k then some x else valD ks xs k
  | _, _, _ => none
def hasK (ks : List Key) (k : Key) : Bool := ks.any fun j => decide (j = k)
def putKs (ks : List Key) (k : Key) : List Key := if hasK ks k = true then ks else ks ++ [k]
def repX {α : Type} : List Key → List α → Key → α → List α
  | j :: ks, x :: xs, k, v => (if j = k then v else x) :: repX ks xs k v
  | _, _, _, _ => []
def putXs {α : Type} (ks : List Key) (xs : List α) (k : Key) (v : α) : List α := if hasK ks k = true then repX ks xs k v else xs ++ [v]
theorem zip_any {us : List V} {k : Key} : ∀ {ks : List Key} {us : List V}, ks.length = us.length → ((ks.zip us).any fun kv => decide (kv.1 = k)) = hasK ks k
  | [], [], _ => rfl
  | j :: ks, u :: us, h => by
    show (decide (j = k) || (ks.zip us).any _) = (decide (j = k) || hasK ks k)
    rw [zip_any (us := us) (by simpa using h)]
theorem zip_rep {k : Key} {v : V} : ∀ {ks : List Key} {us : List V}, ks.length = us.length → (ks.zip us).map (fun kv => if kv.1 = k then (kv.1, v) else kv) = ks.zip (repX ks us k v)
  | [], [], _ => rfl
  | j :: ks, u :: us, h => by
    show (if j = k then (j, v) else (j, u)) :: (ks.zip us).map _ = (j, if j = k then v else u) :: ks.zip (repX ks us k v)
    rw [zip_rep (by simpa using h)]
    by_cases e : j = k
    · rw [if_pos e, if_pos e]
    · rw [if_neg e, if_neg e]
theorem rep_len {α : Type} {k : Key} {v : α} : ∀ {ks : List Key} {us : List α}, ks.length = us.length → (repX ks us k v).length = us.length
  | [], [], _ => rfl
  | j :: ks, u :: us, h => by
    show (repX ks us k v).length + 1 = us.length + 1
    rw [rep_len (by simpa using h)]
theorem putK_zip {ks : List Key} {us : List V} {k : Key} {v : V} (h : ks.length = us.length) : L2.putK (ks.zip us) k v = (putKs ks k).zip (putXs ks us k v) := by
  unfold L2.putK putKs putXs
  rw [zip_any (us := us) h]
  by_cases e : hasK ks k = true
  · rw [if_pos e, if_pos e, if_pos e, zip_rep h]
  · rw [if_neg e, if_neg e, if_neg e, List.zip_append h]; rfl
theorem putK_len {α : Type} {ks : List Key} {us : List α} {k : Key} {v : α} (h : ks.length = us.length) : (putKs ks k).length = (putXs ks us k v).length := by
  unfold putKs putXs
  by_cases e : hasK ks k = true
  · rw [if_pos e, if_pos e, rep_len h, h]
  · rw [if_neg e, if_neg e]; simp [h]
theorem valV_zip {k : Key} : ∀ {ks : List Key} {us : List V}, valV (ks.zip us) k = valD ks us k
  | [], _ => by cases ‹List V› <;> rfl
  | j :: ks, [] => rfl
  | j :: ks, u :: us => by
    show valV ((j, u) :: ks.zip us) k = if j = k then some u else valD ks us k
    by_cases e : j = k
    · rw [valV_pos e, if_pos e]
    · rw [valV_neg e, if_neg e, valV_zip]

section
variable {G : Gc} {X : Cx} {F F' F1 F2 : Addr → Prop} {H H' H1 H2 : Hp} {σ σ' : L2.St} {ρ ρ' ρ1 ρ2 : Sl} {fp fp' fp1 fp2 fr fr1 fr2 fr' fo : List Addr} {v v1 v2 : V} {r r1 r2 d : D} {p : Addr} {o : HO}
  {a b c e : Expr} {es : List Expr} {wa wb we wo wk : WE} {ta tb tc : WT} {rest : List Expr} {pos : Pos} {K : PySem.W.Frag} {ca : Cax}
theorem Rr.key {k : Key} (h : Rr G F H σ v r fr) (e : keyOf r = some k) : v = kV k ∧ fr = [] := by
  cases r <;> (try (cases e; done))
  · obtain ⟨rfl, rfl⟩ := h.int; cases e; exact ⟨rfl, rfl⟩
  · obtain ⟨rfl, rfl⟩ := h.str; cases e; exact ⟨rfl, rfl⟩
theorem Rp.dct {o : Bool} {ks : List Key} {xs : List D} (h : Rp K ca F H v (.dct o ks xs) fr) : ∃ a us, v = .ref a ∧ Rd H a (.dK (ks.zip us)) ∧ ks.length = us.length ∧ RpL K ca F H us xs [] := by
  cases h with
  | dfz e _ l r => exact ⟨_, _, rfl, e, l, r⟩
  | dow e _ l r => exact ⟨_, _, rfl, .inl e, l, r⟩
theorem RpL.valD {k : Key} : ∀ {ks : List Key} {xs : List D} {us : List V}, RpL K ca F H us xs [] → ∀ {d : D}, M.valD ks xs k = some d → ∃ v, M.valD ks us k = some v ∧ Rp K ca F H v d []
  | [], xs, us, _, d, e => by cases xs <;> cases e
  | j :: ks, [], us, _, d, e => by cases e
  | j :: ks, x :: xs, u :: us, h, d, e => by
    obtain ⟨r, t⟩ := h.nil_of
    unfold M.valD at e ⊢
    by_cases q : j = k
    · rw [if_pos q] at e ⊢; cases e; exact ⟨u, rfl, r⟩
    · rw [if_neg q] at e ⊢; exact RpL.valD t e
theorem valD_some {α β : Type} {k : Key} : ∀ {ks : List Key} {xs : List α} {us : List β}, xs.length = us.length → (valD ks xs k).isSome = (valD ks us k).isSome
  | [], xs, us, _ => by cases xs <;> cases us <;> rfl
  | j :: ks, [], [], _ => rfl
  | j :: ks, x :: xs, u :: us, h => by
    unfold valD
    by_cases q : j = k
    · rw [if_pos q, if_pos q]; rfl
    · rw [if_neg q, if_neg q]; exact valD_some (by simpa using h)
theorem RpL.rep {k : Key} (rv : Rp K ca F H v d []) : ∀ {ks : List Key} {xs : List D} {us : List V}, RpL K ca F H us xs [] → RpL K ca F H (repX ks us k v) (repX ks xs k d) []
  | [], xs, us, _ => by cases xs <;> cases us <;> exact .nil
  | j :: ks, [], [], _ => .nil
  | j :: ks, x :: xs, u :: us, h => by
    obtain ⟨r, t⟩ := h.nil_of
    unfold repX
    refine .cons (fp := []) (fq := []) ?_ (RpL.rep rv t)
    by_cases q : j = k
    · rw [if_pos q, if_pos q]; exact rv
    · rw [if_neg q, if_neg q]; exact r
theorem RpL.putXs {k : Key} {ks : List Key} {xs : List D} {us : List V} (h : RpL K ca F H us xs []) (rv : Rp K ca F H v d []) : RpL K ca F H (M.putXs ks us k v) (M.putXs ks xs k d) [] := by
  unfold M.putXs
  by_cases e : hasK ks k = true
  · rw [if_pos e, if_pos e]; exact RpL.rep rv h
  · rw [if_neg e, if_neg e]; exact h.app (.one rv)

/-! ### d[k], k in d, {} -/
def rIxDk : R2 := fun x y H Q => ∃ a v, x = .ref a ∧ DGet H a y (some v) ∧ Q v H
theorem ix_dict (hu : X.A.units + 1 < cLine) : IxR X rIxDk := by
  intro value slice pins s σ H x y v u Q I rx ry h hs
  obtain ⟨a, w, rfl, g, q⟩ := h
  obtain rfl : v = Value.ref a := rx
  unfold subscriptTail
  refine wpAny_bind ?_
  rw [getitemInPython_of_ne (dict_typeIs I g).not_modules]
  refine wpAny_bind (wpAny_specialOf (dict_typeIs I g) PySem.F.slot_dict_getitem.lookup ?_)
  have fin : wpAny (model X.prog X.w) X.A (subscripted slice false (.ref a) u) (fun r s₃ => wpAny (model X.prog X.w) X.A (letTemporaryGo value (.ref a) r >>= fun _ => pure r) (EP X pins σ Q) X.xe s₃) X.xe s := by
    rw [hs]
    exact wpAny_operating (d_getItem hu I g ry fun w' s3 I3 rw' => wpAny_bind (wpAny_letTemporaryGo (wpAny_pure ⟨w, H, I3, rw', q⟩)))
  first
    | exact wpAny_pure (wpAny_bind fin)
    | exact wpAny_bind (wpAny_pure (wpAny_bind fin))
    | exact wpAny_bind fin
def oIxD : O2 := fun ρ x y K => ∃ o ks xs k d, pk ρ x = some (.dct o ks xs) ∧ keyOf y = some k ∧ valD ks xs k = some d ∧ K d
theorem oIxD_ok : O2Ok G rIxDk oIxD := fun F H σ ρ fp v1 v2 x y f1 f2 Kd Q ok r1 r2 nd h kk => by
  obtain ⟨o, ks, xs, k, d, e1, e2, e3, q⟩ := h
  obtain ⟨rfl, _⟩ := r2.key e2
  obtain ⟨_, rp, _⟩ := r1.see ok e1
  obtain ⟨a, us, rfl, hd, l, rl⟩ := rp.dct
  obtain ⟨w, ew, rw_⟩ := rl.valD e3
  exact ⟨a, w, rfl, .inl ⟨_, k, hd, rfl, by rw [valV_zip, ew]⟩, kk w H F d [] (En.refl ok) rw_ q⟩
def oIxA : O2 := oOr oIx oIxD
theorem d_ixA (hu : X.A.units + 64 < cLine) (hK : X.K = G.K) (ha : PE X a (LE G wa)) (hb : PE X b (LE G wb)) (hs : PlainIx b := by exact fun _ _ => rfl) : PE X (.Subscript a b pos) (LE G (wOp oIxA wa wb)) :=
  imE (pe_ix (ix_seq.or (ix_dict (by omega))) ha hb hs) (LE.op ((hK ▸ oIx_ok).or oIxD_ok))
def rInDk (g : Bool → Bool) : R2 := fun y x H Q => ∃ a o, x = .ref a ∧ DGet H a y o ∧ Q (.bl (g o.isSome)) H
theorem op_inDk (hu : X.A.units + 1 < cLine) : OpR X (compareOp .In) (rInDk id) := fun pins s σ H x y v u Q I rx ry h => by
  obtain ⟨a, o, rfl, g, q⟩ := h
  obtain rfl : u = Value.ref a := ry
  exact d_in hu I g rx fun s3 I3 => ⟨.bl o.isSome, H, I3, rfl, q⟩
theorem op_notInDk (hu : X.A.units + 1 < cLine) : OpR X (compareOp .NotIn) (rInDk not) := fun pins s σ H x y v u Q I rx ry h => by
  obtain ⟨a, o, rfl, g, q⟩ := h
  obtain rfl : u = Value.ref a := ry
  exact d_notIn hu I g rx fun s3 I3 => ⟨.bl (!o.isSome), H, I3, rfl, q⟩
def oInDk (g : Bool → Bool) : O2 := fun ρ x y K => ∃ o ks xs k, pk ρ y = some (.dct o ks xs) ∧ keyOf x = some k ∧ K (.bl (g (valD ks xs k).isSome))
theorem oInDk_ok (g : Bool → Bool) : O2Ok G (rInDk g) (oInDk g) := fun F H σ ρ fp v1 v2 x y f1 f2 Kd Q ok r1 r2 nd h kk => by
  obtain ⟨o, ks, xs, k, e1, e2, q⟩ := h
  obtain ⟨rfl, _⟩ := r1.key e2
  obtain ⟨_, rp, _⟩ := r2.see ok e1
  obtain ⟨a, us, rfl, hd, l, rl⟩ := rp.dct
  refine ⟨a, valD ks us k, rfl, .inl ⟨_, k, hd, rfl, by rw [valV_zip]⟩, ?_⟩
  rw [← valD_some rl.length.symm]
  exact kk _ H F _ [] (En.refl ok) (.bl _) q
def oInA : O2 := oOr oIn (oInDk id)
def oNotInA : O2 := oOr oNotIn (oInDk not)
theorem c_inA (hK : X.K = G.K) (hu : X.A.units + 65 < cLine) : CmpR X G .In oInA := let ⟨r, h1, h2⟩ := (c_in (G := G) hK hu).ex; ⟨_, h1.or (op_inDk (by omega)), h2.or (oInDk_ok id)⟩
theorem c_notInA (hK : X.K = G.K) (hu : X.A.units + 65 < cLine) : CmpR X G .NotIn oNotInA := let ⟨r, h1, h2⟩ := (c_notIn (G := G) hK hu).ex; ⟨_, h1.or (op_notInDk (by omega)), h2.or (oInDk_ok not)⟩
def wDn : WE := fun ρ Q => Q (.dct true [] []) ρ
theorem d_dn : PE X (.Dict [] [] pos) (LE G wDn) := imE pe_dnewK fun σ H Q q => by
  obtain ⟨F, ρ, fp, Qd, ok, h, k⟩ := q
  exact fun q hq => k _ _ F ρ fp _ [q] (En.own ok hq) (.inl (.dow (vs := []) upd_same (ok.not_none hq).1 rfl .nil)) h

/-! ### xs[i] = .., d[k] = .. -/
def rSetA : TSet := fun o i v H Q => rSetL o i v H Q ∨ rSetD o i v H Q
theorem set_any (hu : X.A.units + 64 < cLine) : PSet X rSetA := fun pins s σ H o i v ov iv u Q I ro ri rv h => h.elim (set_list pins s σ H o i v ov iv u Q I ro ri rv) (set_dict (by omega) pins s σ H o i v ov iv u Q I ro ri rv)
def gSetA (wo wi : WE) : WG := fun r ρ Q => wo ρ fun o ρ1 => wi ρ1 fun i ρ2 => (∃ j n xs k d ρ3, o = .sl j ∧ i = .int n ∧ fzR ρ2 r = some (d, ρ3) ∧ ρ3[j]? = some (some (.lst true xs)) ∧ ixN xs.length n = some k ∧ Q (ρ3.set j (some (.lst true (xs.set k d))))) ∨
  ∃ j ks xs k d ρ3, o = .sl j ∧ keyOf i = some k ∧ fzR ρ2 r = some (d, ρ3) ∧ ρ3[j]? = some (some (.dct true ks xs)) ∧ ks.length < sizeLine ∧ Q (ρ3.set j (some (.dct true (putKs ks k) (putXs ks xs k d))))
theorem low_dct {a : Addr} {ks : List Key} {xs : List D} : ∀ fp, Rp K ca F H (.ref a) (.dct true ks xs) fp → fp = [a] := fun fp h => by cases h; rfl
theorem dg_setA {o i : Expr} {wo wi : WE} (hg : PG X (.Subscript o i pos) (gSub (LE G wo) (LE G wi) rSetA)) : PG X (.Subscript o i pos) (LG G (gSetA wo wi) []) := imG hg fun v σ H Q q => by
  obtain ⟨F, ρ, fp, r, fr, Qd, ok, rr, ⟨nd, hr⟩, h, k⟩ := q
  refine ⟨F, ρ, fp, _, ok, h, fun vo H1 F1 ρ1 fp1 o f1 en1 ro q => ?_⟩
  refine ⟨F1, ρ1, fp1, _, en1.ok, q, fun vi H2 F2 ρ2 fp2 i f2 en2 ri q => ?_⟩
  have st : Step G.ca.tb F H fp F2 H2 fp2 := en1.st0.trans en2.st0
  have rr2 := rr.step st ok.nf (nodup_d nd)
  have nd2 : (fr ++ fp2).Nodup := nodup_of (nodup_l nd) en2.ok.nd fun a z y => by
    rcases st.fps a y with w | w
    · exact nodup_d nd a z w
    · obtain ⟨u, eu⟩ := rr.dom a z
      rw [eu] at w; cases w
  have s1 : Step G.ca.tb F H (fr ++ fp) F2 H2 (fr ++ fp2) := st.frame fr
  rcases q with ⟨j, n, xs, kk, d, ρ3, rfl, rfl, e3, e4, ek, q⟩ | ⟨j, ks, xs, kk, d, ρ3, rfl, ei, e3, e4, hz, q⟩
  · obtain ⟨hσ, rfl⟩ := ro.sl
    obtain ⟨rfl, rfl⟩ := ri.int
    obtain ⟨F3, fp3, s3, rp⟩ := rr2.share en2.ok nd2 hr e3
    obtain ⟨a, us, rfl, ha, rl, nF, _⟩ := s3.ok.own hσ e4
    obtain ⟨fp4, en4⟩ := s3.ok.setL (fr := []) e4 hσ ha nF (rl.set rp kk)
    refine .inl ⟨a, us, n, kk, rfl, rfl, ha, by rw [rl.length]; exact ek, k σ _ F3 _ fp4 ?_ en4.ok off_refl q⟩
    have s4 : Step G.ca.tb F3 H2 fp3 F3 (upd H2 a (.lst (us.set kk v))) fp4 := by simpa using en4.st
    exact s1.trans (s3.step.trans s4)
  · obtain ⟨hσ, rfl⟩ := ro.sl
    obtain ⟨rfl, rfl⟩ := ri.key ei
    obtain ⟨F3, fp3, s3, rp⟩ := rr2.share en2.ok nd2 hr e3
    obtain ⟨l, fq, r', e1, g1, _, g3, _⟩ := s3.ok.rs.at_ (i := j) (by rw [List.getElem?_eq_some_iff] at e4; exact e4.1)
    obtain ⟨v', ev, rpi⟩ := g1 _ e4
    rw [hσ] at ev; cases ev
    cases rpi with
    | @dow a _ us _ ha nF ll rl =>
      obtain ⟨fp4, en4⟩ := s3.ok.change (fr := []) e4 hσ low_dct ha trivial (u := .dK ((putKs ks kk).zip (putXs ks us kk v))) (d1 := .dct true (putKs ks kk) (putXs ks xs kk d))
        (.dow upd_same nF (putK_len ll) ((rl.putXs rp).mut ha trivial nF))
      refine .inr ⟨a, _, rfl, .inl ⟨_, kk, ha, rfl, by rw [List.length_zip]; omega, rfl⟩, ?_⟩
      rw [putK_zip ll]
      refine k σ _ F3 _ fp4 ?_ en4.ok off_refl q
      have s4 : Step G.ca.tb F3 H2 fp3 F3 (upd H2 a (.dK ((putKs ks kk).zip (putXs ks us kk v)))) fp4 := by simpa using en4.st
      exact s1.trans (s3.step.trans s4)

/-! ### {k: v for ..} -/
def wDc (wi : WI) (g : WG) (wt : WT) (wk we : WE) (vs : List Nat) : WE := fun ρ Q => wi ρ fun ds ρ1 => ∃ I : Nat → List Key → List D → Sl → Prop, I 0 [] [] (wip ρ1 vs) ∧
  (∀ i d ks xs ρ, ds[i]? = some d → I i ks xs ρ → g d ρ fun ρ2 => wt ρ2 fun b ρ3 => if b = true then wk ρ3 fun x ρ4 => we ρ4 fun r ρ5 => ∃ k y ρ6, keyOf x = some k ∧ fzR ρ5 r = some (y, ρ6) ∧ ks.length < sizeLine ∧ I (i + 1) (putKs ks k) (putXs ks xs k y) (wip ρ6 vs) else I (i + 1) ks xs (wip ρ3 vs)) ∧
  ∀ ks xs ρ, I ds.length ks xs ρ → Q (.dct true ks xs) (rst ρ1 ρ vs)
theorem le_dc {wi : WI} {g : WG} {S : List Nat} {wt : WT} {vs : List Nat} (hS : ∀ j ∈ S, j ∈ vs) (hpm : ∀ p ∈ G.pm, p.1 ∉ vs) : ∀ σ H Q, LE G (wDc wi g wt wk we vs) σ H Q → tDc (LW G wi) (LG G g S) (LT G wt) (LE G wk) (LE G we) vs σ H Q := fun σ H Q q => by
  obtain ⟨F, ρ, fp, Qd, ok, h, k⟩ := q
  refine ⟨F, ρ, fp, _, ok, h, fun J H1 F1 ρ1 fp1 ds en it q => ?_⟩
  obtain ⟨I, i0, turn, done⟩ := q
  intro q hq
  have oF : Off vs σ (wipe σ vs) := ⟨by rw [wipe_length], fun j hj => wipe_off σ hj⟩
  have oB : Off vs (wipe σ vs) σ := ⟨by rw [wipe_length], fun j hj => (wipe_off σ hj).symm⟩
  refine ⟨fun i m H' => m = ds.length - i ∧ i ≤ ds.length ∧ ∃ F' ρ' fp' ks xs us, Step G.ca.tb F1 H1 fp1 F' H' (q :: fp') ∧ Ok G F' H' σ (wip ρ' vs) fp' ∧ H' q = some (.dK (ks.zip us)) ∧ ks.length = us.length ∧ RpL G.K G.ca F' H' us xs [] ∧ ¬ F' q ∧ q ∉ fp' ∧ I i ks xs (wip ρ' vs), ?_, ?_⟩
  · obtain ⟨fp2, ok2, sub⟩ := en.ok.wip vs
    have nn := en.ok.not_none hq
    refine ⟨_, rfl, Nat.zero_le _, F1, ρ1, fp2, [], [], [], ?_, ok2.new hq, upd_same, rfl, .nil, nn.1, fun z => nn.2 (sub q z), i0⟩
    have := (En.own (o := .dK []) en.ok hq).st
    exact this.less fun a z => by
      rcases List.mem_cons.mp z with z | z
      · simp [z]
      · simp [sub a z]
  · rintro i m H2 ⟨rfl, hi, F2, ρ2, fp2, ks, xs, us, s2, ok2, eq, ll, rl, nF, nf, inv⟩
    have s2' : Step G.ca.tb F1 H1 fp1 F2 H2 fp2 := s2.less fun a z => List.mem_cons_of_mem _ z
    by_cases hlt : i < ds.length
    · obtain ⟨go, yl⟩ := it.go i ds[i] F2 H2 σ (wip ρ2 vs) fp2 _ _ en.ok.nf s2' ok2 (by simp [hlt])
      refine .inr ⟨go, fun H' => ∃ F' ρ' fp' ks xs us, Step G.ca.tb F1 H1 fp1 F' H' (q :: fp') ∧ Ok G F' H' σ (wip ρ' vs) fp' ∧ H' q = some (.dK (ks.zip us)) ∧ ks.length = us.length ∧ RpL G.K G.ca F' H' us xs [] ∧ ¬ F' q ∧ q ∉ fp' ∧ I (i + 1) ks xs (wip ρ' vs), fun H' z => ⟨_, by omega, rfl, hlt, z⟩, fun x H3 y => ?_⟩
      obtain ⟨F3, en3, rp⟩ := yl x H3 y
      refine ⟨F3, wip ρ2 vs, fp2, ds[i], [], _, en3.ok.off oF hpm, .inl rp, ⟨by simpa using en3.ok.nd, fun a z => nomatch z⟩, turn i ds[i] ks xs (wip ρ2 vs) (by simp [hlt]) inv, fun σ4 H4 F4 ρ4 fp4 s4 ok4 of4 q4 => ?_⟩
      refine ⟨by rw [wipe_eq of4 hS, wipe_wipe], F4, ρ4, fp4, _, ok4, q4, fun b H5 F5 ρ5 fp5 en5 q5 => ?_⟩
      have sA : Step G.ca.tb F2 H2 fp2 F5 H5 fp5 := (en3.st0.trans s4).trans en5.st0
      have oBk : Off vs σ4 σ := ⟨by rw [of4.len, wipe_length], fun j hj => by rw [of4.at_ j fun z => hj (hS j z), wipe_off σ hj]⟩
      have sB : Step G.ca.tb F1 H1 fp1 F5 H5 (q :: fp5) := by
        have t := s2'.trans sA
        refine ⟨t.mono, t.new, t.kept, t.there, fun a z => ?_, t.tab⟩
        rcases List.mem_cons.mp z with z | z
        · rw [z]; exact .inr hq
        · exact t.fps a z
      obtain ⟨e5, nF5, nf5⟩ := sA.apart eq nF nf
      cases b with
      | false =>
        obtain ⟨fp6, ok6, sub6⟩ := en5.ok.wip vs
        refine ⟨F5, ρ5, fp6, ks, xs, us, sB.less fun a z => ?_, ok6.off oBk hpm, e5, ll, rl.step sA ok2.nf (fun a z => nomatch z), nF5, fun z => nf5 (sub6 q z), q5⟩
        rcases List.mem_cons.mp z with z | z
        · simp [z]
        · simp [sub6 a z]
      | true =>
        refine ⟨F5, ρ5, fp5, _, en5.ok, q5, fun vk Hk Fk ρk fpk rk frk enk rrk qk => ?_⟩
        refine ⟨Fk, ρk, fpk, _, enk.ok, qk, fun v H6 F6 ρ6 fp6 r fr6 en6 rr6 q6 => ?_⟩
        obtain ⟨kk, y, ρ7, ek, e7, z7, q7⟩ := q6
        obtain ⟨rfl, rfl⟩ := rrk.key ek
        obtain ⟨F7, fp7, s7, rp7⟩ := rr6.share en6.ok en6.nd (en6.hr enk.ok) e7
        have sC : Step G.ca.tb F2 H2 fp2 F7 H6 fp7 := sA.trans (enk.st0.trans (en6.st.trans s7.step))
        obtain ⟨e8, nF8, nf8⟩ := sC.apart eq nF nf
        obtain ⟨fp8, ok8, sub8⟩ := s7.ok.wip vs
        refine ⟨_, kk, rfl, e8, by rw [List.length_zip]; omega, F7, ρ7, fp8, putKs ks kk, putXs ks xs kk y, putXs ks us kk v, ?_, ?_, by rw [upd_same, putK_zip ll], putK_len ll, ?_, nF8, fun z => nf8 (sub8 q z), q7⟩
        · have t := s2'.trans sC
          refine ⟨t.mono, t.new, fun a o eo m c => ?_, fun a o eo => ?_, fun a z => ?_, fun h => tabs_put e8 trivial (t.tab h)⟩
          · rw [upd_ne (ne_of_none eo hq)]; exact t.kept a o eo m c
          · obtain ⟨o', e'⟩ := t.there a o eo
            exact ⟨o', by rw [upd_ne (ne_of_none eo hq)]; exact e'⟩
          · rcases List.mem_cons.mp z with z | z
            · rw [z]; exact .inr hq
            · exact t.fps a (sub8 a z)
        · have ok9 : Ok G F7 H6 σ (wip ρ7 vs) fp8 := ok8.off oBk hpm
          refine ok9.step (fq := [q]) (fq' := [q]) ⟨fun _ z => z, fun _ z => .inl z, fun a o eo _ c => ?_, fun a o eo => ?_, fun _ z => .inl z, tabs_put e8 trivial⟩ (fun a z => by rw [List.mem_singleton.mp z]; exact nF8) (fun a z w => nf8 (sub8 q (by rw [← List.mem_singleton.mp w]; exact z))) (fun a f => ?_) ?_
          · by_cases ha : a = q
            · subst ha
              rcases c with c | c
              · exact absurd List.mem_cons_self c
              · rw [e8] at eo; cases eo; exact absurd trivial c
            · rw [upd_ne ha]; exact eo
          · by_cases ha : a = q
            · exact ⟨_, by rw [ha]; exact upd_same⟩
            · exact ⟨o, by rw [upd_ne ha]; exact eo⟩
          · obtain ⟨o, eo⟩ := ok9.dom a f
            by_cases ha : a = q
            · exact ⟨_, by rw [ha]; exact upd_same⟩
            · exact ⟨o, by rw [upd_ne ha]; exact eo⟩
          · have t := (en.ok.rch.trans (s2'.trans sC)).less sub8
            have h0 := en.ok.rch.none_of hq
            exact ⟨t.mono, t.new, fun a o eo m c => by rw [upd_ne (ne_of_none eo h0)]; exact t.kept a o eo m c, fun a o eo => by
              obtain ⟨o', e'⟩ := t.there a o eo
              exact ⟨o', by rw [upd_ne (ne_of_none eo h0)]; exact e'⟩, t.fps, fun h => tabs_put e8 trivial (t.tab h)⟩
        · exact ((rl.step sC ok2.nf fun a z => nomatch z).putXs rp7).mut e8 trivial nF8
    · have e : i = ds.length := by omega
      subst e
      refine .inl ⟨it.stop F2 H2 σ (wip ρ2 vs) fp2 _ _ en.ok.nf s2' ok2, ?_⟩
      obtain ⟨fp3, ok3, sub3⟩ := Ok.rst en.ok s2' ok2 vs hpm
      refine k (.ref q) H2 F2 (rst ρ1 (wip ρ2 vs) vs) fp3 (.dct true ks xs) [q] ⟨en.st0.trans (s2.less fun a z => ?_), ok3, nodup_of (by simp) ok3.nd fun a z w => nf (by rw [← List.mem_singleton.mp z]; exact sub3 a w)⟩ (.inl (.dow eq nF ll rl)) (done ks xs _ inv)
      rcases List.mem_append.mp z with z | z
      · simp [List.mem_singleton.mp z]
      · simp [sub3 a z]
theorem d_dc {kx vx tg iter : Expr} {ifs : List Expr} {scope : Scope} {own : List (Str × Nat)} {wi : WI} {g : WG} {S : List Nat} {wt : WT} (hc : X.calm = true) (hN : X.N.Nodup) (hi : PI X tg iter (LW G wi)) (ok : BlkOk X.N X.env.scope scope own)
    (hg : ∀ (s : Shared) (H : Hp) (C : Addr) (cl : List (Str × Addr)) (fp : List Addr), PG (X.blk s H scope (compEnvC scope cl C X.env) fp) tg (LG G g S)) (ht : ∀ (s : Shared) (H : Hp) (C : Addr) (cl : List (Str × Addr)) (fp : List Addr), PTs (X.blk s H scope (compEnvC scope cl C X.env) fp) ifs (LT G wt))
    (hk : ∀ (s : Shared) (H : Hp) (C : Addr) (cl : List (Str × Addr)) (fp : List Addr), PE (X.blk s H scope (compEnvC scope cl C X.env) fp) kx (LE G wk)) (he : ∀ (s : Shared) (H : Hp) (C : Addr) (cl : List (Str × Addr)) (fp : List Addr), PE (X.blk s H scope (compEnvC scope cl C X.env) fp) vx (LE G we)) (hS : ∀ j ∈ S, j ∈ own.map (·.2)) (hpm : ∀ p ∈ G.pm, p.1 ∉ own.map (·.2)) (hs : ∀ x, foldedSetIterable iter X.env x = pure x := by intro _; rfl) :
    PE X (.DictComp kx vx [⟨tg, iter, ifs, 0⟩] scope pos) (LE G (wDc wi g wt wk we (own.map (·.2)))) := imE (pe_dc hc hN hi ok hg ht hk he hs) (le_dc hS hpm)
end
end M
/-! M18: enumerate of tuples and lists. -/
namespace M
open PySem PySem.Spec PyProof.Rows L2

theorem enum_new1 {v : Value} {o : Obj} {H : Heap → Prop} (B : Begins v o H) : Meets (Builtin.«enumerate.__new__» ⟨[.type "enumerate", v], []⟩) (fun _ R s => H s.heap ∧ R (.ok (.ret (.ref (s.heap.push o).objs.size))) { s with heap := (s.heap.push o).push { cls := .type "enumerate", data := .fields #[.none, .bool false, .ref s.heap.objs.size, rawInt 0, .none, .none] } }) :=
  .of_wp fun prog w A R s h => by
    obtain ⟨hp, g, dr, tk, os⟩ := s
    obtain ⟨h1, h⟩ := h
    have hsub := sub_enumerate
    have it1 : ∀ {A' : Around} {E : Value → Shared → Prop} {Q : Value → Shared → Prop}, Q (.ref hp.objs.size) ⟨hp.push o, g, dr, tk, os⟩ → wpAny (model prog w) A' (pyIter v) Q E ⟨hp, g, dr, tk, os⟩ := fun q => B.iter prog w _ _ ⟨hp, g, dr, tk, os⟩ _ h1 q
    wp_walk using it1
    refine wpAny_stack_any fun st => wpAny_pure ?_
    split
    · rename_i c _ _ _ _ _
      cases (c == Value.type "enumerate") <;> (wp_walk using it1; exact ⟨_, rfl, h⟩)
    · wp_walk using it1
      exact ⟨_, rfl, h⟩
theorem enum_call1 {prog : Program} {w : World} {A : Around} {E : Value → Shared → Prop} {s : Shared} {v : Value} {o : Obj} {H : Heap → Prop} {Q : Value → Shared → Prop} (B : Begins v o H) (h1 : H s.heap)
    (h : ∀ h', IsEnum h' (s.heap.objs.size + 1) s.heap.objs.size 0 .none → h'.get? s.heap.objs.size = some o → (∀ b o, s.heap.get? b = some o → h'.get? b = some o) → Q (.ref (s.heap.objs.size + 1)) { s with heap := h' }) : wpAny (model prog w) A (call (.type "enumerate") [v]) Q E s := by
  refine callType_new F.called_enumerate (by decide) (F.typeCall_enumerate_1 _) (F.newCall_enumerate_1 _) (fun obj => F.args_object_init_2 obj _) F.entry_enumerate_new (enum_new1 B) ⟨h1, ?_⟩
  have hz : (s.heap.push o).objs.size = s.heap.objs.size + 1 := Heap.size_push ..
  show _ ∧ _
  rw [hz]
  have he := Heap.get?_push_size (s.heap.push o) (o := { cls := .type "enumerate", data := .fields #[.none, .bool false, .ref s.heap.objs.size, rawInt 0, .none, .none] }) rfl
  rw [hz] at he
  exact ⟨⟨_, he, rfl⟩, h _ he (Heap.get?_push_of_some _ (Heap.get?_push_size _ B.free)) fun b o x => Heap.get?_push_of_some _ (Heap.get?_push_of_some _ x)⟩
/-- the tuple at a, each item in a new pair -/
def IteT (K : PySem.W.Frag) (a : Addr) : It :=
  ⟨fun i H => ∃ (xs : List V) (x : V), SqT K H a xs ∧ xs[i]? = some x, fun i H v H' => ∃ T x, v = .ref T ∧ H T = none ∧ (∃ o : Obj, H' = upd H T (.frz o (.tup [.int (i : Nat), x])) ∧ o.cls = .type "tuple" ∧ o.dict = none) ∧ ∀ xs, SqT K H a xs → xs[i]? = some x, fun i H => ∃ xs : List V, SqT K H a xs ∧ xs.length = i⟩
theorem turn_enumT {P : Program} {w : World} {K : PySem.W.Frag} {elts : List Expr} {kk : Nat} {tpos : Pos} (a e it : Addr) (items : Array Value) (hne : e ≠ it) (hae : e ≠ a) (hai : a ≠ it) :
    Turn P w K (.Tuple elts kk tpos) (IteT K a) [e, it] e (fun i h => (∃ old, IsEnum h e it ((i : Nat) : Int) old) ∧ h.IsTupleIter it a i) where
  mem := by simp
  obj := fun i h st b hb => by
    obtain ⟨⟨old, he⟩, ⟨o, ho, hc, hd⟩⟩ := st
    rcases List.mem_cons.mp hb with z | z
    · rw [z]; exact ⟨_, he, fun v q => nomatch q⟩
    · rw [List.mem_singleton.mp z]; exact ⟨o, ho, fun v q => by rw [hd] at q; cases q⟩
  keep := fun i h h' st k => let ⟨⟨old, he⟩, hi⟩ := st; ⟨⟨old, k e (by simp) _ he⟩, hi.at fun o q => k it (by simp) o q⟩
  item := by
    intro X hP hw hK hc i pins s σ H E I hf st hg
    subst hP hw hK
    obtain ⟨⟨old, he⟩, hit⟩ := st
    obtain ⟨xs, x, hq, hx⟩ := hg
    obtain ⟨its, rv, p, hz⟩ := I.tuple hq
    obtain ⟨u, hu, ru⟩ := rv.get hx
    have hel : e < s.heap.objs.size := Heap.lt_size he
    have hil : it < s.heap.objs.size := by obtain ⟨_, q, _⟩ := hit; exact Heap.lt_size q
    have hlt : i < its.toArray.size := by
      have := (List.getElem?_eq_some_iff.mp hu).1
      simpa using this
    refine wpAny_pyNext_enum_itemD (Draws.tuple (prog := X.prog) (w := X.w) (A := X.A.in1) (I.ok.hd hc) it a hai its.toArray) he ⟨hit, p⟩ hlt hne (by simp [hne, hae]) fun y h' tk hy ho st' hT hsz hk => ?_
    have ey : y = u := by
      have h2 : its.toArray[i]? = some u := by simpa using hu
      rw [h2] at hy; exact (Option.some.inj hy).symm
    subst ey
    refine ⟨_, rfl, wpAny_letOwnedTupleGo_enum (s := { s with heap := h', toks := tk + 1 }) ho fun h'' he' sb => ?_⟩
    have hT2 : h''.get? s.heap.objs.size = some { cls := .type "tuple", data := .seq #[.int i tk, y] } := (sb.2 _ (Nat.ne_of_gt hel)).trans hT
    have new : ObjOk X.prog X.w (upd H s.heap.objs.size (.frz { cls := .type "tuple", data := .seq #[.int i tk, y] } (.tup [.int (i : Nat), x]))) h'' s.heap.objs.size (.frz { cls := .type "tuple", data := .seq #[.int i tk, y] } (.tup [.int (i : Nat), x])) :=
      ⟨hT2, by show 2 ≤ sizeLine; decide, [.int i tk, y], .cons ⟨_, rfl⟩ (.cons ru .nil), ⟨_, hT2, rfl, _, rfl⟩⟩
    have I1 : Inv X pins σ (upd H s.heap.objs.size (.frz { cls := .type "tuple", data := .seq #[.int i tk, y] } (.tup [.int (i : Nat), x]))) { s with heap := h'', toks := tk + 1 } :=
      I.turnedNew (ch := [e, it]) (fun b ob hb q => (sb.2 b (fun z => hb (by simp [z]))).trans (hk b ob (fun z => hb (by simp [z])) (fun z => hb (by simp [z])) q)) hf (Nat.le_refl _) new
    refine ⟨.ref s.heap.objs.size, _, I1, rfl, ⟨_, x, rfl, I.hok.fresh (Nat.le_refl _), ⟨_, rfl, rfl, rfl⟩, fun ys hy => ?_⟩, ⟨⟨y, ?_⟩, st'.1.at fun o q => (sb.2 it (Ne.symm hne)).trans q⟩, fun b hb => ?_⟩
    · rw [I.tuple_inj hy hq]; exact hx
    · have e1 : ((i + 1 : Nat) : Int) = (i : Int) + 1 := by omega
      rw [e1]; exact he'
    · have hb' : b < s.heap.objs.size := by
        rcases List.mem_cons.mp hb with z | z
        · rw [z]; exact hel
        · rw [List.mem_singleton.mp z]; exact hil
      rw [upd_ne (Nat.ne_of_lt hb')]
      exact (hf b hb).1
  done := by
    intro X hP hw hK hc i pins s σ H E I hf st hg
    subst hP hw hK
    obtain ⟨⟨old, he⟩, hit⟩ := st
    obtain ⟨xs, hq, hx⟩ := hg
    obtain ⟨its, rv, p, hz⟩ := I.tuple hq
    obtain ⟨f0, f1, f2, f3, f4, f5⟩ := hf it (by simp)
    have hl := rv.length
    have hi : i = its.toArray.size := by simp; omega
    subst hi
    exact wpAny_pyNext_enum_endD (Draws.tuple (prog := X.prog) (w := X.w) (A := X.A.in1) (I.ok.hd hc) it a hai its.toArray) he ⟨hit, p⟩ fun h' eb => ⟨rfl, I.turned (t' := s.toks) (fun b o hb q => eb b o hb q) f0 f1 f3 f4 f5⟩
  self := fun A i s Q E st h => let ⟨⟨_, he⟩, _⟩ := st; wpAny_pyIter_enum he h
/-- the list at a, each item in a new pair -/
def IteL (K : PySem.W.Frag) (a : Addr) : It :=
  ⟨fun i H => ∃ (ys : List V) (y : V), SqL K H a ys ∧ ys[i]? = some y, fun i H v H' => ∃ T y, v = .ref T ∧ H T = none ∧ (∃ o : Obj, H' = upd H T (.frz o (.tup [.int (i : Nat), y])) ∧ o.cls = .type "tuple" ∧ o.dict = none) ∧ ∀ ys, SqL K H a ys → ys[i]? = some y, fun i H => ∃ ys : List V, SqL K H a ys ∧ ys.length ≤ i⟩
theorem turn_enumL {P : Program} {w : World} {K : PySem.W.Frag} {elts : List Expr} {kk : Nat} {tpos : Pos} (a e it : Addr) :
    Turn P w K (.Tuple elts kk tpos) (IteL K a) [e, it] e (fun i h => (∃ old, IsEnum h e it ((i : Nat) : Int) old) ∧ h.IsListIter it a i ∧ e ≠ it) where
  mem := by simp
  obj := fun i h st b hb => by
    obtain ⟨⟨u0, eh⟩, ⟨ob, ho, hc, dd⟩, _⟩ := st
    rcases (show b = e ∨ b = it by simpa using hb) with hz | hz
    · subst hz; exact ⟨_, eh, fun v q => nomatch q⟩
    · subst hz; exact ⟨ob, ho, fun v q => by rw [dd] at q; cases q⟩
  keep := fun i h h' st k => ⟨let ⟨u0, eh⟩ := st.1; ⟨u0, k e (by simp) _ eh⟩, st.2.1.at fun o q => k it (by simp) o q, st.2.2⟩
  item := by
    intro X hP hw hK hc i pins s σ H E I hf st hg
    subst hP hw hK
    obtain ⟨⟨u0, eh⟩, itH, ne⟩ := st
    obtain ⟨ys, y, sq, ey⟩ := hg
    obtain ⟨its, rv, pl, _⟩ := I.list sq
    obtain ⟨u, eu, ru⟩ := rv.get ey
    have le1 : e < s.heap.objs.size := Heap.lt_size eh
    have le2 : it < s.heap.objs.size := by obtain ⟨_, q, _⟩ := itH; exact Heap.lt_size q
    refine wpAny_pyNext_enum_item eh itH pl.isList (x := u) (by simpa using eu) ne fun h' ho itH' hT _ hk => ?_
    refine ⟨_, rfl, wpAny_letOwnedTupleGo_enum (s := { s with heap := h', toks := s.toks + 1 }) ho fun h2 eh' sb => ?_⟩
    have hT2 : h2.get? s.heap.objs.size = some { cls := .type "tuple", data := .seq #[.int i s.toks, u] } := (sb.2 _ (Nat.ne_of_gt le1)).trans hT
    have nw : ObjOk X.prog X.w (upd H s.heap.objs.size (.frz { cls := .type "tuple", data := .seq #[.int i s.toks, u] } (.tup [.int (i : Nat), y]))) h2 s.heap.objs.size (.frz { cls := .type "tuple", data := .seq #[.int i s.toks, u] } (.tup [.int (i : Nat), y])) :=
      ⟨hT2, by show 2 ≤ sizeLine; decide, [.int i s.toks, u], .cons ⟨_, rfl⟩ (.cons ru .nil), ⟨_, hT2, rfl, _, rfl⟩⟩
    have J : Inv X pins σ (upd H s.heap.objs.size (.frz { cls := .type "tuple", data := .seq #[.int i s.toks, u] } (.tup [.int (i : Nat), y]))) { s with heap := h2, toks := s.toks + 1 } :=
      I.turnedNew (ch := [e, it]) (fun b ob hb q => (sb.2 b (fun hz => hb (by simp [hz]))).trans (hk b ob (fun hz => hb (by simp [hz])) (fun hz => hb (by simp [hz])) q)) hf (Nat.le_refl _) nw
    refine ⟨.ref s.heap.objs.size, _, J, rfl, ⟨_, y, rfl, I.hok.fresh (Nat.le_refl _), ⟨_, rfl, rfl, rfl⟩, fun zs hz => by rw [I.list_inj hz sq]; exact ey⟩, ⟨⟨u, ?_⟩, itH'.at fun o q => (sb.2 it (Ne.symm ne)).trans q, ne⟩, fun b hb => ?_⟩
    · rw [show ((i + 1 : Nat) : Int) = (i : Int) + 1 by omega]; exact eh'
    · have lb : b < s.heap.objs.size := by
        rcases (show b = e ∨ b = it by simpa using hb) with hz | hz
        · rw [hz]; exact le1
        · rw [hz]; exact le2
      rw [upd_ne (Nat.ne_of_lt lb)]
      exact (hf b hb).1
  done := by
    intro X hP hw hK hc i pins s σ H E I hf st hg
    subst hP hw hK
    obtain ⟨⟨u0, eh⟩, itH, ne⟩ := st
    obtain ⟨ys, sq, ly⟩ := hg
    obtain ⟨its, rv, pl, _⟩ := I.list sq
    obtain ⟨g0, g1, g2, g3, g4, g5⟩ := hf it (by simp)
    have lv := rv.length
    exact wpAny_pyNext_enum_end (I.ok.hd hc) eh itH pl.isList (by simp; omega) fun h' eb => ⟨rfl, I.turned (t' := s.toks) (fun b o hb q => eb b o hb q) g0 g1 g3 g4 g5⟩
  self := fun A i s Q E st h => let ⟨⟨_, eh⟩, _⟩ := st; wpAny_pyIter_enum eh h
def iEnumA (K : PySem.W.Frag) (ta : TA) : TI := fun σ H R => ta σ H fun vs H1 => ∃ a, vs = [.ref a] ∧ ((∃ xs, SqL K H1 a xs ∧ R (IteL K a) H1) ∨ ∃ xs, SqT K H1 a xs ∧ R (IteT K a) H1)
theorem pi_enumA {X : Cx} {e : Expr} {ta : TA} {p pos tpos : Pos} {elts : List Expr} {kk : Nat} (hg : Gl X "enumerate") (hm : X.mg "enumerate" = none) (ha : PA X [e] ta) (hs : starEach [e] X.env = [(false, eval e X.env)] := by rfl) :
    PI X (.Tuple elts kk tpos) (.Call (.Name "enumerate" p) [e] [] pos) (iEnumA X.K ta) := by
  refine ⟨fun pins s σ H R I h => ?_⟩
  refine Call_ (ld_blt I hg hm boot_enumerate (PyProof.Rows.callWith_type1 (thn (ha.run pos pins s σ H _ I h) fun us s1 ⟨vs, H1, I1, r1, q1⟩ => ?_) hs rfl))
  obtain ⟨a, ex, q⟩ := q1
  subst ex
  obtain ⟨u, rfl, ru⟩ := Vals.one r1
  obtain rfl : u = Value.ref a := ru
  have free : ∀ {b : Addr}, b ∈ [s1.heap.objs.size + 1, s1.heap.objs.size] → FpOk X pins H1 b := fun {b} hb => by
    have hle : s1.heap.objs.size ≤ b := by
      rcases List.mem_cons.mp hb with z | z
      · rw [z]; exact Nat.le_add_right _ _
      · rw [List.mem_singleton.mp z]; exact Nat.le_refl _
    exact I1.fpOk hle (I1.hok.fresh hle)
  rcases q with ⟨xs, hq, q⟩ | ⟨xs, hq, q⟩
  · obtain ⟨its, rv, p', hz⟩ := I1.list hq
    refine enum_call1 (begins_list a its.toArray) p'.isList fun h' he hit hk => wpAny_pyIter_enum he ?_
    have I2 : Inv X pins σ H1 { s1 with heap := h' } := I1.kept (t' := s1.toks) hk
    exact ⟨s1.heap.objs.size + 1, [s1.heap.objs.size + 1, s1.heap.objs.size], _, _, H1, rfl, I2, turn_enumL a (s1.heap.objs.size + 1) s1.heap.objs.size, ⟨⟨.none, he⟩, ⟨_, hit, rfl, rfl⟩, Nat.succ_ne_self _⟩, fun b hb => free hb, q⟩
  · obtain ⟨its, rv, p', hz⟩ := I1.tuple hq
    have ha : a < s1.heap.objs.size := by obtain ⟨_, z, _⟩ := p'; exact Heap.lt_size z
    refine enum_call1 (begins_tuple a its.toArray) p' fun h' he hit hk => wpAny_pyIter_enum he ?_
    have I2 : Inv X pins σ H1 { s1 with heap := h' } := I1.kept (t' := s1.toks) hk
    exact ⟨s1.heap.objs.size + 1, [s1.heap.objs.size + 1, s1.heap.objs.size], _, _, H1, rfl, I2, turn_enumT a (s1.heap.objs.size + 1) s1.heap.objs.size its.toArray (Nat.succ_ne_self _) (Nat.ne_of_gt (Nat.lt_succ_of_lt ha)) (Nat.ne_of_lt ha), ⟨⟨.none, he⟩, ⟨_, hit, rfl, rfl⟩⟩, fun b hb => free hb, q⟩
section
variable {G : Gc} {X : Cx} {F F' F1 F2 : Addr → Prop} {H H' H1 H2 : Hp} {σ σ' : L2.St} {ρ ρ' ρ1 ρ2 : Sl} {fp fp' fp1 fp2 fr fr1 fr2 fr' fo : List Addr} {v v1 v2 : V} {r r1 r2 d : D} {p : Addr} {o : HO}
  {a b c e : Expr} {es : List Expr} {wa wb we wo wk : WE} {ta tb tc : WT} {rest : List Expr} {pos : Pos} {K : PySem.W.Frag} {ca : Cax}
def enumD (ds : List D) : List D := ds.mapIdx fun i d => .tpo [.int i, d]
theorem enumD_len (ds : List D) : (enumD ds).length = ds.length := by simp [enumD]
theorem enumD_at {ds : List D} {i : Nat} {d : D} (h : (enumD ds)[i]? = some d) : ∃ x, ds[i]? = some x ∧ d = .tpo [.int i, x] := by
  unfold enumD at h
  rw [List.getElem?_mapIdx] at h
  obtain ⟨x, e, q⟩ := Option.map_eq_some_iff.mp h
  exact ⟨x, e, q.symm⟩
def wiEn (we : WE) : WI := fun ρ K => we ρ fun x ρ1 => ∃ d ds ρ2, fzR ρ1 x = some (d, ρ2) ∧ its d = some ds ∧ K (enumD ds) ρ2
theorem pair_new {o : Obj} (h1 : o.cls = .type "tuple") (h2 : o.dict = none) (ok : Ok G F H σ ρ fp) {T : Addr} {i : Nat} {x : V} {y : D} (hT : H T = none) (rx : Rp G.K G.ca F H x y []) : ∃ F', En G F H fp σ F' (upd H T (.frz o (.tup [.int i, x]))) ρ fp [] ∧ Rp G.K G.ca F' (upd H T (.frz o (.tup [.int i, x]))) (.ref T) (.tpo [.int i, y]) [] :=
  ⟨F, En.tup ok hT, .tpo (.of upd_same h1 h2) (.cons (fp := []) (fq := []) (.int _) (.one (rx.new hT)))⟩
theorem it_en {a : Addr} {vs : List V} {ds : List D} (nf0 : ∀ a ∈ fp, ¬ F a) (e : H a = some (.lst vs)) (f : F a) (r : RpL G.K G.ca F H vs ds []) : ItOk G F H fp (IteL G.K a) (enumD ds) where
  go := fun i d F1 H1 σ1 ρ1 fp1 _ _ nf s ok hd => by
    have e1 := F_keep s nf f e
    obtain ⟨x, hx, rfl⟩ := enumD_at hd
    have r1 := r.step s nf fun _ z => nomatch z
    obtain ⟨w, ew, rw_⟩ := r1.at_ hx
    refine ⟨⟨vs, w, .of e1, ew⟩, fun y H2 ⟨T, z, e2, hT, ⟨o, e3, k1, k2⟩, hz⟩ => ?_⟩
    subst e2 e3
    have : z = w := by have := hz vs (.of e1); rw [ew] at this; exact (Option.some.inj this).symm
    subst this
    exact pair_new k1 k2 ok hT rw_
  stop := fun F1 H1 σ1 ρ1 fp1 _ _ nf s ok => ⟨vs, .of (F_keep s nf f e), by rw [enumD_len, r.length]; exact Nat.le_refl _⟩
theorem it_enT {a : Addr} {vs : List V} {ds : List D} (nf0 : ∀ a ∈ fp, ¬ F a) (e : SqT G.K H a vs) (r : RpL G.K G.ca F H vs ds []) : ItOk G F H fp (IteT G.K a) (enumD ds) where
  go := fun i d F1 H1 σ1 ρ1 fp1 _ _ nf s ok hd => by
    have e1 : SqT G.K H1 a vs := sqT_keep (fun a o eo n => s.keep a o eo (.inr n)) e
    obtain ⟨x, hx, rfl⟩ := enumD_at hd
    have r1 := r.step s nf fun _ z => nomatch z
    obtain ⟨w, ew, rw_⟩ := r1.at_ hx
    refine ⟨⟨vs, w, e1, ew⟩, fun y H2 ⟨T, z, e2, hT, ⟨o, e3, k1, k2⟩, hz⟩ => ?_⟩
    subst e2 e3
    have : z = w := by have := hz vs e1; rw [ew] at this; exact (Option.some.inj this).symm
    subst this
    exact pair_new k1 k2 ok hT rw_
  stop := fun F1 H1 σ1 ρ1 fp1 _ _ nf s ok => ⟨vs, sqT_keep (fun a o eo n => s.keep a o eo (.inr n)) e, by rw [enumD_len, r.length]⟩
theorem di_enum {p1 tpos : Pos} {elts : List Expr} {kk : Nat} (hK : X.K = G.K) (hg : Gl X "enumerate") (hm : X.mg "enumerate" = none) (he : PE X e (LE G we)) (h1 : starEach [e] X.env = (false, eval e X.env) :: starEach [] X.env := by rfl) (hs : starEach [e] X.env = [(false, eval e X.env)] := by rfl) : PI X (.Tuple elts kk tpos) (.Call (.Name "enumerate" p1) [e] [] pos) (LW G (wiEn we)) :=
  imI (pi_enumA hg hm (da_cons he da_nil h1) hs) fun σ H Q q => by
    obtain ⟨F, ρ, fp, Kd, ok, h, k⟩ := q
    refine ⟨F, ρ, fp, fun rs ρ1 => ∃ x d ds ρ2, rs = [x] ∧ fzR ρ1 x = some (d, ρ2) ∧ its d = some ds ∧ Kd (enumD ds) ρ2, ok, ?_, fun vs H1 F1 ρ1 fp1 rs fr en rr q => ?_⟩
    · have : ∀ (w : WE) {ρ : Sl} {Q Q' : D → Sl → Prop}, w ρ Q → (Q = Q') → w ρ Q' := fun w ρ Q Q' h e => e ▸ h
      refine this we h ?_
      funext x ρ1
      apply propext
      constructor
      · rintro ⟨d, ds, ρ2, e, e2, q⟩; exact ⟨x, d, ds, ρ2, rfl, e, e2, q⟩
      · rintro ⟨y, d, ds, ρ2, ey, e, e2, q⟩; cases ey; exact ⟨d, ds, ρ2, e, e2, q⟩
    · obtain ⟨x, d, ds, ρ2, rfl, e, e2, q⟩ := q
      obtain ⟨v, rfl, r1⟩ := rr.one
      rw [hK]
      obtain ⟨F2, fp2, s, rp⟩ := r1.share en.ok en.nd (en.hr ok) e
      have en := en.share s
      obtain ⟨a, vs, rfl, rl, sq⟩ := rp.its e2
      rcases sq with ⟨sq, b, rfl⟩ | ⟨sq, rfl⟩
      · have hf : F2 a := by
          cases rp with
          | lfz _ f _ => exact f
        exact ⟨a, rfl, .inl ⟨vs, .of sq, k _ H1 F2 ρ2 fp2 _ en (it_en en.ok.nf sq hf rl) q⟩⟩
      · exact ⟨a, rfl, .inr ⟨vs, sq.sq, k _ H1 F2 ρ2 fp2 _ en (it_enT en.ok.nf sq.sq rl) q⟩⟩

/-! ### isinstance, a class by its name -/
/-- its type's name; an own class is told apart by the Bool behind -/
def tyN : D → Option String
  | .non => some "NoneType"
  | .bl _ => some "bool"
  | .int _ => some "int"
  | .str _ => some "str"
  | .lst _ _ => some "list"
  | .lso _ => some "list"
  | .tup _ => some "tuple"
  | .tpo _ => some "tuple"
  | .dct _ _ _ => some "dict"
  | _ => none
theorem Rp.tyX {T : String} (h : Rp K ca F H v d fr) (e : tyN d = some T) : TyX K H v (.type T) := by
  cases h <;> (try (cases e; done))
  · cases e; exact .base .non
  · cases e; exact .base (.bl _)
  · cases e; exact .base (.int _)
  · cases e; exact .base (.str _)
  · rename_i s _; cases e
    rcases s with ⟨o, s, _⟩ | ⟨o, i, n, s, c, _⟩
    · exact .fTuple s
    · exact .kTuple s c
  · rename_i s _; cases e
    rcases s with ⟨o, s, _⟩ | ⟨o, i, n, s, c, _⟩
    · exact .fTuple s
    · exact .kTuple s c
  · rename_i s _ _; cases e; exact .base (.lst s)
  · rename_i s _ _; cases e; exact .base (.lst s)
  · rename_i s _ _; cases e; exact .base (.lst s)
  · rename_i s _ _ _; cases e
    rcases s with s | ⟨o, s⟩
    · exact .base (.dK s)
    · exact .fDict s
  · rename_i s _ _ _; cases e; exact .base (.dK s)
/-- isinstance(x, T), T built in -/
def wIsT (T : String) (we : WE) : WE := fun ρ Q => we ρ fun x ρ1 => ∃ d N b, pk ρ1 x = some d ∧ tyN d = some N ∧ kitB N T = some b ∧ Q (.bl b) ρ1
def bootT (x : Str) (T : String) : Bool := decide (bootBuiltins x = some (.type T))
theorem d_isT {T : String} {x : Str} {p1 p2 : Pos} (hK : X.K = G.K) (hg : Gl X "isinstance") (hm : X.mg "isinstance" = none) (hgT : Gl X x) (hmT : X.mg x = none) (hv : bootBuiltins x = some (.type T)) (he : PE X e (LE G we)) (hn : x ≠ "__name__" := by decide) (hd : (x == ("__debug__" : Str)) = false := by decide)
    (h1 : starEach [e, .Name x p2] X.env = (false, eval e X.env) :: starEach [.Name x p2] X.env := by rfl) (h2 : starEach [.Name x p2] X.env = (false, eval (.Name x p2) X.env) :: starEach [] X.env := by rfl) (hpl : (backTo pos (starEach [.Name x p2] X.env)).any (·.1) = false := by rfl) :
    PE X (.Call (.Name "isinstance" p1) [e, .Name x p2] [] pos) (LE G (wIsT T we)) :=
  imE (pe_callB (t := tCons (LE G we) (tCons (tC (.ty T)) tNil)) call_isi hg hm (by decide +kernel) (pa_cons he (pa_cons (pe_bltn (v := .ty T) hgT hmT hv rfl hn hd) pa_nil h2) h1) (by decide) (by decide) h1 hpl) fun σ H Q q => by
    obtain ⟨F, ρ, fp, Qd, ok, h, k⟩ := q
    refine ⟨F, ρ, fp, _, ok, h, fun v H1 F1 ρ1 fp1 x f1 en rr q => ?_⟩
    obtain ⟨d, N, b, e1, e2, e3, q⟩ := q
    obtain ⟨_, rp, _⟩ := rr.see en.ok e1
    exact ⟨v, .ty T, .type N, .type T, b, rfl, .ty T, hK ▸ rp.tyX e2, kit_ty e3, k _ H1 F1 ρ1 fp1 _ [] (en.drop (En.refl en.ok)) (.inl (.bl b)) q⟩
/-- isinstance(x, C), x an instance of the own class C itself -/
def wIsC (c : Str) (we : WE) : WE := fun ρ Q => we ρ fun x ρ1 => isIn ρ1 x c ∧ Q (.bl true) ρ1
theorem d_isC {c : Str} {p1 p2 : Pos} (ic : C8.InsC X.K (G.ca c)) (hmC : X.mg c = some (.ref (G.ca c))) (hg : Gl X "isinstance") (hm : X.mg "isinstance" = none) (he : PE X e (LE G we)) (hgC : Gl X c := by rfl) (hd : (c == ("__debug__" : Str)) = false := by decide)
    (h1 : starEach [e, .Name c p2] X.env = (false, eval e X.env) :: starEach [.Name c p2] X.env := by rfl) (h2 : starEach [.Name c p2] X.env = (false, eval (.Name c p2) X.env) :: starEach [] X.env := by rfl) (hpl : (backTo pos (starEach [.Name c p2] X.env)).any (·.1) = false := by rfl) :
    PE X (.Call (.Name "isinstance" p1) [e, .Name c p2] [] pos) (LE G (wIsC c we)) :=
  imE (pe_callB (t := tCons (LE G we) (tCons (tC (.ref (G.ca c))) tNil)) (C8.call_isC ic) hg hm (by decide +kernel) (pa_cons he (pa_cons (pe_glob (v := .ref (G.ca c)) hgC hmC rfl hd) pa_nil h2) h1) (by decide) (by decide) h1 hpl) fun σ H Q q => by
    obtain ⟨F, ρ, fp, Qd, ok, h, k⟩ := q
    refine ⟨F, ρ, fp, _, ok, h, fun v H1 F1 ρ1 fp1 x f1 en rr q => ?_⟩
    obtain ⟨a, dx, fs, rfl, ha⟩ := q.1.at_ en.ok rr
    exact ⟨a, dx, fs, rfl, ha, k _ H1 F1 ρ1 fp1 _ [] (en.drop (En.refl en.ok)) (.inl (.bl true)) q.2⟩
end
end M
/-! M19: repr of data, f-strings. -/
namespace M
open PySem PySem.Spec PyProof.Rows L2

mutual
theorem toP_nd : ∀ d : D, (toP d).hasDict = false
  | .tup xs => toPL_nd xs
  | .tpo xs => toPL_nd xs
  | .lst _ xs => toPL_nd xs
  | .lso xs => toPL_nd xs
  | .non => rfl
  | .bl _ => rfl
  | .int _ => rfl
  | .str _ => rfl
  | .dct _ _ _ => rfl
  | .dcu _ _ _ => rfl
  | .ins _ _ _ _ => rfl
  | .opq _ => rfl
  | .cls _ => rfl
  | .exc _ _ _ => rfl
  | .scr _ => rfl
  | .sl _ => rfl
theorem toPL_nd : ∀ xs : List D, PyData.hasDictAll (toPL xs) = false
  | [] => rfl
  | x :: xs => by
    show ((toP x).hasDict || PyData.hasDictAll (toPL xs)) = false
    rw [toP_nd x, toPL_nd xs]; rfl
end
section
variable {G : Gc} {X : Cx} {F F' F1 F2 : Addr → Prop} {H H' H1 H2 : Hp} {σ σ' : L2.St} {ρ ρ' ρ1 ρ2 : Sl} {fp fp' fp1 fp2 fr fr1 fr2 fr' fo : List Addr} {v v1 v2 : V} {r r1 r2 d : D} {p : Addr} {o : HO}
  {a b c e : Expr} {es : List Expr} {wa : WA} {wb we wo wk : WE} {ta tb tc : WT} {rest : List Expr} {pos : Pos} {K : PySem.W.Frag} {ca : Cax}
def rRepr (K : PySem.W.Frag) : List V → Hp → VK → Prop := fun vs H Q => ∃ v d, vs = [v] ∧ Dp K H v d ∧ d.showable = true ∧ d.hasDict = false ∧ d.depth ≤ 100 ∧ d.shown.length ≤ sizeLine ∧ Q (.str d.shown) H
theorem call_reprD {k : Nat} (hr : RoomG k X.A) : CallR X (.builtin "repr") (rRepr X.K) := by
  intro pins s σ H xs us Q I rv h
  obtain ⟨v, d, rfl, hd, hs, hn, hdp, hz, q⟩ := h
  obtain ⟨u, rfl, ru⟩ := Vals.one rv
  have hu : X.A.units + (d.depth + 1) < cLine := by have := hr.rm.un; omega
  have byref : ∀ {a : Addr}, u = .ref a → wpAny (model X.prog X.w) X.A (call (.builtin "repr") [u]) (EP X pins σ Q) X.xe s := fun {a} e => by
    subst e
    obtain ⟨as, rd⟩ := Dp.reads I d v _ hd ru
    exact repr_of_reads' rd hs (PyData.noDict_hsm hn) hr.gd hu (fun _ _ e => e) (fun h' u tk hk => ⟨.str d.shown, H, I.kept (t' := tk) hk, ⟨u, rfl⟩, q⟩) hz
  cases hd with
  | non =>
    have : u = .none := ru
    subst this
    exact PySem.P.repr_of_none ⟨.str (PyData.shown .none), H, I.tok _, ⟨_, rfl⟩, q⟩
  | bl b =>
    have : u = .bool b := ru
    subst this
    exact PySem.P.repr_of_bool ⟨.str (PyData.shown (.bool b)), H, I.tok _, ⟨s.toks, by simp [PyData.shown]⟩, q⟩
  | int i =>
    obtain ⟨t, rfl⟩ := ru
    exact PySem.P.repr_of_int (by simpa [PyData.showable] using hs) ⟨.str (PyData.shown (.int i)), H, I.tok _, ⟨s.toks, by simp [PyData.shown]⟩, q⟩
  | str x =>
    obtain ⟨t, rfl⟩ := ru
    have hz' : (reprText x).length ≤ sizeLine := by simpa [PyData.shown] using hz
    exact PySem.P.repr_of_str ⟨.str (PyData.shown (.str x)), H, I.tok _, ⟨s.toks, by simp [PyData.shown]⟩, q⟩ hz'
  | lst _ _ => exact byref ru
  | tup _ _ => exact byref ru
def nRepr : ON := fun ρ rs K => ∃ r d, rs = [r] ∧ pk ρ r = some d ∧ dt d = true ∧ (toP d).showable = true ∧ (toP d).depth ≤ 100 ∧ (toP d).shown.length ≤ sizeLine ∧ K (.str (toP d).shown) ρ
theorem nRepr_ok : ONOk G (rRepr G.K) nRepr := fun F H σ ρ fp vs rs fr Kd Q ok rr nd h k => by
  obtain ⟨r, d, rfl, e, h1, h2, h3, h4, q⟩ := h
  obtain ⟨v, rfl, r1⟩ := rr.one
  exact ⟨v, toP d, rfl, r1.dp ok e h1, h2, toP_nd d, h3, h4, k _ H F ρ fp _ [] (En.stay ok) (.inl (.str _)) q⟩
theorem d_repr {k : Nat} {p1 : Pos} (hr : RoomG k X.A) (hK : X.K = G.K) (hg : Gl X "repr") (hm : X.mg "repr" = none) (ha : PA X (e :: es) (LA G wa)) (he : starEach (e :: es) X.env = (false, eval e X.env) :: starEach es X.env := by rfl) (hpl : (backTo pos (starEach es X.env)).any (·.1) = false := by rfl) :
    PE X (.Call (.Name "repr" p1) (e :: es) [] pos) (LE G (wCB nRepr wa)) := d_cb (call_reprD hr) (hK ▸ nRepr_ok) hg hm (by decide +kernel) ha (by decide) (by decide) he hpl

/-! ### f-strings -/
def wFmt (we : WE) : WE := fun ρ Q => we ρ fun x ρ1 => (∃ y, x = .str y ∧ y.length ≤ sizeLine ∧ Q (.str y) ρ1) ∨ ∃ i : Int, x = .int i ∧ i.natAbs.log2 < 1920 ∧ Q (.str (toString i)) ρ1
theorem d_fmt (he : PE X e (LE G we)) : PE X (.FormattedValue e (-1) none pos) (LE G (wFmt we)) := imE (pe_fmt he) fun σ H Q q => by
  obtain ⟨F, ρ, fp, Qd, ok, h, k⟩ := q
  refine ⟨F, ρ, fp, _, ok, h, fun v H1 F1 ρ1 fp1 x f1 en rr q => ?_⟩
  rcases q with ⟨y, rfl, hz, q⟩ | ⟨i, rfl, hz, q⟩
  · obtain ⟨rfl, rfl⟩ := rr.str
    exact .inl ⟨y, rfl, hz, k _ H1 F1 ρ1 fp1 _ [] en (.inl (.str y)) q⟩
  · obtain ⟨rfl, rfl⟩ := rr.int
    exact .inr ⟨i, rfl, hz, k _ H1 F1 ρ1 fp1 _ [] en (.inl (.str _)) q⟩
def wJs : List WE → Str → Sl → (Str → Sl → Prop) → Prop
  | [], acc, ρ, Q => Q acc ρ
  | w :: ws, acc, ρ, Q => w ρ fun x ρ1 => ∃ y, x = .str y ∧ (acc ++ y).length ≤ sizeLine ∧ wJs ws (acc ++ y) ρ1 Q
theorem js_of : ∀ {ws : List WE} {acc : Str} {F : Addr → Prop} {H : Hp} {ρ : Sl} {fp : List Addr} {Qd : Str → Sl → Prop} {Q : Str → Hp → Prop}, Ok G F H σ ρ fp → wJs ws acc ρ Qd → (∀ z H' F' ρ' fp', En G F H fp σ F' H' ρ' fp' [] → Qd z ρ' → Q z H') → tJs (ws.map (LE G)) acc σ H Q
  | [], acc, F, H, ρ, fp, Qd, Q, ok, h, k => k acc H F ρ fp (En.refl ok) h
  | w :: ws, acc, F, H, ρ, fp, Qd, Q, ok, h, k => ⟨F, ρ, fp, _, ok, h, fun v H1 F1 ρ1 fp1 x f1 en rr q => by
      obtain ⟨y, rfl, hz, q⟩ := q
      obtain ⟨rfl, rfl⟩ := rr.str
      exact ⟨y, rfl, hz, js_of en.ok q fun z H' F' ρ' fp' en' q' => k z H' F' ρ' fp' (en.trans0 en') q'⟩⟩
inductive DJ (X : Cx) (G : Gc) : List Expr → List WE → Prop where
  | nil : DJ X G [] []
  | cons {e : Expr} {w : WE} {es : List Expr} {ws : List WE} (h : PE X e (LE G w)) (r : DJ X G es ws) : DJ X G (e :: es) (w :: ws)
theorem DJ.pj {es : List Expr} {ws : List WE} (h : DJ X G es ws) : PJ X es (ws.map (LE G)) := by
  induction h with
  | nil => exact .nil
  | cons h _ ih => exact .cons h ih
def wFs (ws : List WE) : WE := fun ρ Q => wJs ws Str.empty ρ fun z ρ1 => Q (.str z) ρ1
theorem d_fs {e1 e2 : Expr} {ws : List WE} (h : DJ X G (e1 :: e2 :: rest) ws) : PE X (.JoinedStr (e1 :: e2 :: rest) pos) (LE G (wFs ws)) := imE (pe_joined h.pj) fun σ H Q q => by
  obtain ⟨F, ρ, fp, Qd, ok, h, k⟩ := q
  exact js_of ok h fun z H' F' ρ' fp' en q => k _ H' F' ρ' fp' _ [] en (.inl (.str z)) q
theorem d_fs1 (h : PE X e (LE G we)) : PE X (.JoinedStr [e] pos) (LE G we) := pe_joined1 h
end
end M
/-! M20: a dict walked: locked while the statement, the comprehension runs. -/
namespace M
open PySem PySem.Spec PyProof.Rows L2

def NoFz : HO → Prop
  | .frz _ _ => False
  | _ => True
section
variable {K : PySem.W.Frag} {ca : Cax} {F F' : Addr → Prop} {H H' H1 : Hp} {q : Addr} {fp fp' : List Addr}
/-- H and H' are the same but at the dict q, which is locked in one of them -/
structure Lk (F : Addr → Prop) (H H' : Hp) (q : Addr) : Prop where
  ne : ∀ b, b ≠ q → H' b = H b
  sh : F q
  dk : ∃ u o, DK u ∧ NoFz u ∧ ((H q = some u ∧ H' q = some (.frz o u)) ∨ (H' q = some u ∧ H q = some (.frz o u)))
theorem Lk.rd (l : Lk F H H' q) {a : Addr} {u : HO} (n : NoFz u) (h : Rd H a u) : Rd H' a u := by
  by_cases e : a = q
  · subst e
    obtain ⟨u0, o, hd, hn, ⟨h1, h2⟩ | ⟨h1, h2⟩⟩ := l.dk
    · rcases h with h | ⟨o', h⟩
      · rw [h1] at h; cases h; exact .inr ⟨o, h2⟩
      · rw [h1] at h; cases h; exact hn.elim
    · rcases h with h | ⟨o', h⟩
      · rw [h2] at h; cases h; exact n.elim
      · rw [h2] at h; cases h; exact .inl h1
  · rcases h with h | ⟨o, h⟩
    · exact .inl (by rw [l.ne a e]; exact h)
    · exact .inr ⟨o, by rw [l.ne a e]; exact h⟩
/-- what is no dict and no locked dict stands -/
def NoDk : HO → Prop
  | .frz _ u => ¬ DK u
  | u => ¬ DK u
theorem Lk.st (l : Lk F H H' q) {a : Addr} {u : HO} (n : NoDk u) (h : H a = some u) : H' a = some u := by
  have e : a ≠ q := fun e => by
    subst e
    obtain ⟨u0, o, hd, hn, ⟨h1, h2⟩ | ⟨h1, h2⟩⟩ := l.dk
    · rw [h1] at h; cases h
      cases u <;> first | exact n hd | exact hd.elim
    · rw [h2] at h; cases h; exact n hd
  rw [l.ne a e]; exact h
theorem Lk.own (l : Lk F H H' q) {a : Addr} {u : HO} (n : ¬ F a) (h : H a = some u) : H' a = some u := by
  rw [l.ne a fun e => n (e ▸ l.sh)]; exact h
theorem Lk.sqX (l : Lk F H H' q) {a : Addr} {vs : List V} (h : SqX K H a vs) : SqX K H' a vs := by
  rcases h with ⟨o, h, h1⟩ | h
  · exact .inl ⟨o, l.st (fun z => z) h, h1⟩
  · exact .inr h
theorem Lk.sqT (l : Lk F H H' q) {a : Addr} {vs : List V} (h : SqT K H a vs) : SqT K H' a vs := h.imp (l.rd trivial) id
theorem Lk.xd (l : Lk F H H' q) {d : Option Addr} {kvs : List (Str × V)} (h : XdAt H d kvs) : XdAt H' d kvs := by
  cases d with
  | none => exact h
  | some dx => exact l.st (fun z => z) (show H dx = some (.xd kvs) from h)
mutual
theorem Rp.lk (l : Lk F H H' q) : ∀ {d : D} {v : V} {fr : List Addr}, Rp K ca F H v d fr → Rp K ca F H' v d fr
  | .non, _, _, .non => .non
  | .bl _, _, _, .bl _ => .bl _
  | .int _, _, _, .int _ => .int _
  | .str _, _, _, .str _ => .str _
  | .opq _, _, _, .opq _ => .opq _
  | .cls _, _, _, .cls _ => .cls _
  | .exc c fs ds, _, _, .exc e x h r => .exc (l.st (fun z => z) e) (l.xd x) h (RpL.lk l r)
  | .scr _, _, _, .scr e => .scr (e.imp (fun ⟨o, e⟩ => ⟨o, l.st (fun z => z) e⟩) id)
  | .tup ds, _, _, .tup e r => .tup (l.sqX e) (RpL.lk l r)
  | .tpo ds, _, _, .tpo e r => .tpo (l.sqX e) (RpL.lk l r)
  | .lso ds, _, _, .lso e n r => .lso (l.own n e) n (RpL.lk l r)
  | .lst false ds, _, _, .lfz e f r => .lfz (l.st (fun z => z) e) f (RpL.lk l r)
  | .lst true ds, _, _, .low e n r => .low (l.own n e) n (RpL.lk l r)
  | .dct false ks ds, _, _, .dfz e f h r => .dfz (l.rd trivial e) f h (RpL.lk l r)
  | .dct true ks ds, _, _, .dow e n h r => .dow (l.own n e) n h (RpL.lk l r)
  | .dcu false ks ds, _, _, .ufz e f h r => .ufz (l.rd trivial e) f h (RpL.lk l r)
  | .dcu true ks ds, _, _, .uow e n h r => .uow (l.own n e) n h (RpL.lk l r)
  | .ins false c fs ds, _, _, .ifz e f h r => .ifz (l.st (fun z => z) e) f h (RpL.lk l r)
  | .ins true c fs ds, _, _, .iow e n h r => .iow (l.own n e) n h (RpL.lk l r)
theorem RpL.lk (l : Lk F H H' q) : ∀ {ds : List D} {vs : List V} {fr : List Addr}, RpL K ca F H vs ds fr → RpL K ca F H' vs ds fr
  | [], _, _, .nil => .nil
  | _ :: _, _, _, .cons r t => .cons (Rp.lk l r) (RpL.lk l t)
end
theorem RpS.lk {σ : L2.St} {ρ : Sl} (l : Lk F H H' q) (h : RpS K ca F H σ ρ fp) : RpS K ca F H' σ ρ fp := by
  induction h with
  | nil => exact .nil
  | no _ ih => exact .no ih
  | has r _ ih => exact .has (r.lk l) ih
end

section
variable {G : Gc} {X : Cx} {F F' F1 F2 : Addr → Prop} {H H' H1 H2 : Hp} {σ σ' : L2.St} {ρ ρ' ρ1 ρ2 : Sl} {fp fp' fp1 fp2 fr fr1 fr2 fr' fo : List Addr} {v v1 v2 : V} {r r1 r2 d : D} {q : Addr} {o : HO}
  {a b c e : Expr} {es : List Expr} {wa : WA} {wb we wo wk : WE} {ta tb tc : WT} {rest : List Expr} {pos : Pos} {K : PySem.W.Frag} {ca : Cax}
/-- a step of the locked heap is one of the open heap -/
theorem Step.unlock {u : HO} {od : Obj} (s : Step G.ca.tb F (upd H q (.frz od u)) fp F' H' fp') (e : H q = some u) (nq : q ∉ fp) (hu : NTE u := by trivial) : Step G.ca.tb F H fp F' (upd H' q u) fp' ∧ H' q = some (.frz od u) := by
  have e1 : H' q = some (.frz od u) := s.keep q _ upd_same (.inr fun z => z)
  refine ⟨⟨s.mono, fun a z => (s.new a z).imp id (Or.imp id fun n => ?_), fun a o' eo m c => ?_, fun a o' eo => ?_, fun a z => (s.fps a z).imp id fun n => ?_, fun h => tabs_put e1 trivial (s.tab (tabs_put e hu h))⟩, e1⟩
  · by_cases ha : a = q
    · rw [ha, upd_same] at n; cases n
    · rw [upd_ne ha] at n; exact n
  · by_cases ha : a = q
    · rw [ha] at eo ⊢; rw [e] at eo; cases eo; exact upd_same
    · rw [upd_ne ha]; exact s.kept a o' (by rw [upd_ne ha]; exact eo) m c
  · by_cases ha : a = q
    · exact ⟨u, by rw [ha]; exact upd_same⟩
    · obtain ⟨o2, e2⟩ := s.there a o' (by rw [upd_ne ha]; exact eo)
      exact ⟨o2, by rw [upd_ne ha]; exact e2⟩
  · by_cases ha : a = q
    · rw [ha, upd_same] at n; cases n
    · rw [upd_ne ha] at n; exact n
/-- the slot i's dict is locked from where G began -/
def LkAt (G : Gc) (i : Nat) : Prop := ∃ d o kvs, (i, V.ref d) ∈ G.pm ∧ G.H0 d = some (.frz o (.dK kvs))
abbrev Gin (G : Gc) (pm : List (Nat × V)) (F0 : Addr → Prop) (H0 : Hp) (fp0 : List Addr) (t : LamX.Tabs G.ca.tb H0) : Gc := ⟨G.K, G.ca, pm, F0, H0, fp0, t⟩
def wLockS (i : Nat) (w : WS) : WS := fun Dd ρ => ∃ o ks xs, ρ[i]? = some (some (.dct o ks xs)) ∧ w Dd (ρ.set i (some (.dct false ks xs)))
def wLockE (i : Nat) (w : WE) : WE := fun ρ Q => ∃ o ks xs, ρ[i]? = some (some (.dct o ks xs)) ∧ w (ρ.set i (some (.dct false ks xs))) Q
/-- the slot's dict shared: its address, what stands there -/
theorem lock_open {i : Nat} {o : Bool} {ks : List Key} {xs : List D} (ok : Ok G F H σ ρ fp) (e : ρ[i]? = some (some (.dct o ks xs))) : ∃ q us F1 fp1, Step G.ca.tb F H fp F1 H fp1 ∧ Ok G F1 H σ (ρ.set i (some (.dct false ks xs))) fp1 ∧ σ[i]? = some (some (.ref q)) ∧ F1 q ∧ Rd H q (.dK (ks.zip us)) := by
  obtain ⟨l, fs, r, e1, g1, _, _, _⟩ := ok.rs.at_ (i := i) (by rw [List.getElem?_eq_some_iff] at e; exact e.1)
  obtain ⟨v, ev, _⟩ := g1 _ e
  have rr : Rr G F H σ v (.sl i) [] := .inr ⟨i, rfl, ev, rfl⟩
  have ef : fzR ρ (.sl i) = some (.dct false ks xs, ρ.set i (some (.dct false ks xs))) := by
    show (match ρ[i]? with
      | some (some d) => some (fz d, ρ.set i (some (fz d)))
      | _ => none) = _
    rw [e]; rfl
  obtain ⟨F1, fp1, s, rp⟩ := rr.share ok (by simpa using ok.nd) (fun a z => nomatch z) ef
  cases rp with
  | @dfz q _ us _ hd f l r => exact ⟨q, us, F1, fp1, by simpa using s.step, s.ok, ev, f, hd⟩
/-- locked: the state for the inner reading -/
theorem lock_ok {i : Nat} {us : List V} {ks : List Key} {od : Obj} {pm : List (Nat × V)} (ok : Ok G F H σ ρ fp) (es : σ[i]? = some (some (.ref q))) (f : F q) (e : H q = some (.dK (ks.zip us))) (hpm : pm = (i, V.ref q) :: G.pm) :
    ∀ t, Ok (Gin G pm F (upd H q (.frz od (.dK (ks.zip us)))) fp t) F (upd H q (.frz od (.dK (ks.zip us)))) σ ρ fp := by
  subst hpm
  intro t
  have l : Lk F H (upd H q (.frz od (.dK (ks.zip us)))) q := ⟨fun b hb => upd_ne hb, f, .dK (ks.zip us), od, trivial, trivial, .inl ⟨e, upd_same⟩⟩
  refine ⟨ok.rs.lk l, ok.nd, fun a z => ?_, fun p hp => ?_, .refl⟩
  · by_cases ha : a = q
    · exact ⟨_, by rw [ha]; exact upd_same⟩
    · obtain ⟨o, eo⟩ := ok.dom a z
      exact ⟨o, by rw [upd_ne ha]; exact eo⟩
  · rcases List.mem_cons.mp hp with z | z
    · rw [z]; exact es
    · exact ok.pm p z
/-- .. and back -/
theorem unlock_ok {us : List V} {ks : List Key} {od : Obj} {pm : List (Nat × V)} {F0 : Addr → Prop} {H0 : Hp} {fp0 : List Addr} {t : LamX.Tabs G.ca.tb H0} {i : Nat} (rch : Step G.ca.tb G.F0 G.H0 G.fp0 F H fp) (f : F q) (e : H q = some (.dK (ks.zip us))) (nq : q ∉ fp) (hpm : pm = (i, V.ref q) :: G.pm) (s : Step G.ca.tb F (upd H q (.frz od (.dK (ks.zip us)))) fp F' H' fp2) (hle : ∀ a ∈ fp', a ∈ fp2) (ok' : Ok (Gin G pm F0 H0 fp0 t) F' H' σ' ρ' fp') :
    Step G.ca.tb F H fp F' (upd H' q (.dK (ks.zip us))) fp2 ∧ Ok G F' (upd H' q (.dK (ks.zip us))) σ' ρ' fp' ∧ H' q = some (.frz od (.dK (ks.zip us))) ∧ Lk F' H' (upd H' q (.dK (ks.zip us))) q := by
  subst hpm
  obtain ⟨s2, e1⟩ := s.unlock e nq
  have l : Lk F' H' (upd H' q (.dK (ks.zip us))) q := ⟨fun b hb => upd_ne hb, s.mono q f, .dK (ks.zip us), od, trivial, trivial, .inr ⟨upd_same, e1⟩⟩
  refine ⟨s2, ⟨ok'.rs.lk l, ok'.nd, fun a z => ?_, fun p hp => ok'.pm p (List.mem_cons_of_mem _ hp), rch.trans (s2.less hle)⟩, e1, l⟩
  by_cases ha : a = q
  · exact ⟨_, by rw [ha]; exact upd_same⟩
  · obtain ⟨o, eo⟩ := ok'.dom a z
    exact ⟨o, by rw [upd_ne ha]; exact eo⟩
theorem ds_lock {i : Nat} {st : Stmt} {w : WS} {own : List Nat} (hpm : G.pm.map (·.1) = own) (hin : ∀ pm F0 H0 fp0 t, pm.map (·.1) = i :: own → LkAt (Gin G pm F0 H0 fp0 t) i → PS X st (LS (Gin G pm F0 H0 fp0 t) w)) : PS X st (LS G (wLockS i w)) := by
  let t : TS := fun D σ H => ∃ pm F0 H0 fp0 t, pm.map (·.1) = i :: own ∧ LkAt (Gin G pm F0 H0 fp0 t) i ∧ LS (Gin G pm F0 H0 fp0 t) w D σ H
  have ht : PS X st t := ⟨fun pins s σ H D I ⟨pm, F0, H0, fp0, t, h1, h2, h⟩ => (hin pm F0 H0 fp0 t h1 h2).run pins s σ H D I h⟩
  refine ⟨fun pins s σ H D I hw => ?_⟩
  obtain ⟨F, ρ, fp, Dd, ok, ⟨o, ks, xs, e, h⟩, k⟩ := hw
  obtain ⟨q, us, F1, fp1, s1, ok1, es, f, hd⟩ := lock_open ok e
  have pmE : ((i, V.ref q) :: G.pm).map (·.1) = i :: own := by rw [List.map_cons, hpm]
  rcases hd with hd | ⟨od, hd⟩
  · refine (ps_lock ht).run pins s σ H D I ⟨q, _, hd, trivial, fun od => ⟨(i, V.ref q) :: G.pm, F1, _, fp1, tabs_put hd trivial (ok1.rch.tab G.tb0), pmE, ⟨q, od, _, List.mem_cons_self, upd_same⟩, F1, _, fp1, Dd, lock_ok ok1 es f hd rfl _, h, ?_⟩⟩
    have nq : q ∉ fp1 := fun z => ok1.nf q z f
    refine ⟨fun σ' H' F' ρ' fp' s ok' q' => ?_, fun v σ' H' F' ρ' fp' r fr s ok' nd rr q' => ?_, fun σ' H' F' ρ' fp' s ok' q' => ?_, fun σ' H' F' ρ' fp' s ok' q' => ?_⟩
    · obtain ⟨z1, z2, z3, _⟩ := unlock_ok ok1.rch f hd nq rfl s (fun _ z => z) ok'
      exact ⟨z3, k.nx _ _ _ _ _ (s1.trans z1) z2 q'⟩
    · obtain ⟨z1, z2, z3, l⟩ := unlock_ok ok1.rch f hd nq rfl s (fun a z => List.mem_append_right _ z) ok'
      exact ⟨z3, k.rt v σ' _ _ _ _ r fr (s1.trans z1) z2 nd (rr.imp (fun r => r.lk l) id) q'⟩
    · obtain ⟨z1, z2, z3, _⟩ := unlock_ok ok1.rch f hd nq rfl s (fun _ z => z) ok'
      exact ⟨z3, k.bk _ _ _ _ _ (s1.trans z1) z2 q'⟩
    · obtain ⟨z1, z2, z3, _⟩ := unlock_ok ok1.rch f hd nq rfl s (fun _ z => z) ok'
      exact ⟨z3, k.ct _ _ _ _ _ (s1.trans z1) z2 q'⟩
  · refine ht.run pins s σ H D I ⟨(i, V.ref q) :: G.pm, F1, H, fp1, ok1.rch.tab G.tb0, pmE, ⟨q, od, _, List.mem_cons_self, hd⟩, F1, _, fp1, Dd, ⟨ok1.rs, ok1.nd, ok1.dom, fun p hp => ?_, .refl⟩, h, ?_⟩
    · rcases List.mem_cons.mp hp with z | z
      · rw [z]; exact es
      · exact ok1.pm p z
    · have back : ∀ {F' H' σ' ρ' fp' fp2}, Step G.ca.tb F1 H fp1 F' H' fp2 → (∀ a ∈ fp', a ∈ fp2) → Ok (Gin G ((i, V.ref q) :: G.pm) F1 H fp1 (ok1.rch.tab G.tb0)) F' H' σ' ρ' fp' → Ok G F' H' σ' ρ' fp' := fun {F' H' σ' ρ' fp' fp2} s hle ok' => ⟨ok'.rs, ok'.nd, ok'.dom, fun p hp => ok'.pm p (List.mem_cons_of_mem _ hp), ok1.rch.trans (s.less hle)⟩
      exact ⟨fun σ' H' F' ρ' fp' s ok' q' => k.nx _ _ _ _ _ (s1.trans s) (back s (fun _ z => z) ok') q', fun v σ' H' F' ρ' fp' r fr s ok' nd rr q' => k.rt v σ' _ _ _ _ r fr (s1.trans s) (back s (fun a z => List.mem_append_right _ z) ok') nd rr q', fun σ' H' F' ρ' fp' s ok' q' => k.bk _ _ _ _ _ (s1.trans s) (back s (fun _ z => z) ok') q', fun σ' H' F' ρ' fp' s ok' q' => k.ct _ _ _ _ _ (s1.trans s) (back s (fun _ z => z) ok') q'⟩
theorem d_lock {i : Nat} {w : WE} {own : List Nat} (hpm : G.pm.map (·.1) = own) (hin : ∀ pm F0 H0 fp0 t, pm.map (·.1) = i :: own → LkAt (Gin G pm F0 H0 fp0 t) i → PE X e (LE (Gin G pm F0 H0 fp0 t) w)) : PE X e (LE G (wLockE i w)) := by
  let t : TE := fun σ H Q => ∃ pm F0 H0 fp0 t, pm.map (·.1) = i :: own ∧ LkAt (Gin G pm F0 H0 fp0 t) i ∧ LE (Gin G pm F0 H0 fp0 t) w σ H Q
  have ht : PE X e t := ⟨fun pins s σ H Q I ⟨pm, F0, H0, fp0, t, h1, h2, h⟩ => (hin pm F0 H0 fp0 t h1 h2).run pins s σ H Q I h⟩
  refine ⟨fun pins s σ H Q I hw => ?_⟩
  obtain ⟨F, ρ, fp, Qd, ok, ⟨o, ks, xs, e, h⟩, k⟩ := hw
  obtain ⟨q, us, F1, fp1, s1, ok1, es, f, hd⟩ := lock_open ok e
  have pmE : ((i, V.ref q) :: G.pm).map (·.1) = i :: own := by rw [List.map_cons, hpm]
  rcases hd with hd | ⟨od, hd⟩
  · refine (pe_lock ht).run pins s σ H Q I ⟨q, _, hd, trivial, fun od => ⟨(i, V.ref q) :: G.pm, F1, _, fp1, tabs_put hd trivial (ok1.rch.tab G.tb0), pmE, ⟨q, od, _, List.mem_cons_self, upd_same⟩, F1, _, fp1, Qd, lock_ok ok1 es f hd rfl _, h, fun v H' F' ρ' fp' r fr en rr q' => ?_⟩⟩
    have nq : q ∉ fp1 := fun z => ok1.nf q z f
    obtain ⟨z1, z2, z3, l⟩ := unlock_ok ok1.rch f hd nq rfl en.st (fun a z => List.mem_append_right _ z) en.ok
    exact ⟨z3, k v _ _ _ _ r fr ⟨s1.trans z1, z2, en.nd⟩ (rr.imp (fun r => r.lk l) id) q'⟩
  · refine ht.run pins s σ H Q I ⟨(i, V.ref q) :: G.pm, F1, H, fp1, ok1.rch.tab G.tb0, pmE, ⟨q, od, _, List.mem_cons_self, hd⟩, F1, _, fp1, Qd, ⟨ok1.rs, ok1.nd, ok1.dom, fun p hp => ?_, .refl⟩, h, fun v H' F' ρ' fp' r fr en rr q' => ?_⟩
    · rcases List.mem_cons.mp hp with z | z
      · rw [z]; exact es
      · exact ok1.pm p z
    · exact k v _ _ _ _ r fr ⟨s1.trans en.st, ⟨en.ok.rs, en.ok.nd, en.ok.dom, fun p hp => en.ok.pm p (List.mem_cons_of_mem _ hp), ok1.rch.trans (en.st.less fun a z => List.mem_append_right _ z)⟩, en.nd⟩ rr q'
/-- for k in d -/
def wiDk (i : Nat) : WI := fun ρ K => ∃ ks xs, ρ[i]? = some (some (.dct false ks xs)) ∧ K (ks.map keyD) ρ
theorem it_dk {d : Addr} {o : Obj} {ks : List Key} {us : List V} (e : H d = some (.frz o (.dK (ks.zip us)))) (l : ks.length = us.length) : ItOk G F H fp (Itk d o (ks.zip us)) (ks.map keyD) where
  go := fun i x F1 H1 σ1 ρ1 fp1 _ _ nf s ok hx => by
    have e1 : H1 d = some (.frz o (.dK (ks.zip us))) := s.keep d _ e (.inr fun z => z)
    rw [List.getElem?_map] at hx
    obtain ⟨k, ek, rfl⟩ := Option.map_eq_some_iff.mp hx
    have hi : i < ks.length := (List.getElem?_eq_some_iff.mp ek).1
    refine ⟨⟨e1, by rw [List.length_zip]; omega⟩, fun y H2 ⟨e2, k', v, e3, e4⟩ => ?_⟩
    subst e2 e4
    have : k' = k := by
      rw [List.getElem?_zip_eq_some] at e3
      have := e3.1
      rw [ek] at this; exact (Option.some.inj this).symm
    subst this
    exact ⟨F1, En.refl ok, by cases k' <;> first | exact .int _ | exact .str _⟩
  stop := fun F1 H1 σ1 ρ1 fp1 _ _ nf s ok => ⟨s.keep d _ e (.inr fun z => z), by rw [List.length_map, List.length_zip]; omega⟩
theorem di_dk {tg : Expr} {i : Nat} (hl : LkAt G i) (he : PE X e (tVar i)) : PI X tg e (LW G (wiDk i)) := imI (pi_keys he) fun σ H R q => by
  obtain ⟨F, ρ, fp, Kd, ok, ⟨ks, xs, e, q⟩, k⟩ := q
  obtain ⟨d, o, kvs, hp, h0⟩ := hl
  have e1 : H d = some (.frz o (.dK kvs)) := ok.rch.keep d _ h0 (.inr fun z => z)
  have es := ok.pm _ hp
  obtain ⟨l, fs, r, _, g1, _, _, _⟩ := ok.rs.at_ (i := i) (by rw [List.getElem?_eq_some_iff] at e; exact e.1)
  obtain ⟨v, ev, rp⟩ := g1 _ e
  have : v = .ref d := by
    have z : σ[i]? = some (some (.ref d)) := es
    rw [z] at ev; exact (Option.some.inj (Option.some.inj ev)).symm
  subst this
  cases rp with
  | @dfz _ _ us _ hd f ll rl =>
    have e2 : kvs = ks.zip us := by
      rcases hd with hd | ⟨o', hd⟩
      · rw [e1] at hd; cases hd
      · rw [e1] at hd; cases hd; rfl
    subst e2
    exact ⟨.ref d, es, d, o, rfl, .inl ⟨_, e1, k _ H F ρ fp _ (En.refl ok) (it_dk e1 ll) q⟩⟩
end
end M
/-! M21: slots that do not matter any more are emptied. -/
namespace M
open PySem PySem.Spec PyProof.Rows L2

section
variable {X : Cx} {G : Gc} {u : WS} {st : Stmt} {sts : List Stmt} {vs : List Nat}
/-- behind w the slots vs are empty -/
def wFg (vs : List Nat) (w : WS) : WS := fun Dd ρ => w ⟨fun ρ => Dd.nx (wip ρ vs), Dd.rt, fun ρ => Dd.bk (wip ρ vs), fun ρ => Dd.ct (wip ρ vs)⟩ ρ
/-- ahead of w the slots vs are emptied -/
def wFg0 (vs : List Nat) (w : WS) : WS := fun Dd ρ => w Dd (wip ρ vs)
theorem ls_fg : ∀ D σ H, LS G (wFg vs u) D σ H → LS G u D σ H := fun D σ H q => by
  obtain ⟨F, ρ, fp, Dd, ok, h, k⟩ := q
  refine ⟨F, ρ, fp, _, ok, h, ⟨fun σ' H' F' ρ' fp' s ok' q => ?_, k.rt, fun σ' H' F' ρ' fp' s ok' q => ?_, fun σ' H' F' ρ' fp' s ok' q => ?_⟩⟩
  · obtain ⟨fp2, ok2, sub⟩ := ok'.wip vs
    exact k.nx σ' H' F' _ fp2 (s.less sub) ok2 q
  · obtain ⟨fp2, ok2, sub⟩ := ok'.wip vs
    exact k.bk σ' H' F' _ fp2 (s.less sub) ok2 q
  · obtain ⟨fp2, ok2, sub⟩ := ok'.wip vs
    exact k.ct σ' H' F' _ fp2 (s.less sub) ok2 q
theorem ls_fg0 : ∀ D σ H, LS G (wFg0 vs u) D σ H → LS G u D σ H := fun D σ H q => by
  obtain ⟨F, ρ, fp, Dd, ok, h, k⟩ := q
  obtain ⟨fp2, ok2, sub⟩ := ok.wip vs
  exact ⟨F, _, fp2, Dd, ok2, h, ⟨fun σ' H' F' ρ' fp' s ok' q => k.nx σ' H' F' ρ' fp' (s.more sub) ok' q, fun v σ' H' F' ρ' fp' r fr s => k.rt v σ' H' F' ρ' fp' r fr (s.more sub), fun σ' H' F' ρ' fp' s ok' q => k.bk σ' H' F' ρ' fp' (s.more sub) ok' q, fun σ' H' F' ρ' fp' s ok' q => k.ct σ' H' F' ρ' fp' (s.more sub) ok' q⟩⟩
theorem dss_fg (h : PSs X sts (LS G u)) : PSs X sts (LS G (wFg vs u)) := imSs h ls_fg
theorem ds_fg (h : PS X st (LS G u)) : PS X st (LS G (wFg vs u)) := imS h ls_fg
theorem ds_fg0 (h : PS X st (LS G u)) : PS X st (LS G (wFg0 vs u)) := imS h ls_fg0
end
end M
/-! M22: data in a tuple of data. -/
namespace L2
open PySem PySem.Spec PyProof.Rows
section
variable {X : Cx}
def rInT (K : PySem.W.Frag) : R2 := fun x y H Q => ∃ d ds, Dp K H x d ∧ Dp K H y (.tuple ds) ∧ SeqAt.shaped d = true ∧ SeqAt.shaped (.tuple ds) = true ∧ Q (.bl (ds.any fun z => PyData.eqv z d)) H
def rNotInT (K : PySem.W.Frag) : R2 := fun x y H Q => ∃ d ds, Dp K H x d ∧ Dp K H y (.tuple ds) ∧ SeqAt.shaped d = true ∧ SeqAt.shaped (.tuple ds) = true ∧ Q (.bl (!ds.any fun z => PyData.eqv z d)) H
theorem op_inT (hu : X.A.units + 65 < cLine) : OpR X (compareOp .In) (rInT X.K) := by
  intro pins s σ H x y v u Q I rx ry h
  obtain ⟨d, ds, hd, he, sd, se, q⟩ := h
  obtain ⟨as, r1⟩ := Dp.reads I d x v hd rx
  obtain ⟨bs, r2⟩ := Dp.reads I (.tuple ds) y u he ry
  exact SeqAt.in_tuple_reads r2 r1 (SeqAt.canLay_of_shaped se) (SeqAt.canLay_of_shaped sd) (room_in_shaped sd hu) ⟨.bl _, H, I, rfl, q⟩
theorem op_notInT (hu : X.A.units + 65 < cLine) : OpR X (compareOp .NotIn) (rNotInT X.K) := by
  intro pins s σ H x y v u Q I rx ry h
  obtain ⟨d, ds, hd, he, sd, se, q⟩ := h
  obtain ⟨as, r1⟩ := Dp.reads I d x v hd rx
  obtain ⟨bs, r2⟩ := Dp.reads I (.tuple ds) y u he ry
  exact SeqAt.notIn_tuple_reads r2 r1 (SeqAt.canLay_of_shaped se) (SeqAt.canLay_of_shaped sd) (room_in_shaped sd hu) ⟨.bl _, H, I, rfl, q⟩
end
end L2
namespace M
open PySem PySem.Spec PyProof.Rows L2
section
variable {G : Gc} {X : Cx}
def oInT (g : Bool → Bool) : O2 := fun ρ x y K => ∃ d ds, pk ρ x = some d ∧ pk ρ y = some (.tup ds) ∧ shp d = true ∧ shp (.tup ds) = true ∧ K (.bl (g (ds.any fun z => eqD z d)))
theorem oInT_in : O2Ok G (rInT G.K) (oInT id) := fun F H σ ρ fp v1 v2 x y f1 f2 Kd Q ok r1 r2 nd h k => by
  obtain ⟨d, ds, e1, e2, s1, s2, q⟩ := h
  have t1 := Bool.and_eq_true_iff.mp s1
  have t2 := Bool.and_eq_true_iff.mp s2
  refine ⟨toP d, toPL ds, r1.dp ok e1 t1.1, r2.dp ok e2 t2.1, t1.2, t2.2, ?_⟩
  rw [toPL_any]
  exact k _ H F _ [] (En.refl ok) (.bl _) q
theorem oInT_not : O2Ok G (rNotInT G.K) (oInT not) := fun F H σ ρ fp v1 v2 x y f1 f2 Kd Q ok r1 r2 nd h k => by
  obtain ⟨d, ds, e1, e2, s1, s2, q⟩ := h
  have t1 := Bool.and_eq_true_iff.mp s1
  have t2 := Bool.and_eq_true_iff.mp s2
  refine ⟨toP d, toPL ds, r1.dp ok e1 t1.1, r2.dp ok e2 t2.1, t1.2, t2.2, ?_⟩
  rw [toPL_any]
  exact k _ H F _ [] (En.refl ok) (.bl _) q
def oInB : O2 := oOr oInA (oInT id)
def oNotInB : O2 := oOr oNotInA (oInT not)
theorem c_inB (hK : X.K = G.K) (hu : X.A.units + 65 < cLine) : CmpR X G .In oInB := let ⟨_, h1, h2⟩ := (c_inA (G := G) hK hu).ex; ⟨_, h1.or (op_inT hu), h2.or (hK ▸ oInT_in)⟩
theorem c_notInB (hK : X.K = G.K) (hu : X.A.units + 65 < cLine) : CmpR X G .NotIn oNotInB := let ⟨_, h1, h2⟩ := (c_notInA (G := G) hK hu).ex; ⟨_, h1.or (op_notInT hu), h2.or (hK ▸ oInT_not)⟩
end
end M
/-! M25: tuple.index, list.remove of texts, xs[::-1], dict of a list of pairs. -/
namespace L2
open PySem PySem.Spec PyProof.Rows

/-! ### methods of tuples that have no dict -/
def tTm (K : PySem.W.Frag) (r : V → List V → Hp → VK → Prop) (to : TE) (t : TA) : TE := fun σ H Q => to σ H fun x H1 => ∃ a xs, x = .ref a ∧ SqX K H1 a xs ∧ t σ H1 fun ys H2 => r x ys H2 Q
section
variable {X : Cx} {o e : Expr} {es : List Expr} {to : TE} {t : TA} {name : Str} {apos cpos : Pos} {id : String} {r : V → List V → Hp → VK → Prop}
theorem pe_tm (slot : Slot "tuple" name id) (hty : typeOf (.builtin id) = pure (.type "method_descriptor")) (hm : MtR X id r) (ho : PE X o to) (ha : PA X (e :: es) t)
    (hbase : attributeBase o name X.env (eval o X.env) = eval o X.env := by rfl)
    (hfew : ((backTo cpos (starEach (e :: es) X.env)).all (fun x => !x.1) && (backToKw cpos (keywordEach [] X.env)).all (fun x => x.1.isSome)
      && decide ((e :: es).length + ([] : List Keyword).length + (if ([] : List Keyword).isEmpty then 0 else 1) < 30)) = true := by rfl)
    (hline : (apos.endLine == cpos.line) = true := by rfl) (hs : starEach (e :: es) X.env = (false, eval e X.env) :: starEach es X.env := by rfl) (hplain : (backTo cpos (starEach es X.env)).any (·.1) = false := by rfl) :
    PE X (.Call (.Attribute o name apos) (e :: es) [] cpos) (tTm X.K r to t) := by
  constructor
  intro pins s σ H Q I h
  apply wpAny_Call_method_late hbase hfew hline rfl
  apply thn (ho.run pins s σ H _ I h)
  rintro v s1 ⟨x, H1, J, rx, a, xs, rfl, sx, q1⟩
  obtain rfl : v = Value.ref a := rx
  obtain ⟨ob, g1, g2, g3⟩ := sx.obj J
  refine ⟨"tuple", id, PySem.F.plainAttrs_tuple, slot, hty, ⟨ob, g1, g2⟩, fun b eb => ?_, ?_⟩
  · cases eb
    exact ⟨ob, g1, g3⟩
  · have run := ha.run cpos pins s1 σ H1 _ J q1
    rw [hs] at run ⊢
    apply Calls.callWith_builtin
    · show (false || (backTo cpos (starEach es X.env)).any (·.1)) = false
      rw [hplain]; rfl
    · apply Calls.evalArgs_plain
      apply thn run
      rintro us s2 ⟨vs, H2, J2, r2, q2⟩
      exact hm pins s2 σ H2 (.ref a) vs (.ref a) us Q J2 rfl r2 q2
end

/-! ### list.remove of texts -/
def rRemS : V → List V → Hp → VK → Prop := fun x xs H Q => ∃ (l : Addr) (ys : List Str) (z : Str), x = .ref l ∧ xs = [.str z] ∧ H l = some (.lst (ys.map V.str)) ∧ z ∈ ys ∧ Q .non (upd H l (.lst ((ys.erase z).map V.str)))
theorem erase_at {α β : Type} [BEq α] [LawfulBEq α] (f : α → β) {l : List α} {z : α} (h : z ∈ l) : ∃ j, ∃ hj : j < l.length, l[j] = z ∧ (∀ m (hm : m < l.length), m < j → l[m] ≠ z) ∧ (l.erase z).map f = (l.map f).eraseIdx j := by
  induction l with
  | nil => cases h
  | cons a l ih =>
    by_cases e : a = z
    · subst e
      exact ⟨0, Nat.zero_lt_succ _, rfl, fun m _ hm => by omega, by simp⟩
    · have h' : z ∈ l := by
        rcases List.mem_cons.mp h with h | h
        · exact absurd h.symm e
        · exact h
      obtain ⟨j, hj, e1, e2, e3⟩ := ih h'
      refine ⟨j + 1, Nat.succ_lt_succ hj, by simpa using e1, fun m hm hmj => ?_, ?_⟩
      · cases m with
        | zero => simpa using e
        | succ m => simpa using e2 m (by simpa using hm) (by omega)
      · rw [List.erase_cons_tail (by simpa using e)]
        simp [e3]
theorem vstr_at {ys : List Str} {us : List Value} (r : Vals (ys.map V.str) us) {m : Nat} (h : m < us.length) (h' : m < ys.length) : ∃ t, us[m] = Value.str ys[m] t := by
  obtain ⟨u, hu, ru⟩ := r.get (i := m) (x := .str ys[m]) (by simp [h'])
  obtain ⟨t, rfl⟩ := ru
  obtain ⟨_, e⟩ := List.getElem?_eq_some_iff.mp hu
  exact ⟨t, e⟩
theorem mt_removeS {X : Cx} : MtM X "list.remove" rRemS := by
  intro pins s σ H x xs v us Q I rx rxs h
  obtain ⟨l, ys, z, rfl, rfl, hH, hz, q⟩ := h
  cases rx
  obtain ⟨u, rfl, t, rfl⟩ := rxs.one
  obtain ⟨len, its, n, r, hl, e⟩ := I.lstM hH
  obtain ⟨j, hj, f1, f2, f3⟩ := erase_at V.str hz
  have hlen : its.length = ys.length := by rw [← r.length, List.length_map]
  have hja : j < its.toArray.size := by rw [List.size_toArray]; omega
  have strAt : ∀ m (hm : m < its.toArray.size), ∃ t', ∃ hm' : m < ys.length, its.toArray[m] = Value.str ys[m] t' := fun m hm => by
    have hm2 : m < its.length := by simpa using hm
    obtain ⟨t', et⟩ := vstr_at r hm2 (by omega)
    exact ⟨t', by omega, by simpa using et⟩
  refine call_meets PySem.F.slot_list_remove ⟨_, e, rfl⟩ PySem.F.entry_list_remove (PySem.F.args_list_remove_2 _ _)
    (MeetsSeq.list_remove l its.toArray n (.str z t) (fun w => match w with | .str y _ => y.cps.toList == z.cps.toList | _ => false) ?_ j hja ?_ ?_ (by rw [List.size_toArray]; omega)) ⟨e, ?_⟩
  · intro y hy
    obtain ⟨m, hm, rfl⟩ := Array.getElem_of_mem hy
    obtain ⟨t', hm', et⟩ := strAt m hm
    rw [et]
    exact SeqRoads2.EqGives.str ys[m] z t' t
  · obtain ⟨t', hm', et⟩ := strAt j hja
    rw [et]
    simp [f1]
  · intro m hm hmj
    obtain ⟨t', hm', et⟩ := strAt m hm
    rw [et]
    have := f2 m hm' hmj
    refine beq_eq_false_iff_ne.mpr fun c => this ?_
    rcases hy : ys[m] with ⟨c1⟩
    rcases hz2 : z with ⟨c2⟩
    rw [hy, hz2] at c
    congr 1
    exact Array.toList_inj.mp c
  · have rr := r.eraseIdx j
    rw [← f3] at rr
    refine ⟨.non, _, I.lset (its' := its.eraseIdx j) (t' := s.toks) hH e ?_ rr ?_, rfl, q⟩
    · show its.toArray.eraseIdxIfInBounds j = (its.eraseIdx j).toArray
      rw [List.eraseIdxIfInBounds_toArray]
    · rw [List.length_map]
      have := List.length_erase_le (a := z) (l := ys)
      rw [List.length_map] at len
      omega
end L2
namespace L2
open PySem PySem.Spec PyProof.Rows
/-- a list of pairs with different keys makes the dict of these pairs -/
theorem mergeK_new : ∀ (kvs acc : List (Key × V)), (kvs.map (·.1)).Nodup → (∀ k ∈ kvs.map (·.1), (acc.any fun kv => decide (kv.1 = k)) = false) → mergeK acc kvs = acc ++ kvs
  | [], acc, _, _ => by simp [mergeK]
  | (k, v) :: kvs, acc, nd, no => by
    have n1 : putK acc k v = acc ++ [(k, v)] := by
      unfold putK
      rw [if_neg (by rw [no k (by simp)]; exact Bool.false_ne_true)]
    have nd2 := List.nodup_cons.mp (show (k :: kvs.map (·.1)).Nodup from nd)
    show mergeK (putK acc k v) kvs = acc ++ (k, v) :: kvs
    rw [n1, mergeK_new kvs _ nd2.2 fun j hj => ?_]
    · simp
    · rw [List.any_append, no j (List.mem_cons_of_mem _ hj)]
      have : k ≠ j := fun c => nd2.1 (c ▸ hj)
      simp [this]
end L2
namespace M
open PySem PySem.Spec PyProof.Rows L2

section
variable {G : Gc} {X : Cx} {F F' F1 F2 : Addr → Prop} {H H' H1 H2 : Hp} {σ σ' : L2.St} {ρ ρ' ρ1 ρ2 : Sl} {fp fp' fp1 fp2 fr fr1 fr2 : List Addr} {v v1 v2 : V} {r r1 r2 d : D} {p : Addr} {o : HO}
  {a b c e : Expr} {es : List Expr} {wb wc we : WE} {ta tb tc : WT} {rest : List Expr} {pos : Pos} {K : PySem.W.Frag} {ca : Cax}

theorem Rr.tupX {ds : List D} (ok : Ok G F H σ ρ fp) (h : Rr G F H σ v r fr) (e : pk ρ r = some (.tup ds)) : ∃ (a : Addr) (vs : List V), v = .ref a ∧ SqX G.K H a vs ∧ RpL G.K G.ca F H vs ds [] := by
  obtain ⟨_, rp, sub⟩ := h.see ok e
  clear sub
  cases rp with
  | tup s rl => exact ⟨_, _, rfl, s, rl⟩
/-- a method of a tuple -/
def wTm (o : ON) (wo : WE) (wa : WA) : WE := fun ρ Q => wo ρ fun x ρ1 => (∃ ds, pk ρ1 x = some (.tup ds)) ∧ wa ρ1 fun rs ρ2 => o ρ2 (x :: rs) Q
theorem d_tm {id : String} {name : Str} {apos : Pos} {r : V → List V → Hp → VK → Prop} {o : ON} {wa : WA} {oe : Expr} (hK : X.K = G.K) (slot : Slot "tuple" name id) (hty : typeOf (.builtin id) = pure (.type "method_descriptor")) (hm : MtR X id r) (ho : ONOk G (rM r) o) (he : PE X oe (LE G we)) (ha : PA X (e :: es) (LA G wa))
    (hbase : attributeBase oe name X.env (eval oe X.env) = eval oe X.env := by rfl)
    (hfew : ((backTo pos (starEach (e :: es) X.env)).all (fun x => !x.1) && (backToKw pos (keywordEach [] X.env)).all (fun x => x.1.isSome)
      && decide ((e :: es).length + ([] : List Keyword).length + (if ([] : List Keyword).isEmpty then 0 else 1) < 30)) = true := by rfl)
    (hline : (apos.endLine == pos.line) = true := by rfl) (hs : starEach (e :: es) X.env = (false, eval e X.env) :: starEach es X.env := by rfl) (hplain : (backTo pos (starEach es X.env)).any (·.1) = false := by rfl) :
    PE X (.Call (.Attribute oe name apos) (e :: es) [] pos) (LE G (wTm o we wa)) := imE (pe_tm slot hty hm he ha hbase hfew hline hs hplain) fun σ H Q q => by
  obtain ⟨F, ρ, fp, Qd, ok, h, k⟩ := q
  refine ⟨F, ρ, fp, _, ok, h, fun v1 H1 F1 ρ1 fp1 x f1 en1 rr1 q1 => ?_⟩
  obtain ⟨⟨ds, ex⟩, q1⟩ := q1
  obtain ⟨a, vs, e1, sx, _⟩ := rr1.tupX en1.ok ex
  refine ⟨a, vs, e1, hK ▸ sx, F1, ρ1, fp1, _, en1.ok, q1, fun us H2 F2 ρ2 fp2 rs f2 en2 rr2 q2 => ?_⟩
  have en := en1.trans en2 rr1.dom
  obtain ⟨y, ys, e2, q3⟩ := ho F2 H2 σ ρ2 fp2 (v1 :: us) (x :: rs) (f1 ++ f2) Qd Q en.ok (.cons (rr1.step en2.st en1.ok.nf (nodup_d en1.nd)) rr2) ⟨en.nd, en.hr ok⟩ q2 fun v H3 F3 ρ3 fp3 d f3 en3 rr3 q3 => k v H3 F3 ρ3 fp3 d f3 (en.call en3) rr3 q3
  cases e2
  exact q3
/-- t.index(text) -/
def nIndexT : ON := fun ρ rs K => ∃ r z ds ys, rs = [r, .str z] ∧ pk ρ r = some (.tup ds) ∧ txts ds = some ys ∧ z ∈ ys ∧ K (.int (ys.idxOf z : Nat)) ρ
theorem nIndexT_ok : ONOk G (rM fun x xs H Q => ∃ p, ∃ ys : List Str, ∃ z j, x = .ref p ∧ xs = [.str z] ∧ SqT G.K H p (ys.map V.str) ∧ ys[j]? = some z ∧ (∀ m, m < j → ys[m]? ≠ some z) ∧ Q (.int (j : Nat)) H) nIndexT := fun F H σ ρ fp vs rs fr Kd Q ok rr nd h k => by
  obtain ⟨r, z, ds, ys, rfl, e, e1, hz, q⟩ := h
  obtain ⟨v1, v2, f1, f2, rfl, rfl, r1, r2⟩ := rr.two
  obtain ⟨a, ws, rfl, sx, rl⟩ := r1.tupX ok e
  obtain ⟨rfl, rfl⟩ := r2.str
  have := rl.txts e1
  subst this
  have hlt := List.idxOf_lt_length_of_mem hz
  refine ⟨_, _, rfl, a, ys, z, ys.idxOf z, rfl, rfl, sx.sq, by rw [List.getElem?_eq_getElem hlt, List.getElem_idxOf hlt], fun m hm c => ?_, k _ H F ρ fp _ [] (En.stay ok) (.inl (.int _)) q⟩
  obtain ⟨hm2, e2⟩ := List.getElem?_eq_some_iff.mp c
  have n : (ys[m] == z) = false := by
    have := List.not_of_lt_findIdx (p := fun x => x == z) (xs := ys) (i := m) hm
    simpa using this
  rw [e2] at n
  simp at n
theorem d_tindex {oe : Expr} {wa : WA} {apos : Pos} (hK : X.K = G.K) (he : PE X oe (LE G we)) (ha : PA X [e] (LA G wa)) (hbase : attributeBase oe "index" X.env (eval oe X.env) = eval oe X.env := by rfl)
    (hfew : ((backTo pos (starEach [e] X.env)).all (fun x => !x.1) && (backToKw pos (keywordEach [] X.env)).all (fun x => x.1.isSome) && decide ([e].length + ([] : List Keyword).length + (if ([] : List Keyword).isEmpty then 0 else 1) < 30)) = true := by rfl)
    (hline : (apos.endLine == pos.line) = true := by rfl) (hs : starEach [e] X.env = (false, eval e X.env) :: starEach [] X.env := by rfl) (hplain : (backTo pos (starEach [] X.env)).any (·.1) = false := by rfl) :
    PE X (.Call (.Attribute oe "index" apos) [e] [] pos) (LE G (wTm nIndexT we wa)) := d_tm hK PySem.F.slot_tuple_index PySem.F.type_tuple_index mt_tup_index (hK ▸ nIndexT_ok) he ha hbase hfew hline hs hplain

/-- xs.remove(text) -/
theorem RpL.strs (l : List Str) : RpL K ca F H (l.map V.str) (l.map D.str) [] := by
  induction l with
  | nil => exact .nil
  | cons x l ih => exact .cons (fp := []) (fq := []) (.str x) ih
def nRemS : ON := fun ρ rs K => ∃ i z xs ys, rs = [.sl i, .str z] ∧ ρ[i]? = some (some (.lst true xs)) ∧ txts xs = some ys ∧ z ∈ ys ∧ K .non (ρ.set i (some (.lst true ((ys.erase z).map .str))))
theorem nRemS_ok : ONOk G (rM rRemS) nRemS := fun F H σ ρ fp vs rs fr Kd Q ok rr nd h k => by
  obtain ⟨i, z, xs, ys, rfl, e, e1, hz, q⟩ := h
  obtain ⟨v1, v2, f1, f2, rfl, rfl, r1, r2⟩ := rr.two
  obtain ⟨hσ, rfl⟩ := r1.sl
  obtain ⟨rfl, rfl⟩ := r2.str
  obtain ⟨a, us, rfl, ha, rl, nF, _⟩ := ok.own hσ e
  have := rl.txts e1
  subst this
  obtain ⟨fp2, en⟩ := ok.setL (fr := []) e hσ ha nF (RpL.strs (ys.erase z))
  exact ⟨_, _, rfl, a, ys, z, rfl, rfl, ha, hz, k _ _ F _ fp2 _ [] (by simpa using en) (.inl .non) q⟩
theorem d_remove {oe : Expr} {wa : WA} {apos : Pos} (hK : X.K = G.K) (he : PE X oe (LE G we)) (ha : PA X [e] (LA G wa)) (hbase : attributeBase oe "remove" X.env (eval oe X.env) = eval oe X.env := by rfl)
    (hfew : ((backTo pos (starEach [e] X.env)).all (fun x => !x.1) && (backToKw pos (keywordEach [] X.env)).all (fun x => x.1.isSome) && decide ([e].length + ([] : List Keyword).length + (if ([] : List Keyword).isEmpty then 0 else 1) < 30)) = true := by rfl)
    (hline : (apos.endLine == pos.line) = true := by rfl) (hs : starEach [e] X.env = (false, eval e X.env) :: starEach [] X.env := by rfl) (hplain : (backTo pos (starEach [] X.env)).any (·.1) = false := by rfl) :
    PE X (.Call (.Attribute oe "remove" apos) [e] [] pos) (LE G (wM "list" nRemS we wa)) := d_m hK PySem.F.plainAttrs_list PySem.F.slot_list_remove PySem.F.type_list_remove mt_removeS nRemS_ok he ha hbase hfew hline hs hplain

/-- xs[::-1] -/
theorem RpL.rev : ∀ {ds : List D} {vs : List V}, RpL K ca F H vs ds [] → RpL K ca F H vs.reverse ds.reverse []
  | [], vs, h => by cases h; exact .nil
  | d :: ds, [], h => by cases h
  | d :: ds, v :: vs, h => by
    obtain ⟨r, t⟩ := h.nil_of
    rw [List.reverse_cons, List.reverse_cons]
    exact (RpL.rev t).app (.one r)
def wRevL (w : WE) : WE := fun ρ Q => w ρ fun x ρ1 => ∃ b xs, pk ρ1 x = some (.lst b xs) ∧ Q (.lst true xs.reverse) ρ1
theorem d_revL {k : Nat} {p1 p2 p3 : Pos} (hK : X.K = G.K) (he : PE X e (LE G we)) : PE X (.Subscript e (.Slice none none (some (.UnaryOp .USub (.Constant (.int 1) k p1) p2)) p3) pos) (LE G (wRevL we)) := imE (pe_revL he) fun σ H Q q => by
  obtain ⟨F, ρ, fp, Qd, ok, h, k⟩ := q
  refine ⟨F, ρ, fp, _, ok, h, fun v1 H1 F1 ρ1 fp1 x f1 en1 rr1 q1 => ?_⟩
  obtain ⟨b, xs, ex, q1⟩ := q1
  obtain ⟨a, vs, e1, ha, rl⟩ := rr1.lst en1.ok ex
  refine ⟨a, vs, e1, hK ▸ .of ha, fun p hp => k _ _ F1 ρ1 fp1 _ [p] (en1.drop (En.own en1.ok hp)) (.inl (.low upd_same (en1.ok.not_none hp).1 (rl.rev.new hp))) q1⟩

/-- dict(a list of pairs) -/
theorem Rp.keyD {k : Key} (h : Rp K ca F H v (M.keyD k) fr) : v = kV k := by
  cases k <;> cases h <;> rfl
def nDictP : ON := fun ρ rs K => ∃ r b, ∃ kvs : List (Key × D), rs = [r] ∧ pk ρ r = some (.lst b (kvs.map fun kv => .tup [keyD kv.1, kv.2])) ∧ (kvs.map (·.1)).Nodup ∧ K (.dct true (kvs.map (·.1)) (kvs.map (·.2))) ρ
theorem RpL.prs : ∀ {kvs : List (Key × D)} {vs : List V}, RpL K ca F H vs (kvs.map fun kv => .tup [keyD kv.1, kv.2]) [] →
    ∃ (ps : List Addr) (us : List V), vs = ps.map V.ref ∧ (kvs.map (·.1)).length = us.length ∧ Paired (fun p kv => SqT K H p [kV kv.1, kv.2]) ps ((kvs.map (·.1)).zip us) ∧ RpL K ca F H us (kvs.map (·.2)) []
  | [], vs, h => by cases h; exact ⟨[], [], rfl, rfl, .nil, .nil⟩
  | kv :: kvs, [], h => by cases h
  | kv :: kvs, v :: vs, h => by
    obtain ⟨r, t⟩ := h.nil_of
    obtain ⟨ps, us, e1, e2, e3, e4⟩ := RpL.prs t
    cases r with
    | tup s rl =>
      rename_i a ws
      match ws, rl with
      | w1 :: w2 :: [], rl =>
        obtain ⟨q1, q2⟩ := rl.nil_of
        obtain ⟨q3, _⟩ := q2.nil_of
        have := q1.keyD
        subst this
        exact ⟨a :: ps, w2 :: us, by rw [e1]; rfl, by simpa using e2, .cons s.sq e3, .cons (fp := []) (fq := []) q3 e4⟩
      | [], rl => cases rl
      | [_], rl => exact absurd rl.length (by simp)
      | _ :: _ :: _ :: _, rl => exact absurd rl.length (by simp)
theorem nDictP_ok : ONOk G (fun xs H Q => ∃ (a : Addr) (ps : List Addr) (kvs : List (Key × V)), xs = [.ref a] ∧ SqL G.K H a (ps.map V.ref) ∧ Paired (fun p kv => SqT G.K H p [kV kv.1, kv.2]) ps kvs ∧
    ∀ p, H p = none → Q (.ref p) (upd H p (.dK (mergeK [] kvs)))) nDictP := fun F H σ ρ fp vs rs fr Kd Q ok rr nd h k => by
  obtain ⟨r, b, kvs, rfl, e, hn, q⟩ := h
  obtain ⟨v, rfl, r1⟩ := rr.one
  obtain ⟨a, ws, rfl, ha, rl⟩ := r1.lst ok e
  obtain ⟨ps, us, rfl, e2, e3, e4⟩ := rl.prs
  have km : (((kvs.map (·.1)).zip us).map (·.1)) = kvs.map (·.1) := List.map_fst_zip (by omega)
  refine ⟨a, ps, _, rfl, .of ha, e3, fun p hp => ?_⟩
  rw [mergeK_new _ _ (by rw [km]; exact hn) fun _ _ => rfl, List.nil_append]
  exact k _ _ F ρ fp _ [p] (En.own ok hp).wide (.inl (.dow upd_same (ok.not_none hp).1 e2 (e4.new hp))) q
theorem d_dictP {p : Pos} {wa : WA} (hc : X.calm = true) (hK : X.K = G.K) (hg : Gl X "dict") (hm : X.mg "dict" = none) (ha : PA X (e :: es) (LA G wa)) (he : starEach (e :: es) X.env = (false, eval e X.env) :: starEach es X.env := by rfl) (hpl : (backTo pos (starEach es X.env)).any (·.1) = false := by rfl) :
    PE X (.Call (.Name "dict" p) (e :: es) [] pos) (LE G (wCB nDictP wa)) := d_cty (call_dictP hc) (hK ▸ nDictP_ok) hg hm (by decide +kernel) ha (by decide) (by decide) he hpl
end
end M
/-! M26: sorted(texts, key=order.index), order a tuple of texts. -/
namespace L2
open PySem PySem.Spec PyProof.Rows

namespace Bnd
open PySem.Calls
theorem m_tindex : TMeth "tuple" "index" "tuple.index" "tuple.__getattribute__" where
  look := F.slot_tuple_index.lookup
  kind := F.type_tuple_index
  owner := by
    rw [show ".".intercalate ("tuple.index".cutAt '.').dropLast = "tuple" from by first | decide +kernel | kernel_rfl]
    rw [isSubtype_type]; kernel_rfl
  plainName := by decide +kernel
  gaS := F.slot_tuple_getattribute
  gaE := F.entry_tuple_ga
  gaA := F.args_tuple_getattribute_2
theorem own_seq {h : Heap} {a : Addr} {T : String} {xs : Array Value} {k : Nat} {sl : Array (Option Value)} (hx : h.get? a = some { cls := .type T, dict := none, data := .seq xs k, slots := sl }) : OwnNone h a := by
  unfold OwnNone Builtin.ObjectAttr.ownDict
  intros
  repeat (any_goals (first | assumption | wp_step))
theorem tuple_module : isSubtype (.type "tuple") (.type "module") = pure false := by rw [isSubtype_type]; kernel_rfl
def sigTi : Manifest.Signature := ⟨.positional, "tuple.index", "index", .self, [⟨"value", .posOnly, true⟩, ⟨"start", .posOnly, false⟩, ⟨"stop", .posOnly, false⟩]⟩
theorem sigTi_at : Manifest.signature? "tuple.index" = some sigTi := by
  rw [signature?_of (id := "tuple.index") (n := "xedni".toList) (o := "elput".toList) (by kernel_rfl) F.owner_tuple]; kernel_rfl
theorem kindTi : builtinKind "tuple.index" = some .method := by first | decide +kernel | kernel_rfl
theorem quietTi {as : Args} : (Code.builtin "tuple.index" as).quiet = true := Code.quiet_builtin _ (by decide +kernel)
theorem checkTi {s : Shared} {E : Value → Shared → Prop} {M : Model} {A : Around} {p : Addr} {o : Obj} {xs : Array Value} {n : Nat} {Q : Unit → Shared → Prop} (a : Value) (ho : s.heap.get? p = some o) (hc : o.cls = .type "tuple") (hd : o.data = .seq xs n) (hQ : Q () s) :
    wpAny M A (checkBoundCall "tuple.index" ⟨[.ref p, a], []⟩) Q E s := by
  apply ReC.bound_check sigTi_at kindTi tuple_module (by decide +kernel) ho hc _ _ hQ
  · intro c e
    rw [hd] at e
    cases e
  · kernel_rfl
end Bnd

section
variable {X : Cx} {pins : List (Addr × Obj)} {σ : St} {H : Hp} {s : Shared}
/-- a tuple that has no dict, whole -/
theorem SqX.whole {a : Addr} {xs : List V} (I : Inv X pins σ H s) (h : SqX X.K H a xs) : ∃ (its : List Value) (n : Nat) (sl : Array (Option Value)), Vals xs its ∧ its.length ≤ sizeLine ∧ s.heap.get? a = some { cls := .type "tuple", dict := none, data := .seq its.toArray n, slots := sl } := by
  obtain ⟨its, r, ⟨⟨c, dd, dt, sl⟩, e, e1, n, e2⟩, hz⟩ := I.tuple h.sq
  obtain ⟨ob, g1, g2, g3⟩ := h.obj I
  rw [e] at g1
  cases g1
  simp only at e1 e2 g3
  subst e1
  subst e2
  subst g3
  exact ⟨its, n, sl, r, by rw [← r.length]; exact hz, e⟩
/-- t.index as a value -/
def tBndT (K : PySem.W.Frag) (ta : TE) : TE := fun σ H Q => ta σ H fun x H1 => ∃ b xs, x = .ref b ∧ SqX K H1 b xs ∧ ∀ q, H1 q = none → Q (.ref q) (upd H1 q (bndHO q "tuple.index" b))
theorem pe_bndT {e : Expr} {ta : TE} {pos : Pos} (he : PE X e ta) (hb : attributeBase e "index" X.env (eval e X.env) = eval e X.env := by rfl) : PE X (.Attribute e "index" pos) (tBndT X.K ta) := by
  constructor
  intro pins s σ H Q I h
  apply attr_of hb
  apply thn (he.run pins s σ H _ I h)
  rintro u s1 ⟨x, H1, J, rx, b, xs, rfl, sx, q⟩
  obtain rfl : u = Value.ref b := rx
  obtain ⟨its, n, sl, r, hz, eo⟩ := sx.whole J
  apply Bnd.get_T Bnd.m_tindex eo rfl (Bnd.own_seq eo)
  have new : (s1.heap.push (SreS.bndO "tuple.index" (.ref b))).get? s1.heap.objs.size = some (SreS.bndO "tuple.index" (.ref b)) := Heap.get?_push_size _ rfl
  refine ⟨.ref s1.heap.objs.size, upd H1 s1.heap.objs.size (bndHO s1.heap.objs.size "tuple.index" b), ?_, rfl, q _ (J.hok.fresh (Nat.le_refl _))⟩
  apply J.laid (t' := s1.toks + 1) (a := s1.heap.objs.size) (o := bndHO s1.heap.objs.size "tuple.index" b) (h' := s1.heap.push (SreS.bndO "tuple.index" (.ref b))) (fun b u q => Heap.get?_push_of_some _ q) (Nat.le_refl _)
  exact ⟨new, ⟨_, new⟩, fun h1 h2 f k => k _ f⟩
def cpsEq (z : Str) : Value → Bool
  | .str y _ => y.cps.toList == z.cps.toList
  | _ => false
theorem cps_eq {a b : Str} : (a.cps.toList == b.cps.toList) = true ↔ a = b := by
  constructor
  · intro h
    rcases a with ⟨a⟩
    rcases b with ⟨b⟩
    congr 1
    exact Array.toList_inj.mp (by simpa using h)
  · rintro rfl
    simp
/-- one call of a bound t.index -/
theorem turn_ti {A : Around} {q b : Addr} {ws : List Str} {its : List Value} {n : Nat} {sl : Array (Option Value)} {x : Str} {t tk : Tok} {h : Heap} (g0 : Array GenState) (d0 : Drawn) (os : OsState) (hq : h.get? q = some (SreS.bndO "tuple.index" (.ref b)))
    (hb : h.get? b = some { cls := .type "tuple", dict := none, data := .seq its.toArray n, slots := sl }) (r : Vals (ws.map V.str) its) (hx : x ∈ ws) :
    wpAny (model X.prog X.w) A (call (.ref q) [.str x t]) (PySem.W.KeyPure (.int (ws.idxOf x : Nat)) ⟨h, g0, d0, tk, os⟩) (fun _ _ => False) ⟨h, g0, d0, tk, os⟩ := by
  have len : its.length = ws.length := by rw [← r.length, List.length_map]
  have lt := List.idxOf_lt_length_of_mem hx
  have strAt : ∀ m (hm : m < its.toArray.size), ∃ t', ∃ hm' : m < ws.length, its.toArray[m] = Value.str ws[m] t' := fun m hm => by
    have hm2 : m < its.length := by simpa using hm
    obtain ⟨t', et⟩ := vstr_at r hm2 (by omega)
    exact ⟨t', by omega, by simpa using et⟩
  refine Bnd.call_bndM hq (fun E' Q' w => Bnd.checkTi _ hb rfl rfl w) Bnd.quietTi PySem.F.entry_tuple_index PySem.F.slot_tuple_index.plain
    (TI.tuple_indexAt b its.toArray n none sl (.str x t) (cpsEq x) (ws.idxOf x) (by rw [List.size_toArray]; omega) ?_ ?_) ⟨hb, ?_, ?_⟩
  · obtain ⟨t', hm', et⟩ := strAt (ws.idxOf x) (by rw [List.size_toArray]; omega)
    rw [et]
    exact cps_eq.mpr (List.getElem_idxOf hm')
  · intro m hm hlt
    obtain ⟨t', hm', et⟩ := strAt m hm
    rw [et]
    have no : ws[m] ≠ x := fun c => by
      have := List.not_of_lt_findIdx (p := fun y => y == x) (xs := ws) (i := m) hlt
      simp [c] at this
    exact Bool.eq_false_iff.mpr fun c => no (cps_eq.mp c)
  · intro y hy
    obtain ⟨m, hm, rfl⟩ := Array.getElem_of_mem hy
    obtain ⟨t', hm', et⟩ := strAt m hm
    rw [et]
    exact (SeqRoads2.EqGives.str ws[m] x t' t).at _ _
  · exact ⟨h, tk + 1, rfl, fun b o e => e, .int _ _⟩

theorem vals_each {ys : List Str} {its : List Value} (r : Vals (ys.map V.str) its) : PySem.W.EachIs (fun v x => ∃ t, v = Value.str x t) its ys := by
  induction ys generalizing its with
  | nil => cases r; exact .nil
  | cons y ys ih =>
    cases r with
    | cons p q => exact .cons p (ih q)
theorem each_vals {ys : List Str} {its : List Value} (r : PySem.W.EachIs (fun v x => ∃ t, v = Value.str x t) its ys) : Vals (ys.map V.str) its := by
  induction ys generalizing its with
  | nil => cases r; exact .nil
  | cons y ys ih =>
    cases r with
    | cons p q => exact .cons p (ih q)
/-- by their places in ws -/
def byIx (ws ys : List Str) : List Str := ys.mergeSort fun a b => decide ((ws.idxOf a : Int) ≤ ws.idxOf b)
def rSortIx (K : PySem.W.Frag) : List V → List V → Hp → VK → Prop := fun vs zs H Q => ∃ (a q b : Addr) (ys ws : List Str), vs = [.ref a] ∧ zs = [.ref q] ∧ SqL K H a (ys.map V.str) ∧ H q = some (bndHO q "tuple.index" b) ∧ SqX K H b (ws.map V.str) ∧
  (∀ y ∈ ys, y ∈ ws) ∧ ∀ p, H p = none → Q (.ref p) (upd H p (.lst ((byIx ws ys).map V.str)))
theorem cr_sortIx (hu : X.A.units + 64 < cLine) : CallRK X (.builtin "sorted") [Str.ofString "key"] (rSortIx X.K) := by
  intro pins s σ H vs zs us kw Q I r rz h
  obtain ⟨a, q, b, ys, ws, rfl, rfl, ha, hq, sb, hm, k⟩ := h
  obtain rfl := Vals.ref1 r
  obtain rfl := Vals.ref1 rz
  obtain ⟨its, rv, pl, hz⟩ := I.list ha
  obtain ⟨jts, n, sl, rj, hzj, eb⟩ := sb.whole I
  have eq0 := bnd_at I hq
  obtain ⟨hp, g0, d0, tk0, os0⟩ := s
  rw [List.length_map] at hz
  refine PySem.W.sorted_key_data (b := false) (fun x : Str => PyData.int (ws.idxOf x : Nat)) pl.isList (vals_each rv) (PySem.W.AllAlike.of fun _ _ => rfl) (PySem.W.Sortable.others fun _ => ⟨(nomatch ·), fun _ => (nomatch ·)⟩) hz (fun x _ => ?_) (PyProof.Rows.ksk_s1 _ _) (fun _ => PyProof.Rows.ksk_l1 _ _) (fun _ => PyProof.Rows.ksk_t1 _ _) ?_ ?_
  · simp [PyData.depth]
    omega
  · rintro v x ⟨t, rfl⟩ hx h tk kp
    exact turn_ti g0 d0 os0 (kp _ _ eq0) (kp _ _ eb) rj (hm x hx)
  · intro out c h' tk kp fr hD hl eo
    rw [PySem.W.dataLe_int] at eo
    have := each_vals eo
    refine ⟨.ref (hp.objs.size + 1), upd H (hp.objs.size + 1) (.lst ((byIx ws ys).map V.str)), I.laid (t' := tk) (fun b o e => kp b o e) (Nat.le_succ _) ⟨?_, out, c, this, hD⟩, rfl, k _ (I.hok.fresh (Nat.le_succ _))⟩
    rw [List.length_map]
    unfold byIx
    rw [List.length_mergeSort]
    exact hz
end
end L2
namespace M
open PySem PySem.Spec PyProof.Rows L2
section
variable {G : Gc} {X : Cx} {e e1 e2 : Expr} {w1 w2 : WE} {wa : WA} {pos : Pos}
/-- sorted(texts, key=order.index) -/
def wSortIx (wa : WA) (w2 : WE) : WE := fun ρ Q => wa ρ fun rs ρ1 => w2 ρ1 fun y ρ2 => ∃ x b xs ys ds ws, rs = [x] ∧ pk ρ2 x = some (.lst b xs) ∧ txts xs = some ys ∧ pk ρ2 y = some (.tup ds) ∧ txts ds = some ws ∧ (∀ y ∈ ys, y ∈ ws) ∧
  Q (.lst true ((byIx ws ys).map .str)) ρ2
theorem d_sortIx {p apos kp : Pos} (hu : X.A.units + 64 < cLine) (hK : X.K = G.K) (hg : Gl X "sorted") (hm : X.mg "sorted" = none) (h1 : PA X [e1] (LA G wa)) (h2 : PE X e2 (LE G w2)) (hb : attributeBase e2 "index" X.env (eval e2 X.env) = eval e2 X.env := by rfl)
    (he : backTo pos (starEach [e1] X.env) = (false, eval e1 X.env) :: backTo pos (starEach [] X.env) := by rfl) (hpl : (backTo pos (starEach [e1] X.env)).any (·.1) = false := by rfl)
    (hall : (backToKw pos (keywordEach [⟨some "key", .Attribute e2 "index" apos, kp⟩] X.env)).all (·.1.isSome) = true := by rfl) (hnone : (backToKw pos (keywordEach [⟨some "key", .Attribute e2 "index" apos, kp⟩] X.env)).any (·.1.isNone) = false := by rfl)
    (hks : (backToKw pos (keywordEach [⟨some "key", .Attribute e2 "index" apos, kp⟩] X.env)).filterMap (·.1) = [Str.ofString "key"] := by rfl) :
    PE X (.Call (.Name "sorted" p) [e1] [⟨some "key", .Attribute e2 "index" apos, kp⟩] pos) (LE G (wSortIx wa w2)) :=
  imE (pe_callBK (cr_sortIx hu) hg hm (by decide +kernel) h1 (pk_cons (pe_bndT h2 hb) pk_nil) (by decide) (by decide) he hpl hall hnone hks) fun σ H Q q => by
  obtain ⟨F, ρ, fp, Qd, ok, h, k⟩ := q
  refine ⟨F, ρ, fp, _, ok, h, fun vs1 H1 F1 ρ1 fp1 rs f1 en1 rr1 q1 => ?_⟩
  refine ⟨F1, ρ1, fp1, _, en1.ok, q1, fun v2 H2 F2 ρ2 fp2 y f2 en2 rr2 q2 => ?_⟩
  obtain ⟨x, b, xs, ys, ds, ws, rfl, ex, ex2, ey, ey2, hm, q2⟩ := q2
  obtain ⟨v1, rfl, r1⟩ := (rr1.step en2.st en1.ok.nf (nodup_d en1.nd)).one
  obtain ⟨a, vs, rfl, ha, rl⟩ := r1.lst en2.ok ex
  obtain ⟨c, us, rfl, sc, rc⟩ := rr2.tupX en2.ok ey
  have := rl.txts ex2
  subst this
  have := rc.txts ey2
  subst this
  refine ⟨c, _, rfl, hK ▸ sc, fun q hq => ?_⟩
  have en3 := En.tup (o := bndHO q "tuple.index" c) en2.ok hq
  refine ⟨a, q, c, ys, ws, rfl, rfl, .of (by rw [upd_ne (ne_of_none ha hq)]; exact ha), upd_same, ?_, hm, fun p hp => ?_⟩
  · rw [hK]
    exact sqX_keep (fun b o e n => by rw [upd_ne (ne_of_none e hq)]; exact e) sc
  · exact k _ _ F2 ρ2 fp2 _ [p] (en1.drop (en2.drop (en3.drop (En.own en3.ok hp)))) (.inl (.low upd_same (en3.ok.not_none hp).1 ((RpL.strs _).new hp))) q2
end
end M
/-! M27: len(set(t)), t a tuple of different texts. -/
namespace L2
open PySem PySem.Spec PyProof.Rows
section
variable {prog : Program} {w : World} {A : Around} {R : Result → Shared → Prop} {it : Addr} {fp wr : List Addr} {G : Array GenState → Array GenState → Prop} {n : Nat} {P : Nat → Value → Prop} {St : Nat → Shared → Prop}
/-- the texts ahead of place i -/
def ahead (xs : List Str) (i : Nat) (k : Str) : Bool := (xs.take i).any (· == k)
theorem ahead_step {xs : List Str} {i : Nat} (h : i < xs.length) (k : Str) : (ahead xs i k || decide (k = xs.getD i Str.empty)) = ahead xs (i + 1) k := by
  unfold ahead
  rw [List.take_add_one, List.getElem?_eq_getElem h, List.any_append, List.getD_eq_getElem?_getD, List.getElem?_eq_getElem h]
  simp only [Option.toList, List.any_cons, List.any_nil, Bool.or_false, Option.getD]
  congr 1
  by_cases e : xs[i] = k
  · simp [e]
  · have e' : ¬ k = xs[i] := fun c => e c.symm
    simp [e, e']
theorem ahead_no {xs : List Str} (nd : xs.Nodup) {i : Nat} (h : i < xs.length) : ahead xs i (xs.getD i Str.empty) = false := by
  unfold ahead
  rw [List.getD_eq_getElem?_getD, List.getElem?_eq_getElem h]
  rw [List.any_eq_false]
  intro x hx c
  have c2 : x = xs[i] := by simpa using c
  subst c2
  obtain ⟨j, hj, ej⟩ := List.mem_take_iff_getElem.mp hx
  exact List.pairwise_iff_getElem.mp nd j i (by omega) h (by omega) ej
/-- how many different ones stand ahead of place i -/
def cntD (xs : List Str) : Nat → Nat
  | 0 => 0
  | i + 1 => if ahead xs i (xs.getD i Str.empty) then cntD xs i else cntD xs i + 1
theorem cntD_le {xs : List Str} : ∀ i, cntD xs i ≤ i
  | 0 => Nat.le_refl _
  | i + 1 => by
    have := cntD_le (xs := xs) i
    unfold cntD
    split <;> omega
theorem cntD_nd {xs : List Str} (nd : xs.Nodup) : ∀ i, i ≤ xs.length → cntD xs i = i
  | 0, _ => rfl
  | i + 1, h => by
    unfold cntD
    rw [ahead_no nd (by omega), cntD_nd nd i (by omega)]
    rfl
/-- fewer where one stands twice -/
theorem nd_cntD {xs : List Str} (h : cntD xs xs.length = xs.length) : xs.Nodup := by
  have key : ∀ k, k ≤ xs.length → cntD xs (xs.length - k) = xs.length - k := by
    intro k
    induction k with
    | zero => exact fun _ => h
    | succ k ih =>
      intro hk
      have h1 := ih (by omega)
      rw [show xs.length - k = (xs.length - (k + 1)) + 1 by omega] at h1
      unfold cntD at h1
      have := cntD_le (xs := xs) (xs.length - (k + 1))
      split at h1 <;> omega
  refine List.pairwise_iff_getElem.mpr fun i j hi hj hij e => ?_
  have h1 := key (xs.length - (j + 1)) (by omega)
  rw [show xs.length - (xs.length - (j + 1)) = j + 1 by omega] at h1
  unfold cntD at h1
  have h2 : ahead xs j (xs.getD j Str.empty) = true := by
    unfold ahead
    rw [List.any_eq_true]
    refine ⟨xs[i], List.mem_take_iff_getElem.mpr ⟨i, by omega, rfl⟩, ?_⟩
    rw [List.getD_eq_getElem?_getD, List.getElem?_eq_getElem hj, e]
    simp
  rw [h2] at h1
  have := cntD_le (xs := xs) j
  simp at h1
  omega
theorem set_turns (W : WalksS prog w A.in1 it fp wr G n P St) (q : Addr) (nq : q ∉ fp) (xs : List Str) (ex : xs.length = n) (few : n + 1 < scanBound) (val : ∀ i v, P i v → ∃ t, v = .str (xs.getD i Str.empty) t) :
    ∀ (left i : Nat) (s : Shared), n - i = left → i ≤ n → St i s → s.heap.SetOf (PySem.strKind prog w) q (ahead xs i) (cntD xs i) →
      (∀ s', Moved (q :: wr) G s s' → s'.heap.SetOf (PySem.strKind prog w) q (ahead xs n) (cntD xs n) → R (.ok (.ret .none)) s') →
      codeAny (model prog w) A (.builtin "set.update.loop" ⟨[.ref q, .ref it], []⟩) R s := by
  have nw : q ∉ wr := fun c => nq (W.sub _ c)
  have keep : ∀ {s s' : Shared} {f : Str → Bool} {m : Nat}, Moved wr G s s' → s.heap.SetOf (PySem.strKind prog w) q f m → s'.heap.SetOf (PySem.strKind prog w) q f m := fun mv z => by
    obtain ⟨o, es, ep, tb, eo, more⟩ := z
    exact ⟨o, es, ep, tb, mv.heap q _ nw eo, more⟩
  have wider : ∀ {s s' : Shared}, Moved wr G s s' → Moved (q :: wr) G s s' := fun mv => mv.mono fun b c => List.mem_cons_of_mem _ c
  intro left
  induction left with
  | zero =>
    intro i s e0 ei st hs fin
    obtain rfl : i = n := by omega
    apply codeAny_builtin PyProof.Rows.F.entry_set_update_loop
    rw [Around.under_plainId PyProof.Rows.F.plain_set_update_loop _]
    show wpAny _ _ (pyNext (.ref it) >>= _) _ _ _
    apply wpAny_bind
    apply W.done s _ _ st
    intro s' mv
    show wpAny _ _ (ret Value.none) _ _ _
    exact wpAny_pure (fin s' (wider mv) (keep mv hs))
  | succ left ih =>
    intro i s e0 ei st hs fin
    have lt : i < n := by omega
    apply codeAny_builtin PyProof.Rows.F.entry_set_update_loop
    rw [Around.under_plainId PyProof.Rows.F.plain_set_update_loop _]
    show wpAny _ _ (pyNext (.ref it) >>= _) _ _ _
    apply wpAny_bind
    apply W.item i s _ _ lt st
    intro v s' pv st' mv
    obtain ⟨t, rfl⟩ := val i v pv
    have hs' := keep mv hs
    show wpAny _ _ (holding [Value.str (xs.getD i Str.empty) t] (setAdd q (.str (xs.getD i Str.empty) t)) >>= _) _ _ s'
    apply wpAny_bind
    apply wpAny_holding
    unfold setAdd
    apply wpAny_holding
    apply wpAny_bind
    apply (PySem.strKind prog w).pyHash (k := xs.getD i Str.empty) (strKind_is _ _ _ _)
    apply wpAny_setAddHashed_of (knd := PySem.strKind prog w) (s := { s' with toks := s'.toks + 1 }) (strKind_is _ _ _ _) rfl hs' (by have := cntD_le (xs := xs) i; omega)
    intro h' only hs2
    have hs3 : h'.SetOf (PySem.strKind prog w) q (ahead xs (i + 1)) (cntD xs (i + 1)) := by
      refine SetOf_congr hs2 (fun k => (ahead_step (by omega) k)) ?_
      rfl
    have same : ∀ b o, b ≠ q → s'.heap.get? b = some o → h'.get? b = some o := fun b o nb e => by
      rw [only.2 b nb]
      exact e
    refine wpAny_pure ⟨plainId_quiet PyProof.Rows.F.plain_set_update_loop _, ih (i + 1) _ (by omega) lt ?_ hs3 fun s2 mv2 hs4 => fin s2 ?_ hs4⟩
    · exact W.frame _ s' _ _ st' (Nat.le_succ _) fun b hb o e => same b o (fun c => nq (c ▸ hb)) e
    · exact Moved.trans W.gtrans ((wider mv).then_heap (Nat.le_succ _) fun b o nb e => same b o (fun c => nb (c ▸ List.mem_cons_self)) e) mv2
end

section
variable {prog : Program} {w : World} {A : Around} {E : Value → Shared → Prop} {s : Shared}
/-- what stands behind set(t) -/
def SetDone (prog : Program) (w : World) (s : Shared) (xs : List Str) (r : Value) (s2 : Shared) : Prop := ∃ (h' : Heap) (tk : Nat), s2 = { s with heap := h', toks := tk } ∧
  h'.SetOf (PySem.strKind prog w) s.heap.objs.size (ahead xs xs.length) (cntD xs xs.length) ∧ (∀ b o, b < s.heap.objs.size → s.heap.get? b = some o → h'.get? b = some o)
/-- set.__init__ of the new set and a tuple of different texts -/
theorem init_tupS {l : Addr} {its : Array Value} {xs : List Str} {led : Bool} (hd : A.handled = none) (tup : s.heap.IsTuple l its) (texts : PyProof.Rows.StrsAre its.toList xs) (few : xs.length + 1 < scanBound) :
    codeAny (model prog w) A (.call (.builtin "set.__init__") ⟨[.ref s.heap.objs.size, .ref l], []⟩) (wants (fun r s2 => r = .none ∧ SetDone prog w s xs r s2) E)
      { s with heap := s.heap.push { cls := .type "set", dict := none, data := .set #[] 0 (.fresh 0 0 led) } } := by
  have made : (s.heap.push { cls := .type "set", dict := none, data := .set #[] 0 (.fresh 0 0 led) }).get? s.heap.objs.size = some { cls := .type "set", dict := none, data := .set #[] 0 (.fresh 0 0 led) } := Heap.get?_push_size _ rfl
  have isSet : Shared.TypeIs { s with heap := s.heap.push { cls := .type "set", dict := none, data := .set #[] 0 (.fresh 0 0 led) } } (.ref s.heap.objs.size) "set" := ⟨_, made, rfl⟩
  apply codeAny_call_builtin PySem.F.called_set.init.plain PySem.F.entry_set_init
  apply check_set_init_1 isSet
  obtain ⟨⟨oc, od, odt, osl⟩, eo, ec, ep, ed⟩ := tup
  simp only at ec ed
  subst ec
  subst ed
  have lo := Heap.lt_size eo
  have eo2 : (s.heap.push { cls := .type "set", dict := none, data := .set #[] 0 (.fresh 0 0 led) }).get? l = some { cls := .type "tuple", dict := od, data := .seq its ep, slots := osl } := Heap.get?_push_of_some _ eo
  have tup2 : (s.heap.push { cls := .type "set", dict := none, data := .set #[] 0 (.fresh 0 0 led) }).IsTuple l its := ⟨_, eo2, rfl, ep, rfl⟩
  have noSet := PySem.F.sub_tuple_set
  have noFz := PySem.F.sub_tuple_frozenset
  have noDict : (Value.type "tuple" == Value.type "dict") = false := by decide
  unfold Builtin.«set.__init__» noKeywords Builtin.Frozenset.updateFrom
  generalize he : pyIter = PI
  wp_walk
  subst he
  apply wpAny_pyIter_tuple tup2
  apply wpAny_bind
  apply wpAny_runValue
  have len : xs.length = its.size := by rw [← StrsAre.len_eq texts, Array.length_toList]
  have apart : l ≠ (s.heap.push { cls := .type "set", dict := none, data := .set #[] 0 (.fresh 0 0 led) }).objs.size := by
    rw [Heap.size_push]
    exact Nat.ne_of_lt (Nat.lt_succ_of_lt lo)
  have out : s.heap.objs.size ∉ [(s.heap.push { cls := .type "set", dict := none, data := .set #[] 0 (.fresh 0 0 led) }).objs.size, l] := by
    rw [Heap.size_push]
    simp only [List.mem_cons, List.mem_singleton, List.not_mem_nil, or_false, not_or]
    exact ⟨Nat.ne_of_lt (Nat.lt_succ_self _), Nat.ne_of_gt lo⟩
  refine set_turns ((Walks.tuple (by simp [hd]) _ l apart its).toS) s.heap.objs.size out xs len (by omega) (fun i v hv => SS.strs_at texts i v (by rw [Array.getElem?_toList]; exact hv)) (its.size - 0) 0 _ (by omega) (Nat.zero_le _)
    ⟨⟨_, Heap.get?_push_size _ rfl, rfl, rfl⟩, tup2.push _⟩ ?_ ?_
  · refine SetOf_congr ((PyProof.Rows.setObjOf_fresh (knd := PySem.strKind prog w) led).setOf (Heap.get?_push_of_some _ made) (by unfold scanBound; omega)) (fun _ => rfl) rfl
  · rintro ⟨h', g', d', tk', os'⟩ mv hs
    obtain rfl : g' = s.gens := mv.gens
    obtain rfl : d' = s.drawn := mv.drawn
    obtain rfl : os' = s.os := mv.os
    show wpAny _ _ _ _ _ _
    apply wpAny_pure
    show wpAny _ _ (ret Value.none) _ _ _
    refine wpAny_pure ⟨rfl, h', tk', rfl, by rw [len]; exact hs, fun b o hb e => mv.heap b o ?_ (Heap.get?_push_of_some _ (Heap.get?_push_of_some _ e))⟩
    rw [Heap.size_push]
    simp only [List.mem_cons, List.mem_singleton, List.not_mem_nil, or_false, not_or]
    exact ⟨Nat.ne_of_lt hb, Nat.ne_of_lt (Nat.lt_succ_of_lt hb)⟩

/-- set(t) -/
theorem set_of_tupS {l : Addr} {its : Array Value} {xs : List Str} {Q : Value → Shared → Prop} (hd : A.handled = none) (tup : s.heap.IsTuple l its) (texts : PyProof.Rows.StrsAre its.toList xs) (few : xs.length + 1 < scanBound)
    (fin : ∀ s2, SetDone prog w s xs .none s2 → Q (.ref s.heap.objs.size) s2) : wpAny (model prog w) A (call (.type "set") [.ref l]) Q E s := by
  obtain ⟨c, tl, mro⟩ := PySem.F.called_set.mro
  have f1 := PySem.F.called_set.made
  have f2 := PySem.F.called_set.sub
  have f3 := PySem.F.called_set.notType
  have f4 := PySem.F.called_set.canCreate
  have f5 := PySem.F.typeCall_set_1 (.ref l)
  apply wpAny_call
  apply codeAny_of_tree
  show wpAny _ _ (callAny (.type "set") _) _ _ _
  refine wpAny_pure ⟨Code.quiet_builtin _ (by decide +kernel), codeAny_builtin PySem.F.entry_type_call ?_⟩
  rw [Around.under_plain (weight_type_call_type "set" [.ref l] []) rfl]
  repeat (any_goals (first | assumption | wp_step))
  refine codeAny_mono (code_set_new_1 (.ref l) (E := E) (Q₁ := fun r s1 => ∃ led : Bool, r = .ref s.heap.objs.size ∧ s1 = { s with heap := s.heap.push { cls := .type "set", dict := none, data := .set #[] 0 (.fresh 0 0 led) } }) fun led => ⟨led, rfl, rfl⟩) ?_
  intro r1 s1 k1
  match r1, k1 with
  | .error _, k1 => exact k1
  | .ok (.ret r), k1 =>
    obtain ⟨led, rfl, rfl⟩ := k1
    have isSet : Shared.TypeIs { s with heap := s.heap.push { cls := .type "set", dict := none, data := .set #[] 0 (.fresh 0 0 led) } } (.ref s.heap.objs.size) "set" := ⟨_, Heap.get?_push_size _ rfl, rfl⟩
    have f6 := PySem.F.called_set.init.lookup
    have f7 := PySem.F.called_set.init.bind (.ref s.heap.objs.size)
    repeat (any_goals (first | assumption | wp_step))
    refine codeAny_mono (init_tupS (prog := prog) (w := w) (A := A.in1) (E := E) hd tup texts few) ?_
    intro r2 s2 k2
    match r2, k2 with
    | .error _, k2 => exact k2
    | .ok (.ret r), k2 =>
      obtain ⟨rfl, k2⟩ := k2
      repeat (any_goals (first | assumption | wp_step))
      exact fin _ k2
end
section
variable {X : Cx}
def tLenSetT (K : PySem.W.Frag) (te : TE) : TE := fun σ H Q => te σ H fun x H1 => ∃ (l : Addr) (xs : List Str), x = .ref l ∧ SqT K H1 l (xs.map V.str) ∧ xs.length < 1000 ∧ Q (.int (cntD xs xs.length : Nat)) H1
theorem pe_lenSetT {e : Expr} {te : TE} {p p2 q pos : Pos} (hc : X.calm = true) (hg : Gl X "len") (hm : X.mg "len" = none) (hg2 : Gl X "set") (hm2 : X.mg "set" = none) (he : PE X e te)
    (one : starEach [e] X.env = (false, eval e X.env) :: starEach [] X.env := by rfl) : PE X (.Call (.Name "len" p) [.Call (.Name "set" p2) [e] [] q] [] pos) (tLenSetT X.K te) := by
  constructor
  intro pins s σ H Q I h
  refine Call_ (ld_blt I hg hm boot_len ?_)
  refine PyProof.Rows.callWith_builtin1 (PyProof.Rows.args_cons ?_ rfl) rfl rfl
  refine Call_ (ld_blt I hg2 hm2 boot_set ?_)
  refine PyProof.Rows.callWith_type1 (PyProof.Rows.args_cons (thn (he.run pins s σ H _ I h) ?_) one) one rfl
  rintro v s1 ⟨x, H1, J, rx, l, xs, rfl, sx, few, k⟩
  obtain rfl : v = Value.ref l := rx
  apply PyProof.Rows.args_nil
  obtain ⟨its, rv, tup, hz⟩ := J.tuple sx
  refine set_of_tupS (J.ok.hd hc) tup (by simpa using strsAre_of rv) (by unfold scanBound; omega) ?_
  rintro s2 ⟨h', tk, rfl, hs, kp⟩
  apply PyProof.Rows.args_nil
  obtain ⟨o, es, ep, t, ho, hex, hd, _, _, _, hf, hn⟩ := hs
  have J2 : Inv X pins σ H1 { s1 with heap := h', toks := tk } := J.kept fun b o e => kp b o (Heap.lt_size e) e
  exact call_len_set ho hex hd hf (by rw [hn]; have := cntD_le (xs := xs) xs.length; omega) ⟨.int (cntD xs xs.length : Nat), H1, J2.tok _, ⟨_, by rw [hn]⟩, k⟩
end
end L2
namespace M
open PySem PySem.Spec PyProof.Rows L2
section
variable {G : Gc} {X : Cx} {e : Expr} {w : WE} {pos : Pos}
/-- len(set(t)) -/
def wLenSet (w : WE) : WE := fun ρ Q => w ρ fun x ρ1 => ∃ ds xs, pk ρ1 x = some (.tup ds) ∧ txts ds = some xs ∧ xs.length < 1000 ∧ Q (.int (cntD xs xs.length : Nat)) ρ1
theorem d_lenSet {p p2 q : Pos} (hc : X.calm = true) (hK : X.K = G.K) (hg : Gl X "len") (hm : X.mg "len" = none) (hg2 : Gl X "set") (hm2 : X.mg "set" = none) (he : PE X e (LE G w))
    (one : starEach [e] X.env = (false, eval e X.env) :: starEach [] X.env := by rfl) : PE X (.Call (.Name "len" p) [.Call (.Name "set" p2) [e] [] q] [] pos) (LE G (wLenSet w)) :=
  imE (pe_lenSetT hc hg hm hg2 hm2 he one) fun σ H Q q => by
  obtain ⟨F, ρ, fp, Qd, ok, h, k⟩ := q
  refine ⟨F, ρ, fp, _, ok, h, fun v1 H1 F1 ρ1 fp1 x f1 en1 rr1 q1 => ?_⟩
  obtain ⟨ds, xs, ex, ey, few, q1⟩ := q1
  obtain ⟨a, vs, rfl, sx, rl⟩ := rr1.tupX en1.ok ex
  have := rl.txts ey
  subst this
  exact ⟨a, xs, rfl, hK ▸ sx.sq, few, k _ H1 F1 ρ1 fp1 _ [] (en1.drop (En.refl en1.ok)) (.inl (.int _)) q1⟩
end
end M
/-! M28: own methods called by keywords alone. -/
namespace M
open PySem PySem.Spec PyProof.Rows L2
section
variable {G : Gc} {X : Cx} {e : Expr} {es : List Expr} {wo : WE} {wk : WA} {pos apos : Pos} {kws : List Keyword} {c mt : Str} {k j n m : Nat} {ks : List Str} {is : List Nat} {dd : List D} {sp : Spd} {Ex : DXs} {W : WX}
theorem d_methP0 {o : Expr} {pl : Sem Bool} (me : KMet X.prog X.w X.K G.ca X.mg X.base k c mt 0 ks is dd sp) (hr : RoomG j X.A) (tk : Takes X W) (lk : XLk G Ex W) (he : PE X o (LE G wo)) (hw : PK X kws (LA G wk)) (hK : X.K = G.K := by rfl) (hk : k ≤ j := by decide) (hm : ks.length = m := by rfl) (hdd : dd.all (fun d => !isOw d) = true := by rfl)
    (hall : (backToKw pos (keywordEach kws X.env)).all (·.1.isSome) = true := by rfl) (hks : (backToKw pos (keywordEach kws X.env)).filterMap (·.1) = ks := by rfl)
    (hpl : ((backTo pos (starEach [] X.env)).any (·.1) || (backToKw pos (keywordEach kws X.env)).any (·.1.isNone)) = false := by rfl) (ht : MRunK X o mt [] kws apos pos pl := by rfl) :
    PE X (.Call (.Attribute o mt apos) [] kws pos) (LE G (wMethP c mt 0 m is dd sp Ex wo wNil wk)) := by
  obtain ⟨f, fd, ps, its, dvs, F, hme, b, hd⟩ := me.ex
  constructor
  intro pins s σ H Q I q
  obtain ⟨F0, ρ, fp, Qd, ok, h, kk⟩ := q
  have key : LE G wo σ H fun v0 H0 => ∃ a dx fs, v0 = .ref a ∧ H0 a = some (.ins (G.ca c) dx fs) ∧ fs.lookup mt = none ∧ LA G wNil σ H0 fun vs H2 => LA G wk σ H2 fun us H3 => vs.length = 0 ∧ us.length = ks.length ∧ lift G.K G.ca [] sp (permL is (.ref a :: vs ++ us ++ dvs)) H3 Q (fun cls d H => W cls d σ H) := by
    refine ⟨F0, ρ, fp, _, ok, h, fun v0 H0 F1 ρ0 fp0 r0 f0 en0 rr0 ⟨hi, q⟩ => ?_⟩
    obtain ⟨a, dx, fs, e1, hz, hl⟩ := hi.at_ en0.ok rr0
    subst e1
    refine ⟨a, dx, fs, rfl, hz, hl, two_lists en0.ok q ?_⟩
    intro vs us H' F' ρ' fp' rs zs f1 f2 en r1 r2 ⟨l1, l2, q⟩
    have own := rr0.step en.st en0.ok.nf (nodup_d en0.nd)
    exact ⟨r1.len.trans l1, (r2.len.trans l2).trans hm.symm, callP_core (vs := .ref a :: vs ++ us) lk (hK ▸ hd) hdd ok.rch (en0.trans en rr0.dom) (RrL.cons own (r1.app r2)) q kk⟩
  apply PySem.W.methodCall_KW (pl := pl) (thn (he.run pins s σ H _ I key) _) ht
  rintro u s1 ⟨x, H1, I1, rx, a, dx, fs, ex, ea, l, q⟩
  subst ex
  obtain rfl : u = Value.ref a := rx
  have q := la_nil _ _ _ q
  apply getmeth_ok I1 ea me.cls hme l
  apply PySem.W.callWith_KW0 (first := [.ref a]) (h₀ := X.base) I.ok.mod.kin hme.kp hall _ hpl
  apply thn (hw.run pos pins s1 σ H1 _ I1 q)
  rintro ws s3 ⟨zs, H3, I3, rz, l1, l2, q3⟩
  refine ⟨I3.kIn, ?_⟩
  rw [hks]
  rw [← hK] at q3
  exact run_kwG (E := fun σ cls d H => W cls d σ H) (us := [.ref a]) (vs := [.ref a]) F (hr.mono hk) b (passAt tk σ) I3 (.cons (show RelV (.ref a) (.ref a) from rfl) .nil) rz rfl l2 q3
end
end M
/-! M29: list comprehensions of two clauses. -/
namespace M
open PySem PySem.Spec PyProof.Rows L2
section
variable {G : Gc} {X : Cx} {F F' F1 F2 F5 : Addr → Prop} {H H' H1 H2 H5 : Hp} {σ σ' σ2 σ5 : L2.St} {ρ ρ' ρ1 ρ2 ρ5 : Sl} {fp fp' fp1 fp2 fp5 fr : List Addr} {v : V} {y d : D} {q : Addr} {acc : List D} {us : List V}
  {we : WE} {pos : Pos}

/-- the list that a comprehension builds, beside the slots' own ones -/
structure LcS (G : Gc) (F1 : Addr → Prop) (H1 : Hp) (fp1 : List Addr) (q : Addr) (F : Addr → Prop) (H : Hp) (σ : L2.St) (ρ : Sl) (fp : List Addr) (acc : List D) (us : List V) : Prop where
  st : Step G.ca.tb F1 H1 fp1 F H (q :: fp)
  ok : Ok G F H σ ρ fp
  eq : H q = some (.lst us)
  rl : RpL G.K G.ca F H us acc []
  nF : ¬ F q
  nf : q ∉ fp
theorem LcS.step (z : LcS G F1 H1 fp1 q F2 H2 σ2 ρ2 fp2 acc us) (hq : H1 q = none) (s : Step G.ca.tb F2 H2 fp2 F5 H5 fp5) (ok : Ok G F5 H5 σ5 ρ5 fp5) : LcS G F1 H1 fp1 q F5 H5 σ5 ρ5 fp5 acc us := by
  obtain ⟨e, n1, n2⟩ := s.apart z.eq z.nF z.nf
  have t := (z.st.less (fp2 := fp2) fun a w => List.mem_cons_of_mem _ w).trans s
  refine ⟨⟨t.mono, t.new, t.kept, t.there, fun a w => ?_, t.tab⟩, ok, e, z.rl.step s z.ok.nf (fun a w => nomatch w), n1, n2⟩
  rcases List.mem_cons.mp w with w | w
  · exact .inr (w ▸ hq)
  · exact t.fps a w
theorem LcS.sub (z : LcS G F1 H1 fp1 q F H σ ρ fp acc us) (ok : Ok G F H σ' ρ' fp') (h : ∀ a ∈ fp', a ∈ fp) : LcS G F1 H1 fp1 q F H σ' ρ' fp' acc us := by
  refine ⟨z.st.less fun a w => ?_, ok, z.eq, z.rl, z.nF, fun w => z.nf (h q w)⟩
  rcases List.mem_cons.mp w with w | w
  · exact w ▸ List.mem_cons_self
  · exact List.mem_cons_of_mem _ (h a w)
/-- a write to q, for a state from which q is known -/
theorem Step.put {F0 : Addr → Prop} {H0 : Hp} {fp0 fq : List Addr} {u u0 : HO} (s : Step G.ca.tb F0 H0 fp0 F H fq) (eq : H q = some u0) (h : ∀ o, H0 q = some o → q ∈ fp0 ∧ MutK o) (hu : NTE u0 := by trivial) : Step G.ca.tb F0 H0 fp0 F (upd H q u) fq := by
  refine ⟨s.mono, s.new, fun a o e m c => ?_, fun a o e => ?_, s.fps, fun t => tabs_put eq hu (s.tab t)⟩
  · by_cases ha : a = q
    · subst ha
      obtain ⟨m, k⟩ := h o e
      rcases c with c | c
      · exact absurd m c
      · exact absurd k c
    · rw [upd_ne ha]
      exact s.kept a o e m c
  · by_cases ha : a = q
    · exact ⟨u, by rw [ha]; exact upd_same⟩
    · rw [upd_ne ha]
      exact s.there a o e
theorem LcS.push (z : LcS G F1 H1 fp1 q F H σ ρ fp acc us) (hq : H1 q = none) (h0 : G.H0 q = none) (rp : Rp G.K G.ca F H v y []) : LcS G F1 H1 fp1 q F (upd H q (.lst (us ++ [v]))) σ ρ fp (acc ++ [y]) (us ++ [v]) where
  st := z.st.put z.eq fun o e => by rw [hq] at e; cases e
  ok := by
    refine z.ok.step (fq := [q]) (fq' := [q]) ⟨fun _ w => w, fun _ w => .inl w, fun a o e _ c => ?_, fun a o e => ?_, fun _ w => .inl w, tabs_put z.eq trivial⟩ (fun a w => by rw [List.mem_singleton.mp w]; exact z.nF) (fun a w c => z.nf (by rw [← List.mem_singleton.mp c]; exact w)) (fun a f => ?_) (z.ok.rch.put z.eq fun o e => by rw [h0] at e; cases e)
    · by_cases ha : a = q
      · subst ha
        rw [z.eq] at e
        cases e
        rcases c with c | c
        · exact absurd List.mem_cons_self c
        · exact absurd trivial c
      · rw [upd_ne ha]
        exact e
    · by_cases ha : a = q
      · exact ⟨_, by rw [ha]; exact upd_same⟩
      · exact ⟨o, by rw [upd_ne ha]; exact e⟩
    · obtain ⟨o, e⟩ := z.ok.dom a f
      by_cases ha : a = q
      · exact ⟨_, by rw [ha]; exact upd_same⟩
      · exact ⟨o, by rw [upd_ne ha]; exact e⟩
  eq := upd_same
  rl := (z.rl.app (.one rp)).mut z.eq trivial z.nF
  nF := z.nF
  nf := z.nf
/-- [e for g in i if t for g1 in i1 if t1] -/
def wLc2 (wi : WI) (g : WG) (wt : WT) (wi1 : WI) (g1 : WG) (wt1 : WT) (we : WE) (vs vs1 : List Nat) : WE := fun ρ Q => wi ρ fun ds ρ1 => ∃ I : Nat → List D → Sl → Prop, I 0 [] (wip ρ1 vs) ∧
  (∀ i d acc ρ, ds[i]? = some d → I i acc ρ → g d ρ fun ρ2 => wt ρ2 fun b ρ3 => if b = true then wi1 ρ3 fun es ρ4 => ∃ J : Nat → List D → Sl → Prop, J 0 acc (wip ρ4 vs1) ∧
      (∀ j e acc ρ, es[j]? = some e → J j acc ρ → g1 e ρ fun ρ5 => wt1 ρ5 fun b ρ6 => if b = true then we ρ6 fun r ρ7 => ∃ y ρ8, fzR ρ7 r = some (y, ρ8) ∧ acc.length < sizeLine ∧ J (j + 1) (acc ++ [y]) (wip ρ8 vs1) else J (j + 1) acc (wip ρ6 vs1)) ∧
      ∀ acc ρ, J es.length acc ρ → I (i + 1) acc (wip ρ vs)
    else I (i + 1) acc (wip ρ3 vs)) ∧
  ∀ acc ρ, I ds.length acc ρ → Q (.lst true acc) (rst ρ1 ρ vs)
end
section
variable {G : Gc} {X : Cx} {we : WE} {pos : Pos}
theorem le_lc2 {wi wi1 : WI} {g g1 : WG} {S S1 : List Nat} {wt wt1 : WT} {vs vs1 : List Nat} (hS : ∀ j ∈ S, j ∈ vs) (hS1 : ∀ j ∈ S1, j ∈ vs1) (hv : ∀ j ∈ vs1, j ∈ vs) (hpm : ∀ p ∈ G.pm, p.1 ∉ vs) :
    ∀ σ H Q, LE G (wLc2 wi g wt wi1 g1 wt1 we vs vs1) σ H Q → tLc2 (LW G wi) (LG G g S) (LT G wt) (LW G wi1) (LG G g1 S1) (LT G wt1) (LE G we) vs vs1 σ H Q := fun σ H Q q => by
  obtain ⟨F, ρ, fp, Qd, ok, h, k⟩ := q
  have hpm1 : ∀ p ∈ G.pm, p.1 ∉ vs1 := fun p hp c => hpm p hp (hv _ c)
  refine ⟨F, ρ, fp, _, ok, h, fun Jt H1 F1 ρ1 fp1 ds en it q => ?_⟩
  obtain ⟨I, i0, turn, done⟩ := q
  intro q hq
  have h0 : G.H0 q = none := en.ok.rch.none_of hq
  have off0 : Off vs σ (wipe σ vs) := ⟨by rw [wipe_length], fun j hj => wipe_off σ hj⟩
  refine ⟨fun i m H' => m = ds.length - i ∧ i ≤ ds.length ∧ ∃ F' ρ' fp' acc us, LcS G F1 H1 fp1 q F' H' σ (wip ρ' vs) fp' acc us ∧ I i acc (wip ρ' vs), ?_, ?_⟩
  · obtain ⟨fp2, ok2, sub⟩ := en.ok.wip vs
    have nn := en.ok.not_none hq
    refine ⟨_, rfl, Nat.zero_le _, F1, ρ1, fp2, [], [], ⟨(En.own (o := .lst []) en.ok hq).st.less fun a z => ?_, ok2.new hq, upd_same, .nil, nn.1, fun z => nn.2 (sub q z)⟩, i0⟩
    rcases List.mem_cons.mp z with z | z
    · simp [z]
    · simp [sub a z]
  · rintro i m H2 ⟨rfl, hi, F2, ρ2, fp2, acc, us, z, inv⟩
    have sz : Step G.ca.tb F1 H1 fp1 F2 H2 fp2 := z.st.less fun a w => List.mem_cons_of_mem _ w
    by_cases hlt : i < ds.length
    · obtain ⟨go, yl⟩ := it.go i ds[i] F2 H2 σ (wip ρ2 vs) fp2 _ _ en.ok.nf sz z.ok (by simp [hlt])
      refine .inr ⟨go, fun H' => ∃ F' ρ' fp' acc us, LcS G F1 H1 fp1 q F' H' σ (wip ρ' vs) fp' acc us ∧ I (i + 1) acc (wip ρ' vs), fun H' w => ⟨_, by omega, rfl, hlt, w⟩, fun x H3 y => ?_⟩
      obtain ⟨F3, en3, rp⟩ := yl x H3 y
      refine ⟨F3, wip ρ2 vs, fp2, ds[i], [], _, en3.ok.off off0 hpm, .inl rp, ⟨by simpa using en3.ok.nd, fun a z => nomatch z⟩, turn i ds[i] acc (wip ρ2 vs) (by simp [hlt]) inv, fun σ4 H4 F4 ρ4 fp4 s4 ok4 of4 q4 => ?_⟩
      refine ⟨by rw [wipe_eq of4 hS, wipe_wipe], F4, ρ4, fp4, _, ok4, q4, fun b H5 F5 ρ5 fp5 en5 q5 => ?_⟩
      have back : Off vs σ4 σ := ⟨by rw [of4.len, wipe_length], fun j hj => by rw [of4.at_ j fun w => hj (hS j w), wipe_off σ hj]⟩
      have z5 : LcS G F1 H1 fp1 q F5 H5 σ4 ρ5 fp5 acc us := z.step hq ((en3.st0.trans s4).trans en5.st0) en5.ok
      cases b with
      | false =>
        obtain ⟨fp6, ok6, sub6⟩ := en5.ok.wip vs
        exact ⟨F5, ρ5, fp6, acc, us, z5.sub (ok6.off back hpm) sub6, q5⟩
      | true =>
        refine ⟨F5, ρ5, fp5, _, en5.ok, q5, fun J1 H6 F6 ρ6 fp6 es en6 it6 q6 => ?_⟩
        obtain ⟨J, j0, turn1, done1⟩ := q6
        have z6 := z5.step hq en6.st0 en6.ok
        have nf6 : ∀ a ∈ q :: fp6, ¬ F6 a := fun a w => by
          rcases List.mem_cons.mp w with w | w
          · rw [w]; exact z6.nF
          · exact en6.ok.nf a w
        have own6 : ∀ o, H6 q = some o → q ∈ q :: fp6 ∧ MutK o := fun o e => by
          rw [z6.eq] at e
          cases e
          exact ⟨List.mem_cons_self, trivial⟩
        have off4 : Off vs1 σ4 (wipe σ4 vs1) := ⟨by rw [wipe_length], fun j hj => wipe_off σ4 hj⟩
        refine ⟨fun j m H' => m = es.length - j ∧ j ≤ es.length ∧ ∃ F' ρ' fp' acc us, LcS G F1 H1 fp1 q F' H' σ4 (wip ρ' vs1) fp' acc us ∧ Step G.ca.tb F6 H6 (q :: fp6) F' H' (q :: fp') ∧ J j acc (wip ρ' vs1), ?_, ?_⟩
        · obtain ⟨fp7, ok7, sub7⟩ := en6.ok.wip vs1
          refine ⟨_, rfl, Nat.zero_le _, F6, ρ6, fp7, acc, us, z6.sub ok7 sub7, Step.refl.less fun a w => ?_, j0⟩
          rcases List.mem_cons.mp w with w | w
          · exact w ▸ List.mem_cons_self
          · exact List.mem_cons_of_mem _ (sub7 a w)
        · rintro j m H7 ⟨rfl, hj, F7, ρ7, fp7, acc7, us7, z7, s7, inv7⟩
          by_cases hlt7 : j < es.length
          · obtain ⟨go7, yl7⟩ := it6.go j es[j] F7 H7 σ4 (wip ρ7 vs1) fp7 _ _ nf6 s7 z7.ok (by simp [hlt7])
            refine .inr ⟨go7, fun H' => ∃ F' ρ' fp' acc us, LcS G F1 H1 fp1 q F' H' σ4 (wip ρ' vs1) fp' acc us ∧ Step G.ca.tb F6 H6 (q :: fp6) F' H' (q :: fp') ∧ J (j + 1) acc (wip ρ' vs1), fun H' w => ⟨_, by omega, rfl, hlt7, w⟩, fun x H8 y8 => ?_⟩
            obtain ⟨F8, en8, rp8⟩ := yl7 x H8 y8
            refine ⟨F8, wip ρ7 vs1, fp7, es[j], [], _, en8.ok.off off4 hpm1, .inl rp8, ⟨by simpa using en8.ok.nd, fun a z => nomatch z⟩, turn1 j es[j] acc7 (wip ρ7 vs1) (by simp [hlt7]) inv7, fun σ9 H9 F9 ρ9 fp9 s9 ok9 of9 q9 => ?_⟩
            refine ⟨by rw [wipe_eq of9 hS1, wipe_wipe], F9, ρ9, fp9, _, ok9, q9, fun b HA FA ρA fpA enA qA => ?_⟩
            have back9 : Off vs1 σ9 σ4 := ⟨by rw [of9.len, wipe_length], fun i hi => by rw [of9.at_ i fun w => hi (hS1 i w), wipe_off σ4 hi]⟩
            have sA : Step G.ca.tb F7 H7 fp7 FA HA fpA := (en8.st0.trans s9).trans enA.st0
            have zA : LcS G F1 H1 fp1 q FA HA σ9 ρA fpA acc7 us7 := z7.step hq sA enA.ok
            cases b with
            | false =>
              obtain ⟨fpB, okB, subB⟩ := enA.ok.wip vs1
              refine ⟨FA, ρA, fpB, acc7, us7, zA.sub (okB.off back9 hpm1) subB, (s7.trans (sA.frame [q])).less fun a w => ?_, qA⟩
              rcases List.mem_cons.mp w with w | w
              · exact w ▸ List.mem_cons_self
              · exact List.mem_cons_of_mem _ (subB a w)
            | true =>
              refine ⟨FA, ρA, fpA, _, enA.ok, qA, fun v HB FB ρB fpB r frB enB rrB qB => ?_⟩
              obtain ⟨y, ρC, eC, lC, qC⟩ := qB
              obtain ⟨FC, fpC, shC, rpC⟩ := rrB.share enB.ok enB.nd (enB.hr enA.ok) eC
              have sC : Step G.ca.tb F7 H7 fp7 FC HB fpC := sA.trans (enB.st.trans shC.step)
              have zC : LcS G F1 H1 fp1 q FC HB σ9 ρC fpC acc7 us7 := z7.step hq sC shC.ok
              obtain ⟨fpD, okD, subD⟩ := shC.ok.wip vs1
              have zD := zC.sub (okD.off back9 hpm1) subD
              refine ⟨us7, zC.eq, by rw [z7.rl.length]; exact lC, FC, ρC, fpD, acc7 ++ [y], us7 ++ [v], zD.push hq h0 rpC, ?_, qC⟩
              refine ((s7.trans (sC.frame [q])).put zC.eq own6).less fun a w => ?_
              rcases List.mem_cons.mp w with w | w
              · exact w ▸ List.mem_cons_self
              · exact List.mem_cons_of_mem _ (subD a w)
          · obtain rfl : j = es.length := by omega
            refine .inl ⟨it6.stop F7 H7 σ4 (wip ρ7 vs1) fp7 _ _ nf6 s7 z7.ok, ?_⟩
            obtain ⟨fp8, ok8, sub8⟩ := z7.ok.wip vs
            exact ⟨F7, wip ρ7 vs1, fp8, acc7, us7, z7.sub (ok8.off back hpm) sub8, done1 acc7 (wip ρ7 vs1) inv7⟩
    · obtain rfl : i = ds.length := by omega
      refine .inl ⟨it.stop F2 H2 σ (wip ρ2 vs) fp2 _ _ en.ok.nf sz z.ok, ?_⟩
      obtain ⟨fp3, ok3, sub3⟩ := Ok.rst en.ok sz z.ok vs hpm
      refine k (.ref q) H2 F2 (rst ρ1 (wip ρ2 vs) vs) fp3 (.lst true acc) [q] ⟨en.st0.trans (z.st.less fun a w => ?_), ok3, nodup_of (by simp) ok3.nd fun a w c => z.nf (by rw [← List.mem_singleton.mp w]; exact sub3 a c)⟩ (.inl (.low z.eq z.nF z.rl)) (done acc _ inv)
      rcases List.mem_append.mp w with w | w
      · simp [List.mem_singleton.mp w]
      · simp [sub3 a w]
theorem d_lc2 {elt tg iter tg1 iter1 : Expr} {ifs ifs1 : List Expr} {scope : Scope} {own : List (Str × Nat)} {wi wi1 : WI} {g g1 : WG} {S S1 vs1 : List Nat} {wt wt1 : WT} (hc : X.calm = true) (hN : X.N.Nodup) (hi : PI X tg iter (LW G wi)) (ok : BlkOk X.N X.env.scope scope own) (hv : ∀ i ∈ vs1, i ∈ own.map (·.2))
    (hg : ∀ (s : Shared) (H : Hp) (C : Addr) (cl : List (Str × Addr)) (fp : List Addr), PG (X.blk s H scope (compEnvC scope cl C X.env) fp) tg (LG G g S)) (ht : ∀ (s : Shared) (H : Hp) (C : Addr) (cl : List (Str × Addr)) (fp : List Addr), PTs (X.blk s H scope (compEnvC scope cl C X.env) fp) ifs (LT G wt))
    (hi1 : ∀ (s : Shared) (H : Hp) (C : Addr) (cl : List (Str × Addr)) (fp : List Addr), PI (X.blk s H scope (compEnvC scope cl C X.env) fp) tg1 iter1 (LW G wi1))
    (hg1 : ∀ (s : Shared) (H : Hp) (C : Addr) (cl : List (Str × Addr)) (fp : List Addr), PG (X.blk s H scope (compEnvC scope cl C X.env) fp) tg1 (LG G g1 S1)) (ht1 : ∀ (s : Shared) (H : Hp) (C : Addr) (cl : List (Str × Addr)) (fp : List Addr), PTs (X.blk s H scope (compEnvC scope cl C X.env) fp) ifs1 (LT G wt1))
    (he : ∀ (s : Shared) (H : Hp) (C : Addr) (cl : List (Str × Addr)) (fp : List Addr), PE (X.blk s H scope (compEnvC scope cl C X.env) fp) elt (LE G we)) (hS : ∀ j ∈ S, j ∈ own.map (·.2)) (hS1 : ∀ j ∈ S1, j ∈ vs1) (hpm : ∀ p ∈ G.pm, p.1 ∉ own.map (·.2))
    (hs : ∀ x, foldedSetIterable iter X.env x = pure x := by intro _; rfl) (hs1 : ∀ env x, foldedSetIterable iter1 env x = pure x := by intro _ _; rfl) :
    PE X (.ListComp elt [⟨tg, iter, ifs, 0⟩, ⟨tg1, iter1, ifs1, 0⟩] scope pos) (LE G (wLc2 wi g wt wi1 g1 wt1 we (own.map (·.2)) vs1)) := imE (pe_lc2 hc hN hi ok hv hg ht hi1 hg1 ht1 he hs hs1) (le_lc2 hS hS1 hv hpm)
end
end M
/-! MS: a def over data run step by step: one rule a leaf, by the values' forms. -/
namespace M
open PySem PySem.Spec PyProof.Rows L2

section
variable {ρ ρ1 ρ2 : Sl} {K : D → Prop} {Q : D → Sl → Prop} {x y d : D} {i j : Int} {a b : Str} {n : Nat}
theorem i_ret {own : List Nat} {Qd : D → List D → Prop} {r : D} {ρ' : Sl} {os : List D} (h1 : ret ρ r = some (d, ρ')) (h2 : outs ρ' own = some os) (q : Qd d os) : ∃ d ρ' os, ret ρ r = some (d, ρ') ∧ outs ρ' own = some os ∧ Qd d os := ⟨d, ρ', os, h1, h2, q⟩
theorem iteD {P : Prop} [Decidable P] {A B : Prop} (h1 : P → A) (h2 : ¬ P → B) : if decide P = true then A else B := by
  by_cases h : P
  · rw [decide_eq_true h]; exact h1 h
  · rw [decide_eq_false h]; exact h2 h
theorem iteN {P : Prop} [Decidable P] {A B : Prop} (h1 : ¬ P → A) (h2 : P → B) : if (!decide P) = true then A else B := by
  by_cases h : P
  · rw [decide_eq_true h]; exact h2 h
  · rw [decide_eq_false h]; exact h1 h
theorem ite_nt {P : Prop} [Decidable P] {A B : Prop} (h : ¬ P) (q : A) : if (!decide P) = true then A else B := by rw [decide_eq_false h]; exact q
theorem ite_nf {P : Prop} [Decidable P] {A B : Prop} (h : P) (q : B) : if (!decide P) = true then A else B := by rw [decide_eq_true h]; exact q
theorem ite_nn {c : Bool} {A B : Prop} (h : if c = true then A else B) : if (!(!c)) = true then A else B := by
  cases c <;> exact h
theorem ite_nT {A B : Prop} (h : B) : if (!true) = true then A else B := h
theorem ite_nF {A B : Prop} (h : A) : if (!false) = true then A else B := h
theorem ite_ct {c : Bool} {A B : Prop} (e : c = true) (h : A) : if c = true then A else B := by rw [e]; exact h
theorem ite_cf {c : Bool} {A B : Prop} (e : c = false) (h : B) : if c = true then A else B := by rw [e]; exact h
theorem ite_nct {c : Bool} {A B : Prop} (e : c = true) (h : B) : if (!c) = true then A else B := by rw [e]; exact h
theorem ite_ncf {c : Bool} {A B : Prop} (e : c = false) (h : A) : if (!c) = true then A else B := by rw [e]; exact h
theorem iteB {c : Bool} {A B : Prop} (h1 : c = true → A) (h2 : c = false → B) : if c = true then A else B := by
  cases c
  · exact h2 rfl
  · exact h1 rfl
theorem ite_t {A B : Prop} (h : A) : if true = true then A else B := h
theorem ite_f {A B : Prop} (h : B) : if false = true then A else B := h
theorem i_b {P : Bool → Prop} {c : Bool} (h : P c) : ∃ b, D.bl c = .bl b ∧ P b := ⟨c, rfl, h⟩
theorem if_ff {α : Type} {a b : α} : (if false = true then a else b) = b := rfl
theorem if_tt {α : Type} {a b : α} : (if true = true then a else b) = a := rfl
theorem rd_int {k : Nat} {i : Int} : rd k (.int i) = .int i := rfl
theorem rd_str {k : Nat} {i : Str} : rd k (.str i) = .str i := rfl
theorem rd_bl {k : Nat} {i : Bool} : rd k (.bl i) = .bl i := rfl
theorem rd_non {k : Nat} : rd k .non = .non := rfl
theorem rd_tup {k : Nat} {xs : List D} : rd k (.tup xs) = .tup xs := rfl
theorem rd_lf {k : Nat} {xs : List D} : rd k (.lst false xs) = .lst false xs := rfl
theorem rd_lt {k : Nat} {xs : List D} : rd k (.lst true xs) = .sl k := rfl
theorem rd_df {k : Nat} {ks : List Key} {xs : List D} : rd k (.dct false ks xs) = .dct false ks xs := rfl
theorem rd_dt {k : Nat} {ks : List Key} {xs : List D} : rd k (.dct true ks xs) = .sl k := rfl
theorem rd_if {k : Nat} {c : Str} {fs : List Str} {xs : List D} : rd k (.ins false c fs xs) = .ins false c fs xs := rfl
theorem rd_it {k : Nat} {c : Str} {fs : List Str} {xs : List D} : rd k (.ins true c fs xs) = .sl k := rfl
theorem rd_scr {k : Nat} {ns : List Int} : rd k (.scr ns) = .scr ns := rfl
theorem i_var {k : Nat} (h : ρ[k]? = some (some d)) (q : Q (rd k d) ρ) : wVar k ρ Q := ⟨d, h, q⟩
theorem i_addI (q : K (.int (i + j))) : oAdd ρ (.int i) (.int j) K := .inl ⟨i, j, rfl, rfl, trivial, q⟩
theorem i_addS (h : a.length + b.length ≤ 16000000) (q : K (.str (a ++ b))) : oAdd ρ (.str a) (.str b) K := .inr (.inl ⟨a, b, rfl, rfl, Nat.le_trans h (by decide), q⟩)
theorem i_addL {o p : Bool} {xs ys : List D} (h1 : pk ρ x = some (.lst o xs)) (h2 : pk ρ y = some (.lst p ys)) (h : xs.length + ys.length ≤ 16000000) (q : K (.lst true (xs ++ ys))) : oAdd ρ x y K := .inr (.inr (.inl ⟨o, p, xs, ys, h1, h2, Nat.le_trans h (by decide), q⟩))
theorem i_addT {xs ys : List D} (h : xs.length + ys.length ≤ 16000000) (q : K (.tup (xs ++ ys))) : oAdd ρ (.tup xs) (.tup ys) K := .inr (.inr (.inr ⟨xs, ys, rfl, rfl, Nat.le_trans h (by decide), q⟩))
theorem i_sub (q : K (.int (i - j))) : oSub ρ (.int i) (.int j) K := ⟨i, j, rfl, rfl, trivial, q⟩
theorem i_mulR (h : -(2 ^ 64) < j ∧ j < 2 ^ 64) (q : K (.int (i * j))) : oMul ρ (.int i) (.int j) K := ⟨i, j, rfl, rfl, .inr h, q⟩
theorem i_mulL (h : -(2 ^ 64) < i ∧ i < 2 ^ 64) (q : K (.int (i * j))) : oMul ρ (.int i) (.int j) K := ⟨i, j, rfl, rfl, .inl h, q⟩
theorem i_mod (h : 0 < j) (q : K (.int (i % j))) : oMod ρ (.int i) (.int j) K := ⟨i, j, rfl, rfl, h, q⟩
theorem i_fdiv (h : 0 < j ∧ j < 1073741824) (q : K (.int (i / j))) : oFdiv ρ (.int i) (.int j) K := ⟨i, j, rfl, rfl, h, q⟩
theorem i_lt (q : K (.bl (decide (i < j)))) : oLt ρ (.int i) (.int j) K := ⟨i, j, rfl, rfl, trivial, q⟩
theorem i_le (q : K (.bl (decide (i ≤ j)))) : oLe ρ (.int i) (.int j) K := ⟨i, j, rfl, rfl, trivial, q⟩
theorem i_gt (q : K (.bl (decide (j < i)))) : oGt ρ (.int i) (.int j) K := ⟨i, j, rfl, rfl, trivial, q⟩
theorem i_ge (q : K (.bl (decide (j ≤ i)))) : oGe ρ (.int i) (.int j) K := ⟨i, j, rfl, rfl, trivial, q⟩
theorem dec_int : decide (V.int i = V.int j) = decide (i = j) := by
  by_cases h : i = j
  · subst h; simp
  · rw [decide_eq_false h, decide_eq_false fun e => h (V.int.inj e)]
theorem dec_str : decide (V.str a = V.str b) = decide (a = b) := by
  by_cases h : a = b
  · subst h; simp
  · rw [decide_eq_false h, decide_eq_false fun e => h (V.str.inj e)]
theorem i_eqI (q : K (.bl (decide (i = j)))) : oEq ρ (.int i) (.int j) K := .inl ⟨_, _, rfl, rfl, rfl, by rw [dec_int]; exact q⟩
theorem i_neI (q : K (.bl (!decide (i = j)))) : oNe ρ (.int i) (.int j) K := .inl ⟨_, _, rfl, rfl, rfl, by rw [dec_int]; exact q⟩
theorem i_eqS (q : K (.bl (decide (a = b)))) : oEq ρ (.str a) (.str b) K := .inl ⟨_, _, rfl, rfl, rfl, by rw [dec_str]; exact q⟩
theorem i_neS (q : K (.bl (!decide (a = b)))) : oNe ρ (.str a) (.str b) K := .inl ⟨_, _, rfl, rfl, rfl, by rw [dec_str]; exact q⟩
theorem i_eqD {e : D} (h1 : pk ρ x = some d) (h2 : pk ρ y = some e) (s1 : shp d = true) (s2 : shp e = true) (q : K (.bl (eqD d e))) : oEq ρ x y K := .inr ⟨d, e, h1, h2, s1, s2, q⟩
theorem i_neD {e : D} (h1 : pk ρ x = some d) (h2 : pk ρ y = some e) (s1 : shp d = true) (s2 : shp e = true) (q : K (.bl (!eqD d e))) : oNe ρ x y K := .inr ⟨d, e, h1, h2, s1, s2, q⟩
theorem i_isN (h : pk ρ x = some d) (q : K (.bl (isN d))) : oIsN id ρ x .non K := ⟨rfl, d, h, q⟩
theorem i_notN (h : pk ρ x = some d) (q : K (.bl (!isN d))) : oIsN not ρ x .non K := ⟨rfl, d, h, q⟩
theorem i_ixL {ds : List D} {u : D} (h1 : pk ρ x = some d) (h2 : its d = some ds) (h3 : atI ds i = some u) (q : K u) : oIxA ρ x (.int i) K := .inl (.inl ⟨d, ds, i, u, h1, h2, rfl, h3, q⟩)
theorem i_ixN {ds : List D} {u : D} {k : Nat} (h1 : pk ρ x = some d) (h2 : its d = some ds) (h3 : ds[k]? = some u) (q : K u) : oIxA ρ x (.int (k : Nat)) K := i_ixL h1 h2 (atI_nat h3) q
theorem i_ixS {c : Nat} (h : a.length ≤ sizeLine) (h3 : atI a.cps.toList i = some c) (q : K (.str ⟨#[c]⟩)) : oIxA ρ (.str a) (.int i) K := .inl (.inr ⟨a, i, c, rfl, rfl, h, h3, q⟩)
theorem i_ixD {o : Bool} {ks : List Key} {xs : List D} {k : Key} {u : D} (h1 : pk ρ x = some (.dct o ks xs)) (h2 : keyOf y = some k) (h3 : valD ks xs k = some u) (q : K u) : oIxA ρ x y K := .inr ⟨o, ks, xs, k, u, h1, h2, h3, q⟩
theorem i_ixSc {ns : List Int} {u : Int} (h : atI ns i = some u) (q : K (.int u)) : oIxS ρ (.scr ns) (.int i) K := ⟨ns, i, u, rfl, rfl, h, q⟩
/-! ### in, over texts, over ints -/
theorem scL_str : ∀ l : List Str, scL (l.map D.str) = some (l.map V.str)
  | [] => rfl
  | x :: l => by
    show (match some (V.str x), scL (l.map D.str) with
      | some v, some vs => some (v :: vs)
      | _, _ => none) = _
    rw [scL_str l]; rfl
theorem scL_int : ∀ l : List Int, scL (l.map D.int) = some (l.map V.int)
  | [] => rfl
  | x :: l => by
    show (match some (V.int x), scL (l.map D.int) with
      | some v, some vs => some (v :: vs)
      | _, _ => none) = _
    rw [scL_int l]; rfl
theorem inV_str {x : Str} : ∀ l : List Str, inV (.str x) (l.map V.str) = decide (x ∈ l)
  | [] => rfl
  | y :: l => by
    show ((y == x) || inV (.str x) (l.map V.str)) = _
    rw [inV_str l]
    by_cases h : y = x
    · subst h; simp
    · have h2 : ¬ x = y := fun e => h e.symm
      rw [beq_eq_false_iff_ne.mpr h]
      simp [h2]
theorem inV_int {x : Int} : ∀ l : List Int, inV (.int x) (l.map V.int) = decide (x ∈ l)
  | [] => rfl
  | y :: l => by
    show ((y == x) || inV (.int x) (l.map V.int)) = _
    rw [inV_int l]
    by_cases h : y = x
    · subst h; simp
    · have h2 : ¬ x = y := fun e => h e.symm
      rw [beq_eq_false_iff_ne.mpr h]
      simp [h2]
theorem i_inS {l : List Str} (h1 : pk ρ y = some d) (h2 : its d = some (l.map D.str)) (q : K (.bl (decide (a ∈ l)))) : oInB ρ (.str a) y K := .inl (.inl (.inl ⟨.str a, d, _, _, rfl, h1, h2, scL_str l, by show K (.bl (inV (.str a) (l.map V.str))); rw [inV_str]; exact q⟩))
theorem i_notInS {l : List Str} (h1 : pk ρ y = some d) (h2 : its d = some (l.map D.str)) (q : K (.bl (!decide (a ∈ l)))) : oNotInB ρ (.str a) y K := .inl (.inl (.inl ⟨.str a, d, _, _, rfl, h1, h2, scL_str l, by show K (.bl (!inV (.str a) (l.map V.str))); rw [inV_str]; exact q⟩))
theorem i_inI {l : List Int} (h1 : pk ρ y = some d) (h2 : its d = some (l.map D.int)) (q : K (.bl (decide (i ∈ l)))) : oInB ρ (.int i) y K := .inl (.inl (.inl ⟨.int i, d, _, _, rfl, h1, h2, scL_int l, by show K (.bl (inV (.int i) (l.map V.int))); rw [inV_int]; exact q⟩))
theorem i_notInI {l : List Int} (h1 : pk ρ y = some d) (h2 : its d = some (l.map D.int)) (q : K (.bl (!decide (i ∈ l)))) : oNotInB ρ (.int i) y K := .inl (.inl (.inl ⟨.int i, d, _, _, rfl, h1, h2, scL_int l, by show K (.bl (!inV (.int i) (l.map V.int))); rw [inV_int]; exact q⟩))
theorem i_inD {o : Bool} {ds : List D} (h1 : pk ρ x = some d) (h2 : pk ρ y = some (.lst o ds)) (s1 : shp d = true) (s2 : shp (.lst o ds) = true) (q : K (.bl (ds.any fun z => eqD z d))) : oInB ρ x y K := .inl (.inl (.inr (.inl ⟨d, o, ds, h1, h2, s1, s2, q⟩)))
theorem i_inT {ds : List D} (h1 : pk ρ x = some d) (h2 : pk ρ y = some (.tup ds)) (s1 : shp d = true) (s2 : shp (.tup ds) = true) (q : K (.bl (ds.any fun z => eqD z d))) : oInB ρ x y K := .inr ⟨d, ds, h1, h2, s1, s2, q⟩
theorem i_notInT {ds : List D} (h1 : pk ρ x = some d) (h2 : pk ρ y = some (.tup ds)) (s1 : shp d = true) (s2 : shp (.tup ds) = true) (q : K (.bl (!ds.any fun z => eqD z d))) : oNotInB ρ x y K := .inr ⟨d, ds, h1, h2, s1, s2, q⟩
theorem i_inK {o : Bool} {ks : List Key} {xs : List D} {k : Key} (h1 : pk ρ y = some (.dct o ks xs)) (h2 : keyOf x = some k) (q : K (.bl (valD ks xs k).isSome)) : oInB ρ x y K := .inl (.inr ⟨o, ks, xs, k, h1, h2, q⟩)
theorem i_notInK {o : Bool} {ks : List Key} {xs : List D} {k : Key} (h1 : pk ρ y = some (.dct o ks xs)) (h2 : keyOf x = some k) (q : K (.bl (!(valD ks xs k).isSome))) : oNotInB ρ x y K := .inl (.inr ⟨o, ks, xs, k, h1, h2, q⟩)
theorem i_inX (q : K (.bl (occ b a))) : oInB ρ (.str b) (.str a) K := .inl (.inl (.inr (.inr ⟨b, a, rfl, rfl, trivial, q⟩)))
/-! ### calls of built-in functions -/
theorem i_int {K : D → Sl → Prop} (q : K (.int i) ρ) : nInt ρ [.int i] K := .inl ⟨i, rfl, q⟩
theorem i_abs {K : D → Sl → Prop} (q : K (.int (if i < 0 then -i else i)) ρ) : nAbs ρ [.int i] K := ⟨i, rfl, trivial, q⟩
theorem i_max {K : D → Sl → Prop} (q : K (.int (if j > i then j else i)) ρ) : nMax ρ [.int i, .int j] K := ⟨i, j, rfl, q⟩
theorem i_min {K : D → Sl → Prop} (q : K (.int (if j < i then j else i)) ρ) : nMin ρ [.int i, .int j] K := ⟨i, j, rfl, q⟩
theorem i_dm {K : D → Sl → Prop} (h : 0 < j ∧ j < 1073741824) (q : K (.tpo [.int (i / j), .int (i % j)]) ρ) : nDivmod ρ [.int i, .int j] K := ⟨i, j, rfl, h, q⟩
theorem i_strI {K : D → Sl → Prop} (h : i.natAbs.log2 < 1920) (q : K (.str (toString i)) ρ) : nStr ρ [.int i] K := ⟨i, rfl, h, q⟩
theorem i_lenL {K : D → Sl → Prop} {ds : List D} (h1 : pk ρ x = some d) (h2 : its d = some ds) (q : K (.int ds.length) ρ) : nLen ρ [x] K := ⟨x, d, rfl, h1, .inl ⟨ds, h2, q⟩⟩
theorem i_lenS {K : D → Sl → Prop} (h : a.length ≤ sizeLine) (q : K (.int a.length) ρ) : nLen ρ [.str a] K := ⟨_, _, rfl, rfl, .inr (.inl ⟨a, rfl, h, q⟩)⟩
theorem i_lenD {K : D → Sl → Prop} {o : Bool} {ks : List Key} {xs : List D} (h1 : pk ρ x = some (.dct o ks xs)) (q : K (.int ks.length) ρ) : nLen ρ [x] K := ⟨x, _, rfl, h1, .inr (.inr ⟨o, ks, xs, rfl, q⟩)⟩
theorem i_lenSc {K : D → Sl → Prop} {ns : List Int} (q : K (.int ns.length) ρ) : nLenS ρ [.scr ns] K := ⟨ns, rfl, q⟩
theorem i_list {K : D → Sl → Prop} {ds : List D} (h1 : pk ρ x = some d) (h2 : its d = some ds) (q : K (.lst true ds) ρ) : nList ρ [x] K := ⟨x, d, ds, rfl, h1, h2, q⟩
theorem i_tuple {K : D → Sl → Prop} {ds : List D} (h1 : pk ρ x = some d) (h2 : its d = some ds) (q : K (.tup ds) ρ) : nTuple ρ [x] K := ⟨x, d, ds, rfl, h1, h2, q⟩
theorem bls_map : ∀ l : List Bool, bls (l.map D.bl) = some l
  | [] => rfl
  | b :: l => by
    show (match bls (l.map D.bl) with
      | some bs => some (b :: bs)
      | none => none) = _
    rw [bls_map l]
theorem i_all {K : D → Sl → Prop} {o : Bool} {bs : List Bool} (h1 : pk ρ x = some (.lst o (bs.map D.bl))) (q : K (.bl (bs.all id)) ρ) : nAll ρ [x] K := ⟨x, o, _, bs, rfl, h1, bls_map bs, q⟩
theorem i_any {K : D → Sl → Prop} {o : Bool} {bs : List Bool} (h1 : pk ρ x = some (.lst o (bs.map D.bl))) (q : K (.bl (bs.any id)) ρ) : nAny ρ [x] K := ⟨x, o, _, bs, rfl, h1, bls_map bs, q⟩
theorem i_app {K : D → Sl → Prop} {k : Nat} {xs : List D} (h1 : fzR ρ y = some (d, ρ1)) (h2 : ρ1[k]? = some (some (.lst true xs))) (h3 : xs.length < 16000000) (q : K .non (ρ1.set k (some (.lst true (xs ++ [d]))))) : nApp ρ [.sl k, y] K := ⟨k, y, xs, d, ρ1, rfl, h1, h2, Nat.lt_of_lt_of_le h3 (by decide), q⟩
theorem i_popN {K : D → Sl → Prop} {k m : Nat} {xs : List D} (h1 : ρ[k]? = some (some (.lst true xs))) (hm : m < 2 ^ 63) (h3 : xs[m]? = some d) (q : K d (ρ.set k (some (.lst true (xs.eraseIdx m))))) : nPopAt ρ [.sl k, .int (m : Nat)] K :=
  ⟨k, m, xs, m, d, rfl, h1, by omega, by omega, by
    have hl := (List.getElem?_eq_some_iff.mp h3).1
    unfold ixN
    rw [if_pos (by omega), if_pos (by omega)]; rfl, h3, q⟩
/-- plain: it owns nothing and is no slot -/
structure Pl (d : D) : Prop where
  sl : isSl d = false
  ow : isOw d = false
  fz : fz d = d
theorem fzR_P (h : Pl d) : fzR ρ d = some (d, ρ) := by
  have h1 := h.sl
  have h2 := h.fz
  cases d <;> first | (simp [isSl] at h1; done) | (simp [fzR, h2])
theorem owR_pl (h : Pl d) : owR ρ d = some (d, ρ) := by
  have h1 := h.sl
  cases d <;> first | (simp [isSl] at h1; done) | rfl
theorem pk_pl (h : Pl d) : pk ρ d = some d := by
  have h1 := h.sl
  cases d <;> first | (simp [isSl] at h1; done) | rfl
theorem ret_pl (h : Pl d) : ret ρ d = some (d, ρ) := by
  have h1 := h.sl
  cases d <;> first | (simp [isSl] at h1; done) | rfl
theorem rd_pl {k : Nat} (h : Pl d) : rd k d = d := by unfold rd; rw [h.ow]; rfl
theorem pl_str : Pl (.str a) := ⟨rfl, rfl, rfl⟩
theorem pl_int : Pl (.int i) := ⟨rfl, rfl, rfl⟩
theorem pl_tup {xs : List D} : Pl (.tup xs) := ⟨rfl, rfl, rfl⟩
theorem pl_lf {xs : List D} : Pl (.lst false xs) := ⟨rfl, rfl, rfl⟩
theorem i_popB {K : D → Sl → Prop} {k : Nat} {xs : List D} (h1 : ρ[k]? = some (some (.lst true xs))) (hi : 0 ≤ i ∧ i < xs.length ∧ xs.length ≤ 1000000000) (q : ∀ m (hm : m < xs.length), i = (m : Nat) → K xs[m] (ρ.set k (some (.lst true (xs.eraseIdx m))))) : nPopAt ρ [.sl k, .int i] K := by
  obtain ⟨m, rfl⟩ := Int.eq_ofNat_of_zero_le hi.1
  have hm : m < xs.length := by omega
  exact i_popN h1 (by omega) (by simp [hm]) (q m hm rfl)
theorem its_cases {xs : List D} (h : its d = some xs) (ho : isOw d = false) : d = .tup xs ∨ d = .lst false xs := by
  cases d <;> first | (cases h; done) | skip
  · cases h; exact .inl rfl
  · cases h
    simp [isOw] at ho
    subst ho
    exact .inr rfl
theorem cut_take {α : Type} {xs : List α} {k : Nat} : cut xs none (some (k : Int)) = xs.take k := by
  unfold cut
  rw [HT.sIx_none, HT.sIx_nat]
  simp
theorem cut_drop {α : Type} {xs : List α} {k : Nat} : cut xs (some (k : Int)) none = xs.drop k := by
  unfold cut
  rw [HT.sIx_none, HT.sIx_nat]
  by_cases h : k ≤ xs.length
  · rw [Nat.min_eq_left h, List.take_of_length_le (by simp)]
  · rw [Nat.min_eq_right (by omega), List.drop_of_length_le (Nat.le_refl _), List.drop_of_length_le (by omega)]; simp
theorem cut_takeI {α : Type} {xs : List α} {j : Int} (h : 0 ≤ j) : cut xs none (some j) = xs.take j.toNat := by
  obtain ⟨k, rfl⟩ := Int.eq_ofNat_of_zero_le h
  exact cut_take
theorem cut_dropI {α : Type} {xs : List α} {j : Int} (h : 0 ≤ j) : cut xs (some j) none = xs.drop j.toNat := by
  obtain ⟨k, rfl⟩ := Int.eq_ofNat_of_zero_le h
  exact cut_drop
theorem atI_last {α : Type} {xs : List α} {x : α} : atI (xs ++ [x]) (-1) = some x := by
  unfold atI ixN
  rw [if_neg (by omega), if_pos (by simp; omega)]
  show (xs ++ [x])[((-1 : Int) + ((xs ++ [x]).length : Int)).toNat]? = _
  have : ((-1 : Int) + ((xs ++ [x]).length : Int)).toNat = xs.length := by simp; omega
  rw [this]
  simp
theorem ixN_last {n : Nat} (h : 0 < n) : ixN n (-1) = some (n - 1) := by
  unfold ixN
  rw [if_neg (by omega), if_pos (by omega)]
  congr 1
  omega
theorem i_setlN {k : Nat} {m : Int} {xs : List D} {j : Nat} {r : D} {Q : Sl → Prop} (h0 : isSl r = false) (h1 : fzR ρ r = some (d, ρ)) (h2 : ρ[k]? = some (some (.lst true xs))) (h3 : ixN xs.length (-m) = some j) (q : Q (ρ.set k (some (.lst true (xs.set j d))))) : gSetA (wVar k) (wNeg (wC (.int m))) r ρ Q :=
  ⟨_, h2, m, rfl, .inl ⟨k, -m, xs, j, d, ρ, rfl, rfl, h1, h2, h3, q⟩⟩
theorem i_nfz {P A B : Prop} (h1 : A) (h2 : B) (q : P) : (A ∧ B) ∧ P := ⟨⟨h1, h2⟩, q⟩
theorem i_neg {P : D → Prop} (q : P (.int (-i))) : ∃ k : Int, D.int i = .int k ∧ P (.int (-k)) := ⟨i, rfl, q⟩
theorem perm_erase {α : Type} : ∀ {l : List α} {m : Nat} (hm : m < l.length), (l[m] :: l.eraseIdx m).Perm l
  | x :: l, 0, _ => .refl _
  | x :: l, m + 1, hm => by
    have hm' : m < l.length := by simpa using hm
    show (l[m] :: x :: l.eraseIdx m).Perm (x :: l)
    exact (List.Perm.swap _ _ _).trans ((perm_erase hm').cons x)
theorem erase_map {α β : Type} {f : α → β} : ∀ {l : List α} {m : Nat}, (l.map f).eraseIdx m = (l.eraseIdx m).map f
  | [], _ => rfl
  | x :: l, 0 => rfl
  | x :: l, m + 1 => congrArg (f x :: ·) (erase_map (l := l) (m := m))
theorem i_popM {α : Type} {f : α → D} {K : D → Sl → Prop} {k : Nat} {xs : List α} (h1 : ρ[k]? = some (some (.lst true (xs.map f)))) (hi : 0 ≤ i ∧ i < xs.length ∧ xs.length ≤ 1000000000) (q : ∀ m (hm : m < xs.length), i = (m : Nat) → (xs.eraseIdx m).length + 1 = xs.length → K (f xs[m]) (ρ.set k (some (.lst true ((xs.eraseIdx m).map f))))) : nPopAt ρ [.sl k, .int i] K := by
  refine i_popB h1 (by rw [List.length_map]; exact hi) fun m hm e => ?_
  have hm' : m < xs.length := by rw [List.length_map] at hm; exact hm
  rw [erase_map, List.getElem_map]
  exact q m hm' e (by rw [List.length_eraseIdx_of_lt hm']; omega)
theorem i_ixM {α : Type} {f : α → D} {l : List α} (h1 : pk ρ x = some d) (h2 : its d = some (l.map f)) (hi : 0 ≤ i ∧ i < l.length) (q : ∀ k (hk : k < l.length), i = (k : Nat) → K (f l[k])) : oIxA ρ x (.int i) K := by
  obtain ⟨k, rfl⟩ := Int.eq_ofNat_of_zero_le hi.1
  have hk : k < l.length := by omega
  exact i_ixL h1 h2 (atI_nat (j := k) (by simp [hk])) (q k hk rfl)
theorem i_truB {c : Bool} {P : Bool → Prop} (q : P c) : ∃ k, TruD ρ (.bl c) k ∧ P k := ⟨c, ⟨_, rfl, rfl⟩, q⟩
theorem i_pln {P : Prop} (h : wChain.pln y = true) (q : P) : wChain.pln y = true ∧ P := ⟨h, q⟩
theorem i_isSS {P : Bool → Prop} (q : P true) : ∃ d N b, pk ρ (.str a) = some d ∧ tyN d = some N ∧ kitB N "str" = some b ∧ P b := ⟨_, _, true, rfl, rfl, by decide, q⟩
theorem i_isTT {P : Bool → Prop} {xs : List D} (q : P true) : ∃ d N b, pk ρ (.tup xs) = some d ∧ tyN d = some N ∧ kitB N "tuple" = some b ∧ P b := ⟨_, _, true, rfl, rfl, by decide, q⟩
theorem i_isII {P : Bool → Prop} (q : P true) : ∃ d N b, pk ρ (.int i) = some d ∧ tyN d = some N ∧ kitB N "int" = some b ∧ P b := ⟨_, _, true, rfl, rfl, by decide, q⟩
theorem i_isIB {P : Bool → Prop} (q : P false) : ∃ d N b, pk ρ (.int i) = some d ∧ tyN d = some N ∧ kitB N "bool" = some b ∧ P b := ⟨_, _, false, rfl, rfl, by decide, q⟩
theorem i_isSI {P : Bool → Prop} (q : P false) : ∃ d N b, pk ρ (.str a) = some d ∧ tyN d = some N ∧ kitB N "int" = some b ∧ P b := ⟨_, _, false, rfl, rfl, by decide, q⟩
theorem i_itS {P : Str → Prop} {R : Prop} (q : P a) : R ∨ ∃ z, D.str a = .str z ∧ P z := .inr ⟨a, rfl, q⟩
theorem i_inC {c : Nat} (q : K (.bl (decide (c ∈ a.cps.toList)))) : oInB ρ (.str ⟨#[c]⟩) (.str a) K := i_inX (by
  have e : occ ⟨#[c]⟩ a = decide (c ∈ a.cps.toList) := PySem.StrLaws.found_one a c
  rw [e]; exact q)
theorem i_notIn2 {b c : Str} (q : K (.bl (!decide (a ∈ [b, c])))) : oNotInB ρ (.str a) (.tup [.str b, .str c]) K := i_notInS (l := [b, c]) rfl rfl q
theorem i_in2 {b c : Str} (q : K (.bl (decide (a ∈ [b, c])))) : oInB ρ (.str a) (.tup [.str b, .str c]) K := i_inS (l := [b, c]) rfl rfl q
theorem i_allM {α : Type} {p : α → Bool} {l : List α} {K : D → Sl → Prop} {o : Bool} (h1 : pk ρ x = some (.lst o (l.map fun a => .bl (p a)))) (q : K (.bl (l.all p)) ρ) : nAll ρ [x] K :=
  i_all (bs := l.map p) (by rw [List.map_map]; exact h1) (by rw [List.all_map]; exact q)
theorem i_anyM {α : Type} {p : α → Bool} {l : List α} {K : D → Sl → Prop} {o : Bool} (h1 : pk ρ x = some (.lst o (l.map fun a => .bl (p a)))) (q : K (.bl (l.any p)) ρ) : nAny ρ [x] K :=
  i_any (bs := l.map p) (by rw [List.map_map]; exact h1) (by rw [List.any_map]; exact q)
theorem en_at {α : Type} {e : α → D} {l : List α} {k : Nat} (h : (enumD (l.map e))[k]? = some d) : ∃ x, l[k]? = some x ∧ d = .tpo [.int (k : Nat), e x] := by
  unfold enumD at h
  rw [List.getElem?_mapIdx, List.getElem?_map, Option.map_map] at h
  obtain ⟨x, hx, rfl⟩ := Option.map_eq_some_iff.mp h
  exact ⟨x, hx, rfl⟩
theorem en_len {ds : List D} : (enumD ds).length = ds.length := by unfold enumD; rw [List.length_mapIdx]
theorem idx_str {x : Str} : ∀ {l : List Str}, x ∈ l → (l.map V.str).findIdx? (fun z => eqV z (.str x)) = some (l.idxOf x)
  | y :: l, h => by
    rw [List.map_cons, List.findIdx?_cons, List.idxOf_cons]
    by_cases e : y = x
    · subst e
      simp [eqV]
    · have h2 := idx_str ((List.mem_cons.mp h).resolve_left fun z => e z.symm)
      have e2 : eqV (.str y) (.str x) = false := by simp [eqV, e]
      have e3 : (y == x) = false := by simp [e]
      rw [e2, h2, e3]
      simp
theorem i_index {K : D → Sl → Prop} {o : Bool} {l : List Str} (h1 : pk ρ x = some (.lst o (l.map D.str))) (h : a ∈ l) (q : K (.int (l.idxOf a : Nat)) ρ) : nIndex ρ [x, .str a] K := ⟨x, .str a, _, o, _, _, _, _, rfl, h1, scL_str l, rfl, idx_str h, rfl, q⟩
theorem i_tyL {P : Prop} {o : Bool} {xs : List D} (h : pk ρ x = some (.lst o xs)) (q : P) : tyD "list" ρ x ∧ P := ⟨⟨_, h, rfl⟩, q⟩
theorem i_tyS {P : Prop} (q : P) : tyD "str" ρ (.str a) ∧ P := ⟨⟨_, rfl, rfl⟩, q⟩
theorem i_par {A : Prop} {bs : List Bool} {rs ds : List D} {P : List D → Sl → Prop} (hn : A) (h : parR bs ρ rs = some (ds, ρ2)) (q : P ds ρ2) : ∃ ds ρ2, A ∧ parR bs ρ rs = some (ds, ρ2) ∧ P ds ρ2 := ⟨ds, ρ2, hn, h, q⟩
theorem i_tpo {bs : List Bool} {rs ds : List D} {P : List D → Sl → Prop} (h : parR bs ρ rs = some (ds, ρ2)) (hl : Nat.ble ds.length sizeLine = true) (q : P ds ρ2) : ∃ ds ρ2, parR bs ρ rs = some (ds, ρ2) ∧ ds.length ≤ sizeLine ∧ P ds ρ2 := ⟨ds, ρ2, h, Nat.le_of_ble_eq_true hl, q⟩
theorem i_fzE {r : D} {P : D → Sl → Prop} (h : fzR ρ r = some (d, ρ1)) (q : P d ρ1) : ∃ y ρ5, fzR ρ r = some (y, ρ5) ∧ P y ρ5 := ⟨d, ρ1, h, q⟩
/-! ### stores -/
theorem i_fz {k : Nat} {Q : Sl → Prop} {r : D} (h : fzR ρ r = some (d, ρ1)) (q : Q (ρ1.set k (some d))) : gFz k r ρ Q := ⟨d, ρ1, h, q⟩
theorem i_ow {k : Nat} {Q : Sl → Prop} {r : D} (h : owR ρ r = some (d, ρ1)) (q : Q (ρ1.set k (some d))) : gOw k r ρ Q := ⟨d, ρ1, h, q⟩
theorem i_unp {k : Nat} {gs : WGs} {Q : Sl → Prop} {ds : List D} (h : ds.length = k) (q : gs ds ρ Q) : gUnp k gs (.tup ds) ρ Q := ⟨ds, .inl rfl, h, q⟩
theorem i_unpO {k : Nat} {gs : WGs} {Q : Sl → Prop} {ds : List D} (h : ds.length = k) (q : gs ds ρ Q) : gUnp k gs (.tpo ds) ρ Q := ⟨ds, .inr rfl, h, q⟩
theorem i_gcons {g : WG} {gs : WGs} {Q : Sl → Prop} {ds : List D} (q : g d ρ fun ρ1 => gs ds ρ1 Q) : wgCons g gs (d :: ds) ρ Q := ⟨d, ds, rfl, q⟩
theorem i_gnil {Q : Sl → Prop} (q : Q ρ) : wgNil [] ρ Q := ⟨rfl, q⟩
theorem i_setL {wo wi : WE} {r : D} {Q : Sl → Prop} (h : wo ρ fun o ρ1 => wi ρ1 fun i ρ2 => ∃ j n xs k d ρ3, o = .sl j ∧ i = .int n ∧ fzR ρ2 r = some (d, ρ3) ∧ ρ3[j]? = some (some (.lst true xs)) ∧ ixN xs.length n = some k ∧ Q (ρ3.set j (some (.lst true (xs.set k d))))) (mo : ∀ {ρ Q Q'}, wo ρ Q → (∀ d ρ1, Q d ρ1 → Q' d ρ1) → wo ρ Q') (mi : ∀ {ρ Q Q'}, wi ρ Q → (∀ d ρ1, Q d ρ1 → Q' d ρ1) → wi ρ Q') : gSetA wo wi r ρ Q :=
  mo h fun o ρ1 h => mi h fun i ρ2 h => .inl h
theorem i_setl {k : Nat} {m : Int} {xs : List D} {j : Nat} {r : D} {Q : Sl → Prop} (h0 : isSl r = false) (h1 : fzR ρ r = some (d, ρ)) (h2 : ρ[k]? = some (some (.lst true xs))) (h3 : ixN xs.length m = some j) (q : Q (ρ.set k (some (.lst true (xs.set j d))))) : gSetA (wVar k) (wC (.int m)) r ρ Q :=
  ⟨_, h2, .inl ⟨k, m, xs, j, d, ρ, rfl, rfl, h1, h2, h3, q⟩⟩
theorem i_setd {k : Nat} {ks : List Key} {xs : List D} {kk : Key} {e : D} {wi : WE} {r : D} {Q : Sl → Prop} (hi : wi ρ fun i ρ2 => ρ2 = ρ ∧ i = e) (mi : ∀ {ρ Q Q'}, wi ρ Q → (∀ d ρ1, Q d ρ1 → Q' d ρ1) → wi ρ Q') (ke : keyOf e = some kk) (h1 : fzR ρ r = some (d, ρ)) (h2 : ρ[k]? = some (some (.dct true ks xs))) (h3 : ks.length < sizeLine) (q : Q (ρ.set k (some (.dct true (putKs ks kk) (putXs ks xs kk d))))) : gSetA (wVar k) wi r ρ Q :=
  ⟨_, h2, mi hi fun i ρ2 ⟨e1, e2⟩ => .inr ⟨k, ks, xs, kk, d, ρ, rfl, by rw [e2]; exact ke, by rw [e1]; exact h1, h2, h3, q⟩⟩
theorem i_setdV {k j : Nat} {ks : List Key} {xs : List D} {kk : Key} {e : D} {r : D} {Q : Sl → Prop} (he : ρ[j]? = some (some e)) (ow : rd j e = e) (ke : keyOf e = some kk) (h1 : fzR ρ r = some (d, ρ)) (h2 : ρ[k]? = some (some (.dct true ks xs))) (h3 : ks.length < 16000000) (q : Q (ρ.set k (some (.dct true (putKs ks kk) (putXs ks xs kk d))))) : gSetA (wVar k) (wVar j) r ρ Q :=
  i_setd (e := e) (wi := wVar j) ⟨e, he, rfl, ow⟩ (fun ⟨d, h, q⟩ m => ⟨d, h, m _ _ q⟩) ke h1 h2 (Nat.lt_of_lt_of_le h3 (by decide)) q
theorem i_pow (h : 0 ≤ j ∧ j ≤ 1000000 ∧ i.natAbs < 2 ^ 64) (q : K (.int (i ^ j.toNat))) : oPow ρ (.int i) (.int j) K := ⟨i, j, rfl, rfl, h, q⟩
theorem i_disp {rs ds : List D} {P : List D → Sl → Prop} (h1 : fzRs ρ rs = some (ds, ρ2)) (h2 : Nat.ble ds.length sizeLine = true) (q : P ds ρ2) : ∃ ds ρ2, fzRs ρ rs = some (ds, ρ2) ∧ ds.length ≤ sizeLine ∧ P ds ρ2 := ⟨ds, ρ2, h1, Nat.le_of_ble_eq_true h2, q⟩
theorem i_slL {o : Bool} {xs : List D} {lo hi : Option Int} (h : pk ρ x = some (.lst o xs)) (q : K (.lst true (cut xs lo hi))) : oSl ρ x lo hi K := .inl ⟨o, xs, h, q⟩
theorem i_slT {xs : List D} {lo hi : Option Int} (q : K (.tup (cut xs lo hi))) : oSl ρ (.tup xs) lo hi K := .inr (.inl ⟨xs, rfl, q⟩)
theorem i_slS {lo hi : Option Int} (h : a.length ≤ sizeLine) (q : K (.str (cutS a lo hi))) : oSl ρ (.str a) lo hi K := .inr (.inr ⟨a, rfl, h, q⟩)
theorem i_scr {ns : List Int} {P : List Int → Prop} (q : P ns) : ∃ ns', D.scr ns = .scr ns' ∧ P ns' := ⟨ns, rfl, q⟩
theorem i_ixScB {ns : List Int} (h0 : 0 ≤ i) (h1 : i < ns.length) (q : ∀ u ∈ ns, K (.int u)) : oIxS ρ (.scr ns) (.int i) K := by
  obtain ⟨k, rfl⟩ := Int.eq_ofNat_of_zero_le h0
  have hk : k < ns.length := by omega
  exact i_ixSc (u := ns[k]) (atI_nat (by simp [hk])) (q _ (List.getElem_mem hk))
theorem i_ixB {ds : List D} (h1 : pk ρ x = some d) (h2 : its d = some ds) (h0 : 0 ≤ i) (h : i < ds.length) (q : ∀ k (hk : k < ds.length), i = k → K ds[k]) : oIxA ρ x (.int i) K := by
  obtain ⟨k, rfl⟩ := Int.eq_ofNat_of_zero_le h0
  have hk : k < ds.length := by omega
  exact i_ixL h1 h2 (atI_nat (j := k) (by simp [hk])) (q k hk rfl)
theorem i_opt {P : Int → Prop} (q : P i) : ∃ j, D.int i = .int j ∧ P j := ⟨i, rfl, q⟩
theorem i_itL {ds : List D} {P : List D → Sl → Prop} {R : Prop} (h1 : fzR ρ x = some (d, ρ2)) (h2 : its d = some ds) (q : P ds ρ2) : (∃ d ds ρ2, fzR ρ x = some (d, ρ2) ∧ its d = some ds ∧ P ds ρ2) ∨ R := .inl ⟨d, ds, ρ2, h1, h2, q⟩
theorem i_en {ds : List D} {P : List D → Sl → Prop} (h1 : fzR ρ x = some (d, ρ2)) (h2 : its d = some ds) (q : P ds ρ2) : ∃ d ds ρ2, fzR ρ x = some (d, ρ2) ∧ its d = some ds ∧ P ds ρ2 := ⟨d, ds, ρ2, h1, h2, q⟩
theorem i_r1 {P : Int → Prop} (h : -(2 ^ 62) ≤ j ∧ j < 2 ^ 62) (q : P j) : ∃ k : Int, [D.int j] = [D.int k] ∧ -(2 ^ 62) ≤ k ∧ k < 2 ^ 62 ∧ P k := ⟨j, rfl, h.1, h.2, q⟩
theorem i_r2 {P : Int → Int → Prop} (h : -(2 ^ 62) ≤ i ∧ i < 2 ^ 62 ∧ -(2 ^ 62) ≤ j ∧ j < 2 ^ 62) (q : P i j) : ∃ k l : Int, [D.int i, D.int j] = [D.int k, D.int l] ∧ (-(2 ^ 62) ≤ k ∧ k < 2 ^ 62 ∧ -(2 ^ 62) ≤ l ∧ l < 2 ^ 62) ∧ P k l := ⟨i, j, rfl, h, q⟩
theorem i_strB {K : D → Sl → Prop} (h : -(2 ^ 64) < i ∧ i < 2 ^ 64) (q : K (.str (toString i)) ρ) : nStr ρ [.int i] K := i_strI (by
  by_cases z : i.natAbs = 0
  · rw [z]; decide
  · exact Nat.lt_of_lt_of_le ((Nat.log2_lt z).mpr (show i.natAbs < 2 ^ 64 by omega)) (by decide)) q
/-! ### calls -/
def okOw (own : List Nat) : Nat → List D → Bool
  | _, [] => true
  | n, d :: ds => (own.contains n || !isOw d) && okOw own (n + 1) ds
theorem okOw_at {own : List Nat} : ∀ {ds : List D} {n : Nat}, okOw own n ds = true → ∀ i d, ds[i]? = some d → n + i ∉ own → isOw d = false
  | [], n, _, i, d, e, _ => by simp at e
  | x :: ds, n, h, 0, d, e, hn => by
    simp at e; subst e
    have q := (Bool.and_eq_true_iff.mp h).1
    have hn' : n ∉ own := by simpa using hn
    simpa [hn'] using q
  | x :: ds, n, h, i + 1, d, e, hn => okOw_at (Bool.and_eq_true_iff.mp h).2 i d (by simpa using e) (by rw [Nat.add_assoc, Nat.add_comm 1]; exact hn)
theorem i_call {own : List Nat} {sp : Spd} {Ex : DXs} {rs ds : List D} {js : List Nat} (hn : rs.length = n) (h1 : pre own [] 0 ρ rs = some (ds, ρ2, js)) (h2 : okOw own 0 ds = true) (h : sp ds (fun r os => Q r (puts ρ2 js os)) fun c fs xs => Ex c fs xs ρ2) : callD own [] n sp [] Ex Q rs ρ := by
  refine ⟨ds, ρ2, js, ds, hn, h1, fun _ => rfl, fun z => absurd rfl z, fun i d e ho => okOw_at h2 i d (by simpa using e) (by simpa using ho), ?_⟩
  have e1 : (fun (r : D) (os : List D) => (([] : List Nat) ≠ [] → nfz r = true ∧ nfzL os = true) ∧ Q r (puts ρ2 js os)) = fun r os => Q r (puts ρ2 js os) := by
    funext r os; apply propext; exact ⟨fun z => z.2, fun z => ⟨fun y => absurd rfl y, z⟩⟩
  have e2 : (fun (c : Str) (fs : List Str) (xs : List D) => (([] : List Nat) ≠ [] → nfzL xs = true) ∧ Ex c fs xs ρ2) = fun c fs xs => Ex c fs xs ρ2 := by
    funext c fs xs; apply propext; exact ⟨fun z => z.2, fun z => ⟨fun y => absurd rfl y, z⟩⟩
  rw [List.append_nil, e1, e2]
  exact h
theorem i_callB {own bor : List Nat} {sp : Spd} {Ex : DXs} {rs ds es : List D} {js : List Nat} (hb : bor ≠ []) (hn : rs.length = n) (h1 : pre own bor 0 ρ rs = some (ds, ρ2, js)) (hl : lend ρ2 ds = some es) (h2 : okOw own 0 es = true) (h : sp es (fun r os => (nfz r = true ∧ nfzL os = true) ∧ Q r (puts ρ2 js os)) fun c fs xs => nfzL xs = true ∧ Ex c fs xs ρ2) : callD own bor n sp [] Ex Q rs ρ := by
  refine ⟨ds, ρ2, js, es, hn, h1, fun z => absurd z hb, fun _ => hl, fun i d e ho => okOw_at h2 i d (by simpa using e) (by simpa using ho), ?_⟩
  have e1 : (fun (r : D) (os : List D) => (bor ≠ [] → nfz r = true ∧ nfzL os = true) ∧ Q r (puts ρ2 js os)) = fun r os => (nfz r = true ∧ nfzL os = true) ∧ Q r (puts ρ2 js os) := by
    funext r os; apply propext; exact ⟨fun z => ⟨z.1 hb, z.2⟩, fun z => ⟨fun _ => z.1, z.2⟩⟩
  have e2 : (fun (c : Str) (fs : List Str) (xs : List D) => (bor ≠ [] → nfzL xs = true) ∧ Ex c fs xs ρ2) = fun c fs xs => nfzL xs = true ∧ Ex c fs xs ρ2 := by
    funext c fs xs; apply propext; exact ⟨fun z => ⟨z.1 hb, z.2⟩, fun z => ⟨fun _ => z.1, z.2⟩⟩
  rw [List.append_nil, e1, e2]
  exact h
/-! ### comprehensions that change nothing -/
theorem its_map {α : Type} {f : α → D} {l : List α} {o : Bool} : its (.lst o (l.map f)) = some (l.map f) := rfl
theorem i_join {K : D → Sl → Prop} {xs : List D} (l : List Str) (h1 : pk ρ x = some d) (h2 : its d = some xs) (h3 : xs = l.map D.str) (h : (l.map (·.length)).sum + l.length * a.length ≤ 16000000) (q : K (.str (Str.join a l)) ρ) : nJoin ρ [.str a, x] K :=
  ⟨a, x, d, xs, l, rfl, h1, h2, by rw [h3, txts_map], Nat.le_trans h (by decide), by rw [TL.join_eq]; exact q⟩
theorem ite_dt {P : Prop} [Decidable P] {A B : Prop} (h : P) (q : A) : if decide P = true then A else B := by rw [decide_eq_true h]; exact q
theorem ite_df {P : Prop} [Decidable P] {A B : Prop} (h : ¬ P) (q : B) : if decide P = true then A else B := by rw [decide_eq_false h]; exact q
/-- behind a comprehension's iterable -/
def lcK (g : WG) (wt : WT) (we : WE) (vs : List Nat) (ds : List D) (ρ1 : Sl) (Q : D → Sl → Prop) : Prop := ∃ I : Nat → List D → Sl → Prop, I 0 [] (wip ρ1 vs) ∧
  (∀ i d acc ρ, ds[i]? = some d → I i acc ρ → g d ρ fun ρ2 => wt ρ2 fun b ρ3 => if b = true then we ρ3 fun r ρ4 => ∃ y ρ5, fzR ρ4 r = some (y, ρ5) ∧ acc.length < sizeLine ∧ I (i + 1) (acc ++ [y]) (wip ρ5 vs) else I (i + 1) acc (wip ρ3 vs)) ∧
  ∀ acc ρ, I ds.length acc ρ → Q (.lst true acc) (rst ρ1 ρ vs)
theorem i_lc0 {wi : WI} {g : WG} {wt : WT} {we : WE} {vs : List Nat} (h : wi ρ fun ds ρ1 => lcK g wt we vs ds ρ1 Q) : wLc wi g wt we vs ρ Q := h
/-- [f a for a in l if p a] -/
theorem i_lcF {α : Type} {g : WG} {wt : WT} {we : WE} {vs : List Nat} {ds : List D} (l : List α) (e : α → D) (p : α → Bool) (f : α → D) (hds : ds = l.map e) (hz : l.length ≤ 16000000)
    (hb : ∀ a ∈ l, ∀ (P : D → Sl → Prop) (N : Sl → Prop), (p a = true → P (f a) (wip ρ1 vs)) → (p a = false → N (wip ρ1 vs)) → g (e a) (wip ρ1 vs) fun ρ2 => wt ρ2 fun b ρ3 => if b = true then we ρ3 fun r ρ4 => ∃ y ρ5, fzR ρ4 r = some (y, ρ5) ∧ P y (wip ρ5 vs) else N (wip ρ3 vs))
    (q : Q (.lst true ((l.filter p).map f)) (rst ρ1 (wip ρ1 vs) vs)) : lcK g wt we vs ds ρ1 Q := by
  subst hds
  refine ⟨fun i acc ρ => ρ = wip ρ1 vs ∧ acc = ((l.take i).filter p).map f, ⟨rfl, rfl⟩, ?_, ?_⟩
  · rintro i d acc ρ hd ⟨rfl, rfl⟩
    rw [List.getElem?_map] at hd
    obtain ⟨a, ha, rfl⟩ := Option.map_eq_some_iff.mp hd
    have hi := (List.getElem?_eq_some_iff.mp ha).1
    have hl : (((l.take i).filter p).map f).length < sizeLine := by
      rw [List.length_map]
      have h1 := List.length_filter_le p (l.take i)
      have h2 : (l.take i).length = i := by rw [List.length_take]; omega
      exact Nat.lt_of_lt_of_le (show ((l.take i).filter p).length < 16000000 by omega) (by decide)
    have tk : l.take (i + 1) = l.take i ++ [a] := by rw [List.take_add_one, ha]; rfl
    refine hb a (List.mem_of_getElem? ha) (fun y ρ5 => (((l.take i).filter p).map f).length < sizeLine ∧ ρ5 = wip ρ1 vs ∧ ((l.take i).filter p).map f ++ [y] = ((l.take (i + 1)).filter p).map f) (fun ρ5 => ρ5 = wip ρ1 vs ∧ ((l.take i).filter p).map f = ((l.take (i + 1)).filter p).map f) (fun hp => ⟨hl, rfl, ?_⟩) fun hp => ⟨rfl, ?_⟩
    · rw [tk]; simp [List.filter_append, hp]
    · rw [tk]; simp [List.filter_append, hp]
  · rintro acc ρ ⟨rfl, rfl⟩
    rw [List.length_map, List.take_length]
    exact q
theorem i_lcM {α : Type} {g : WG} {we : WE} {vs : List Nat} {ds : List D} (l : List α) (e f : α → D) (hds : ds = l.map e) (hz : l.length ≤ 16000000)
    (hb : ∀ a ∈ l, ∀ P : D → Sl → Prop, P (f a) (wip ρ1 vs) → g (e a) (wip ρ1 vs) fun ρ2 => we ρ2 fun r ρ4 => ∃ y ρ5, fzR ρ4 r = some (y, ρ5) ∧ P y (wip ρ5 vs)) (q : Q (.lst true (l.map f)) (rst ρ1 (wip ρ1 vs) vs)) : lcK g wYes we vs ds ρ1 Q :=
  i_lcF l e (fun _ => true) f hds hz (fun a ha P N h1 _ => by
    have := hb a ha P (h1 rfl)
    exact this) (by rw [List.filter_eq_self.mpr fun _ _ => rfl]; exact q)
/-! ### dict comprehensions -/
def dcK (g : WG) (wt : WT) (wk we : WE) (vs : List Nat) (ds : List D) (ρ1 : Sl) (Q : D → Sl → Prop) : Prop := ∃ I : Nat → List Key → List D → Sl → Prop, I 0 [] [] (wip ρ1 vs) ∧
  (∀ i d ks xs ρ, ds[i]? = some d → I i ks xs ρ → g d ρ fun ρ2 => wt ρ2 fun b ρ3 => if b = true then wk ρ3 fun x ρ4 => we ρ4 fun r ρ5 => ∃ k y ρ6, keyOf x = some k ∧ fzR ρ5 r = some (y, ρ6) ∧ ks.length < sizeLine ∧ I (i + 1) (putKs ks k) (putXs ks xs k y) (wip ρ6 vs) else I (i + 1) ks xs (wip ρ3 vs)) ∧
  ∀ ks xs ρ, I ds.length ks xs ρ → Q (.dct true ks xs) (rst ρ1 ρ vs)
theorem i_dc0 {wi : WI} {g : WG} {wt : WT} {wk we : WE} {vs : List Nat} (h : wi ρ fun ds ρ1 => dcK g wt wk we vs ds ρ1 Q) : wDc wi g wt wk we vs ρ Q := h
theorem i_kfz {r : D} {k : Key} {P : Key → D → Sl → Prop} (h1 : keyOf x = some k) (h : fzR ρ r = some (d, ρ1)) (q : P k d ρ1) : ∃ k y ρ6, keyOf x = some k ∧ fzR ρ r = some (y, ρ6) ∧ P k y ρ6 := ⟨k, d, ρ1, h1, h, q⟩
def dfold {α : Type} (p : List Key × List D) (l : List α) (kf : α → Key) (f : α → D) : List Key × List D := l.foldl (fun p a => (putKs p.1 (kf a), putXs p.1 p.2 (kf a) (f a))) p
theorem putKs_len {ks : List Key} {k : Key} : (putKs ks k).length ≤ ks.length + 1 := by
  unfold putKs
  split <;> simp
theorem i_dcG {α : Type} {g : WG} {wk we : WE} {vs : List Nat} {ds : List D} (l : List α) (e : α → D) (kf : α → Key) (f : α → D) (hds : ds = l.map e) (hz : l.length ≤ 1000)
    (hb : ∀ a ∈ l, ∀ P : Key → D → Sl → Prop, P (kf a) (f a) (wip ρ1 vs) → g (e a) (wip ρ1 vs) fun ρ2 => wk ρ2 fun x ρ4 => we ρ4 fun r ρ5 => ∃ k y ρ6, keyOf x = some k ∧ fzR ρ5 r = some (y, ρ6) ∧ P k y (wip ρ6 vs)) (q : Q (.dct true (dfold ([], []) l kf f).1 (dfold ([], []) l kf f).2) (rst ρ1 (wip ρ1 vs) vs)) : dcK g wYes wk we vs ds ρ1 Q := by
  subst hds
  refine ⟨fun i ks xs ρ => ρ = wip ρ1 vs ∧ (ks, xs) = dfold ([], []) (l.take i) kf f ∧ ks.length ≤ i, ⟨rfl, rfl, Nat.le_refl _⟩, ?_, ?_⟩
  · rintro i d ks xs ρ hd ⟨rfl, hk, hl⟩
    rw [List.getElem?_map] at hd
    obtain ⟨a, ha, rfl⟩ := Option.map_eq_some_iff.mp hd
    have hi := (List.getElem?_eq_some_iff.mp ha).1
    have tk : l.take (i + 1) = l.take i ++ [a] := by rw [List.take_add_one, ha]; rfl
    refine hb a (List.mem_of_getElem? ha) (fun k y ρ6 => ks.length < sizeLine ∧ (ρ6 = wip ρ1 vs ∧ (putKs ks k, putXs ks xs k y) = dfold ([], []) (l.take (i + 1)) kf f ∧ (putKs ks k).length ≤ i + 1)) ⟨Nat.lt_of_lt_of_le (show ks.length < 2000 by omega) (by decide), rfl, ?_, Nat.le_trans putKs_len (by omega)⟩
    rw [tk]
    unfold dfold at hk ⊢
    rw [List.foldl_append, ← hk]
    rfl
  · rintro ks xs ρ ⟨rfl, hk, _⟩
    rw [List.length_map, List.take_length] at hk
    rw [← hk] at q
    exact q
/-! ### dicts by entries -/
abbrev kS (l : List Str) : List Key := l.map Sum.inr
theorem hasK_S {l : List Str} {x : Str} : hasK (kS l) (.inr x) = decide (x ∈ l) := by
  induction l with
  | nil => rfl
  | cons y l ih =>
    show (decide ((Sum.inr y : Key) = .inr x) || hasK (kS l) (.inr x)) = _
    rw [ih]
    by_cases h : y = x
    · subst h; simp
    · have : ¬ x = y := fun e => h e.symm
      simp [h, this]
theorem valD_S {α : Type} {f : Str → α} {x : Str} : ∀ {l : List Str}, x ∈ l → valD (kS l) (l.map f) (.inr x) = some (f x)
  | y :: l, h => by
    show (if (Sum.inr y : Key) = .inr x then some (f y) else valD (kS l) (l.map f) (.inr x)) = _
    by_cases e : y = x
    · subst e; rw [if_pos rfl]
    · rw [if_neg (fun z => e (Sum.inr.inj z))]
      exact valD_S ((List.mem_cons.mp h).resolve_left fun z => e z.symm)
theorem valD_none {α : Type} {x : Str} : ∀ {l : List Str} {xs : List α}, x ∉ l → valD (kS l) xs (.inr x) = none
  | [], _, _ => by cases ‹List α› <;> rfl
  | y :: l, [], _ => rfl
  | y :: l, z :: xs, h => by
    show (if (Sum.inr y : Key) = .inr x then some z else valD (kS l) xs (.inr x)) = _
    rw [if_neg (fun e => h (by simp [Sum.inr.inj e]))]
    exact valD_none fun q => h (List.mem_cons_of_mem _ q)
theorem repX_S {α : Type} {f : Str → α} {x : Str} {v : α} : ∀ {l : List Str}, repX (kS l) (l.map f) (.inr x) v = l.map fun y => if y = x then v else f y
  | [] => rfl
  | y :: l => by
    show (if (Sum.inr y : Key) = .inr x then v else f y) :: repX (kS l) (l.map f) (.inr x) v = _
    rw [repX_S]
    by_cases e : y = x
    · subst e; simp
    · rw [if_neg (fun z => e (Sum.inr.inj z))]; simp [e]
theorem putKs_S {l : List Str} {x : Str} (h : x ∈ l) : putKs (kS l) (.inr x) = kS l := by
  unfold putKs; rw [hasK_S, decide_eq_true h]; rfl
theorem putXs_S {α : Type} {f : Str → α} {l : List Str} {x : Str} {v : α} (h : x ∈ l) : putXs (kS l) (l.map f) (.inr x) v = l.map fun y => if y = x then v else f y := by
  unfold putXs; rw [hasK_S, decide_eq_true h, if_pos rfl, repX_S]
theorem putKs_N {l : List Str} {x : Str} (h : x ∉ l) : putKs (kS l) (.inr x) = kS (l ++ [x]) := by
  unfold putKs; rw [hasK_S, decide_eq_false h]; simp
theorem putXs_N {α : Type} {f : Str → α} {l : List Str} {x : Str} (h : x ∉ l) : putXs (kS l) (l.map f) (.inr x) (f x) = (l ++ [x]).map f := by
  unfold putXs; rw [hasK_S, decide_eq_false h]; simp
theorem dfold_S {f : Str → D} : ∀ {l m : List Str}, (m ++ l).Nodup → dfold (kS m, m.map f) l (fun x => .inr x) f = (kS (m ++ l), (m ++ l).map f)
  | [], m, _ => by simp [dfold]
  | x :: l, m, h => by
    have hx : x ∉ m := fun z => (List.nodup_append.mp h).2.2 x z x List.mem_cons_self rfl
    show dfold (putKs (kS m) (.inr x), putXs (kS m) (m.map f) (.inr x) (f x)) l _ f = _
    rw [putKs_N hx, putXs_N hx, dfold_S (by simpa using h)]
    simp
/-- {x: f x for x in l} -/
theorem i_dcS {ρ1 : Sl} {Q : D → Sl → Prop} {g : WG} {wk we : WE} {vs : List Nat} {ds : List D} (l : List Str) (f : Str → D) (hds : ds = l.map D.str) (nd : l.Nodup) (hz : l.length ≤ 1000)
    (hb : ∀ a ∈ l, ∀ P : Key → D → Sl → Prop, P (.inr a) (f a) (wip ρ1 vs) → g (.str a) (wip ρ1 vs) fun ρ2 => wk ρ2 fun x ρ4 => we ρ4 fun r ρ5 => ∃ k y ρ6, keyOf x = some k ∧ fzR ρ5 r = some (y, ρ6) ∧ P k y (wip ρ6 vs)) (q : Q (.dct true (kS l) (l.map f)) (rst ρ1 (wip ρ1 vs) vs)) : dcK g wYes wk we vs ds ρ1 Q :=
  i_dcG l D.str (fun x => .inr x) f hds hz hb (by
    have := dfold_S (f := f) (l := l) (m := []) (by simpa using nd)
    simp only [List.map_nil, List.nil_append] at this
    rw [show (([] : List Key), ([] : List D)) = (kS [], [].map f) from rfl, dfold_S (by simpa using nd)]
    simpa using q)
theorem i_inKS {o : Bool} {l : List Str} {f : Str → D} (h1 : pk ρ y = some (.dct o (kS l) (l.map f))) (q : K (.bl (decide (a ∈ l)))) : oInB ρ (.str a) y K := i_inK h1 rfl (by
  by_cases h : a ∈ l
  · rw [valD_S h]; rw [decide_eq_true h] at q; exact q
  · rw [valD_none h]; rw [decide_eq_false h] at q; exact q)
theorem i_notInKS {o : Bool} {l : List Str} {f : Str → D} (h1 : pk ρ y = some (.dct o (kS l) (l.map f))) (q : K (.bl (!decide (a ∈ l)))) : oNotInB ρ (.str a) y K := i_notInK h1 rfl (by
  by_cases h : a ∈ l
  · rw [valD_S h]; rw [decide_eq_true h] at q; exact q
  · rw [valD_none h]; rw [decide_eq_false h] at q; exact q)
theorem i_ixKS {o : Bool} {l : List Str} {f : Str → D} (h1 : pk ρ x = some (.dct o (kS l) (l.map f))) (h : a ∈ l) (q : K (f a)) : oIxA ρ x (.str a) K := i_ixD h1 rfl (valD_S h) q
theorem i_setKN {k j : Nat} {l : List Str} {f : Str → D} {r : D} {Q : Sl → Prop} (h2 : ρ[k]? = some (some (.dct true (kS l) (l.map f)))) (he : ρ[j]? = some (some (.str a))) (h : a ∉ l) (hf : f a = d) (h1 : fzR ρ r = some (d, ρ)) (h3 : l.length < 16000000) (q : Q (ρ.set k (some (.dct true (kS (l ++ [a])) ((l ++ [a]).map f))))) : gSetA (wVar k) (wVar j) r ρ Q :=
  i_setdV he rfl rfl h1 h2 (by rw [List.length_map]; exact h3) (by rw [putKs_N h, ← hf, putXs_N h]; exact q)
theorem i_setKO {k j : Nat} {l : List Str} {f : Str → D} {r : D} {Q : Sl → Prop} (h2 : ρ[k]? = some (some (.dct true (kS l) (l.map f)))) (he : ρ[j]? = some (some (.str a))) (h : a ∈ l) (h1 : fzR ρ r = some (d, ρ)) (h3 : l.length < 16000000) (q : Q (ρ.set k (some (.dct true (kS l) (l.map fun y => if y = a then d else f y))))) : gSetA (wVar k) (wVar j) r ρ Q :=
  i_setdV he rfl rfl h1 h2 (by rw [List.length_map]; exact h3) (by rw [putKs_S h, putXs_S h]; exact q)
/-! ### instances, locks -/
theorem i_lockE {z : Option (Option D)} {o : Bool} {ks : List Key} {xs : List D} {P : Bool → List Key → List D → Prop} (h : z = some (some (.dct o ks xs))) (q : P o ks xs) : ∃ o ks xs, z = some (some (.dct o ks xs)) ∧ P o ks xs := ⟨o, ks, xs, h, q⟩
theorem i_dk {z : Option (Option D)} {ks : List Key} {xs : List D} {P : List Key → List D → Prop} (h : z = some (some (.dct false ks xs))) (q : P ks xs) : ∃ ks xs, z = some (some (.dct false ks xs)) ∧ P ks xs := ⟨ks, xs, h, q⟩
theorem keys_S {l : List Str} : (kS l).map keyD = l.map D.str := by rw [List.map_map]; rfl
theorem getX_ne {α : Type} {f g : Str} {fs : List Str} {x : α} {xs : List α} (h : decide (g = f) = false) : getX f (g :: fs) (x :: xs) = getX f fs xs := by
  show (if g = f then some x else getX f fs xs) = _
  rw [if_neg (of_decide_eq_false h)]
theorem getX_eq {α : Type} {f : Str} {fs : List Str} {x : α} {xs : List α} : getX f (f :: fs) (x :: xs) = some x := if_pos rfl
theorem putK_new {f : Str} : ∀ {fs : List Str}, (fs.all fun g => decide (g ≠ f)) = true → putK f fs = fs ++ [f]
  | [], _ => rfl
  | g :: fs, h => by
    obtain ⟨h1, h2⟩ := Bool.and_eq_true_iff.mp h
    show (if g = f then _ else _) = _
    rw [if_neg (of_decide_eq_true h1), putK_new h2]; rfl
theorem putX_new {α : Type} {f : Str} {d : α} : ∀ {fs : List Str} {xs : List α}, fs.length = xs.length → (fs.all fun g => decide (g ≠ f)) = true → putX f d fs xs = xs ++ [d]
  | [], [], _, _ => rfl
  | g :: fs, x :: xs, hl, h => by
    obtain ⟨h1, h2⟩ := Bool.and_eq_true_iff.mp h
    show (if g = f then _ else _) = _
    rw [if_neg (of_decide_eq_true h1), putX_new (by simpa using hl) h2]; rfl
theorem i_gattr {k : Nat} {c c0 f : Str} {fs fs0 : List Str} {xs xs0 : List D} {r : D} {Q : Sl → Prop} (h0 : ρ[k]? = some (some (.ins true c0 fs0 xs0))) (h1 : fzR ρ r = some (d, ρ2)) (h2 : ρ2[k]? = some (some (.ins true c fs xs))) (hl : fs.length = xs.length) (h3 : Nat.blt fs.length 1000 = true) (hn : (fs.all fun g => decide (g ≠ f)) = true) (q : Q (ρ2.set k (some (.ins true c (fs ++ [f]) (xs ++ [d]))))) :
    gAttr c f (wVar k) r ρ Q := ⟨_, h0, k, fs, xs, d, ρ2, rfl, h1, h2, Nat.ble_eq.mp h3, by rw [putK_new hn, putX_new hl hn]; exact q⟩
theorem i_isin {c : Str} {o : Bool} {fs : List Str} {xs : List D} {P : Prop} (h1 : pk ρ x = some (.ins o c fs xs)) (q : P) : isIn ρ x c ∧ P := ⟨⟨o, fs, xs, h1⟩, q⟩
theorem i_isins {c m : Str} {o : Bool} {fs : List Str} {xs : List D} {P : Prop} (h1 : pk ρ x = some (.ins o c fs xs)) (h2 : getX m fs xs = none) (q : P) : isIns ρ x c m ∧ P := ⟨⟨o, fs, xs, h1, h2⟩, q⟩
theorem i_js {acc : Str} {P : Str → Prop} (h : (acc ++ a).length ≤ 16000000) (q : P a) : ∃ y, D.str a = .str y ∧ (acc ++ y).length ≤ sizeLine ∧ P y := ⟨a, rfl, Nat.le_trans h (by decide), q⟩
theorem empty_app {a : Str} : Str.empty ++ a = a := by
  cases a
  show (⟨#[] ++ _⟩ : Str) = _
  simp
theorem i_fld {c f : Str} {o : Bool} {fs : List Str} {xs : List D} {P : D → Prop} (h1 : pk ρ x = some (.ins o c fs xs)) (h2 : getX f fs xs = some d) (q : P d) : ∃ o fs xs d, pk ρ x = some (.ins o c fs xs) ∧ getX f fs xs = some d ∧ P d := ⟨o, fs, xs, d, h1, h2, q⟩
theorem i_star {ds : List D} {P : List D → Prop} (h1 : pk ρ x = some d) (h2 : its d = some ds) (q : P ds) : ∃ d ds, pk ρ x = some d ∧ its d = some ds ∧ P ds := ⟨d, ds, h1, h2, q⟩
theorem i_fmt {P : Str → Prop} {R : Prop} (h : a.length ≤ 16000000) (q : P a) : (∃ y, D.str a = .str y ∧ y.length ≤ sizeLine ∧ P y) ∨ R := .inl ⟨a, rfl, Nat.le_trans h (by decide), q⟩
theorem fzRs_str : ∀ {l : List Str}, fzRs ρ (l.map D.str) = some (l.map D.str, ρ)
  | [] => rfl
  | x :: l => by
    show (match fzR ρ (.str x) with
      | some (d, ρ1) => match fzRs ρ1 (l.map D.str) with
        | some (ds, ρ2) => some (d :: ds, ρ2)
        | none => none
      | none => none) = _
    rw [show fzR ρ (.str x) = some (.str x, ρ) from rfl]
    show (match fzRs ρ (l.map D.str) with
        | some (ds, ρ2) => some (D.str x :: ds, ρ2)
        | none => none) = _
    rw [fzRs_str]; rfl
theorem i_dispS {rs : List D} {P : List D → Sl → Prop} (l : List Str) (e : rs = l.map D.str) (hl : l.length ≤ 16000000) (q : P (l.map D.str) ρ) : ∃ ds ρ2, fzRs ρ rs = some (ds, ρ2) ∧ ds.length ≤ sizeLine ∧ P ds ρ2 :=
  ⟨_, ρ, by rw [e]; exact fzRs_str, by rw [List.length_map]; exact Nat.le_trans hl (by decide), q⟩
theorem i_spc {c : Str} {sp : Spd} {q : D → Prop} {K : D → Sl → Prop} (h : isIn ρ x c ∧ callD [] [] 1 sp [] exF (fun r ρ1 => q r ∧ K r ρ1) [x] ρ) : nSpc c sp q ρ [x] K := ⟨x, rfl, h.1, h.2⟩
theorem i_qlen {k : Nat} {P : Prop} (h : k < 1000000) (q : P) : qLen (.int (k : Nat)) ∧ P := ⟨⟨_, rfl, by omega, by omega⟩, q⟩
theorem i_qstr {P : Prop} (q : P) : qStr (.str a) ∧ P := ⟨⟨_, rfl⟩, q⟩
theorem i_qbl {b : Bool} {P : Prop} (q : P) : qBl (.bl b) ∧ P := ⟨⟨_, rfl⟩, q⟩
theorem i_nn {a b : Nat} {P : Prop} (q : P) : a = a ∧ b = b ∧ P := ⟨rfl, rfl, q⟩
theorem i_made {P : D → Prop} (q : P d) : D.non = .non ∧ ∃ x, [d] = [x] ∧ P x := ⟨rfl, d, rfl, q⟩
theorem permL_nil {α : Type} {xs : List α} : permL [] xs = [] := rfl
theorem permL_cons {α : Type} {k : Nat} {is : List Nat} {xs : List α} : permL (k :: is) xs = (match xs[k]? with
  | none => permL is xs
  | some x => x :: permL is xs) := rfl
theorem i_fzs {rs ds : List D} {P : List D → Sl → Prop} (h1 : fzRs ρ rs = some (ds, ρ2)) (q : P ds ρ2) : ∃ ds ρ2, fzRs ρ rs = some (ds, ρ2) ∧ P ds ρ2 := ⟨ds, ρ2, h1, q⟩
end
end M
/-! MT: step lemmas for M25..M29. -/
namespace M
open PySem PySem.Spec PyProof.Rows L2
section
variable {ρ ρ1 ρ2 : Sl} {K : D → Sl → Prop} {Q : D → Sl → Prop} {x y d : D} {a b z : Str} {n i : Nat} {A : Prop}
theorem i_tm {ds : List D} (h : pk ρ x = some (.tup ds)) (q : A) : (∃ ds, pk ρ x = some (.tup ds)) ∧ A := ⟨⟨ds, h⟩, q⟩
theorem i_tindex {l : List Str} (h1 : pk ρ x = some (.tup (l.map D.str))) (hz : z ∈ l) (q : K (.int (l.idxOf z : Nat)) ρ) : nIndexT ρ [x, .str z] K := ⟨x, z, _, l, rfl, h1, txts_map l, hz, q⟩
theorem i_remS {l : List Str} (h1 : ρ[i]? = some (some (.lst true (l.map D.str)))) (hz : z ∈ l) (q : K .non (ρ.set i (some (.lst true ((l.erase z).map D.str))))) : nRemS ρ [.sl i, .str z] K := ⟨i, z, _, l, rfl, h1, txts_map l, hz, q⟩
def rvK (ρ : Sl) (x : D) (Q : D → Sl → Prop) : Prop := ∃ b xs, pk ρ x = some (.lst b xs) ∧ Q (.lst true xs.reverse) ρ
theorem i_rv0 {w : WE} (h : w ρ fun x ρ1 => rvK ρ1 x Q) : wRevL w ρ Q := h
theorem i_revL {bo : Bool} {xs : List D} (h : pk ρ x = some (.lst bo xs)) (q : Q (.lst true xs.reverse) ρ) : rvK ρ x Q := ⟨bo, xs, h, q⟩
theorem i_dictP {α : Type} {l : List α} {k : α → Str} {f : α → D} {bo : Bool} (h : pk ρ x = some (.lst bo (l.map fun e => .tup [.str (k e), f e]))) (nd : (l.map k).Nodup) (q : K (.dct true (kS (l.map k)) (l.map f)) ρ) : nDictP ρ [x] K := by
  refine ⟨x, bo, l.map fun e => (.inr (k e), f e), rfl, ?_, ?_, ?_⟩
  · rw [h, List.map_map]
    rfl
  · rw [List.map_map]
    have : (l.map ((fun x : Key × D => x.1) ∘ fun e => ((.inr (k e) : Key), f e))) = (l.map k).map (Sum.inr : Str → Key) := by rw [List.map_map]; rfl
    rw [this]
    exact (List.pairwise_map).mpr (nd.imp fun h c => h (Sum.inr.inj c))
  · rw [List.map_map, List.map_map]
    have : (l.map ((fun x : Key × D => x.1) ∘ fun e => ((.inr (k e) : Key), f e))) = kS (l.map k) := by rw [kS, List.map_map]; rfl
    rw [this]
    exact q
/-- two texts by their places -/
def srt2 (ws : List Str) (a b : Str) : Str × Str := if ws.idxOf a > ws.idxOf b then (b, a) else (a, b)
theorem byIx_two {ws : List Str} : byIx ws [a, b] = [(srt2 ws a b).1, (srt2 ws a b).2] := by
  unfold byIx srt2
  by_cases h : ws.idxOf a > ws.idxOf b
  · rw [if_pos h]
    have : ¬ ((ws.idxOf a : Int) ≤ ws.idxOf b) := by omega
    simp [List.mergeSort, List.MergeSort.Internal.splitInTwo, List.merge, this]
    omega
  · rw [if_neg h]
    have : ((ws.idxOf a : Int) ≤ ws.idxOf b) := by omega
    simp [List.mergeSort, List.MergeSort.Internal.splitInTwo, List.merge, this]
    omega
def siK (ρ2 : Sl) (rs : List D) (y : D) (Q : D → Sl → Prop) : Prop := ∃ x b xs ys ds ws, rs = [x] ∧ pk ρ2 x = some (.lst b xs) ∧ txts xs = some ys ∧ pk ρ2 y = some (.tup ds) ∧ txts ds = some ws ∧ (∀ y ∈ ys, y ∈ ws) ∧ Q (.lst true ((byIx ws ys).map .str)) ρ2
theorem i_si0 {wa : WA} {w2 : WE} (h : wa ρ fun rs ρ1 => w2 ρ1 fun y ρ2 => siK ρ2 rs y Q) : wSortIx wa w2 ρ Q := h
theorem i_sort2 {ws : List Str} {bo : Bool} (h1 : pk ρ x = some (.lst bo [.str a, .str b])) (h2 : pk ρ y = some (.tup (ws.map D.str))) (ha : a ∈ ws) (hb : b ∈ ws) (q : Q (.lst true [.str (srt2 ws a b).1, .str (srt2 ws a b).2]) ρ) : siK ρ [x] y Q := by
  refine ⟨x, bo, _, [a, b], _, ws, rfl, h1, rfl, h2, txts_map ws, ?_, ?_⟩
  · intro y hy
    simp at hy
    rcases hy with rfl | rfl <;> assumption
  · rw [byIx_two]
    exact q
def lsK (ρ : Sl) (x : D) (Q : D → Sl → Prop) : Prop := ∃ ds xs, pk ρ x = some (.tup ds) ∧ txts ds = some xs ∧ xs.length < 1000 ∧ Q (.int (cntD xs xs.length : Nat)) ρ
theorem i_ls0 {w : WE} (h : w ρ fun x ρ1 => lsK ρ1 x Q) : wLenSet w ρ Q := h
theorem i_lenSet {l : List Str} (h : pk ρ x = some (.tup (l.map D.str))) (nd : l.Nodup) (few : l.length < 1000) (q : Q (.int (l.length : Nat)) ρ) : lsK ρ x Q := ⟨_, l, h, txts_map l, few, by rw [cntD_nd nd _ (Nat.le_refl _)]; exact q⟩
theorem i_lenSetG {l : List Str} (h : pk ρ x = some (.tup (l.map D.str))) (few : l.length < 1000) (q : Q (.int (cntD l l.length : Nat)) ρ) : lsK ρ x Q := ⟨_, l, h, txts_map l, few, q⟩
/-- a comprehension of two clauses behind its first iterable -/
def lc2K (g : WG) (wt : WT) (wi1 : WI) (g1 : WG) (wt1 : WT) (we : WE) (vs vs1 : List Nat) (ds : List D) (ρ1 : Sl) (Q : D → Sl → Prop) : Prop := ∃ I : Nat → List D → Sl → Prop, I 0 [] (wip ρ1 vs) ∧
  (∀ i d acc ρ, ds[i]? = some d → I i acc ρ → g d ρ fun ρ2 => wt ρ2 fun b ρ3 => if b = true then wi1 ρ3 fun es ρ4 => ∃ J : Nat → List D → Sl → Prop, J 0 acc (wip ρ4 vs1) ∧
      (∀ j e acc ρ, es[j]? = some e → J j acc ρ → g1 e ρ fun ρ5 => wt1 ρ5 fun b ρ6 => if b = true then we ρ6 fun r ρ7 => ∃ y ρ8, fzR ρ7 r = some (y, ρ8) ∧ acc.length < sizeLine ∧ J (j + 1) (acc ++ [y]) (wip ρ8 vs1) else J (j + 1) acc (wip ρ6 vs1)) ∧
      ∀ acc ρ, J es.length acc ρ → I (i + 1) acc (wip ρ vs)
    else I (i + 1) acc (wip ρ3 vs)) ∧
  ∀ acc ρ, I ds.length acc ρ → Q (.lst true acc) (rst ρ1 ρ vs)
theorem i_lc20 {wi wi1 : WI} {g g1 : WG} {wt wt1 : WT} {we : WE} {vs vs1 : List Nat} (h : wi ρ fun ds ρ1 => lc2K g wt wi1 g1 wt1 we vs vs1 ds ρ1 Q) : wLc2 wi g wt wi1 g1 wt1 we vs vs1 ρ Q := h
end
end M
/-! M30: an owned list lent to an expression: shared while it is evaluated, owned again behind it. -/
namespace M
open PySem PySem.Spec PyProof.Rows L2

/-- each slot but i: as it stood, with nothing owned; or with nothing shared in it -/
def LOk (i : Nat) : Nat → Sl → Sl → Prop
  | n, x :: xs, y :: ys => (n = i ∨ y = none ∨ (∃ d, y = some d ∧ nfz d = true) ∨ (∃ d, y = some d ∧ x = some d ∧ isOw d = false)) ∧ LOk i (n + 1) xs ys
  | _, [], [] => True
  | _, _, _ => False
theorem LOk.at_ {i : Nat} : ∀ {xs ys : Sl} {n : Nat}, LOk i n xs ys → ∀ j d, ys[j]? = some (some d) → n + j ≠ i → nfz d = true ∨ (xs[j]? = some (some d) ∧ isOw d = false)
  | [], [], n, h, j, d, e, _ => by simp at e
  | x :: xs, y :: ys, n, h, 0, d, e, ne => by
    have e : y = some d := by simpa using e
    rcases h.1 with z | z | ⟨c, z, q⟩ | ⟨c, z, y', q⟩
    · exact absurd z (by simpa using ne)
    · rw [z] at e; cases e
    · rw [z] at e; cases e; exact .inl q
    · rw [z] at e; cases e; exact .inr ⟨by rw [y']; rfl, q⟩
  | x :: xs, y :: ys, n, h, j + 1, d, e, ne => LOk.at_ h.2 j d (by simpa using e) (by omega)
def Lent (i : Nat) (xs : List D) (r : D) (ρ ρ' : Sl) : Prop := nfz r = true ∧ ρ'[i]? = some (some (.lst false xs)) ∧ LOk i 0 ρ ρ'
def wLend (i : Nat) (w : WE) : WE := fun ρ Q => ∃ xs, ρ[i]? = some (some (.lst true xs)) ∧ w (ρ.set i (some (.lst false xs))) fun r ρ' => Lent i xs r ρ ρ' ∧ Q r (ρ'.set i (some (.lst true xs)))
section
variable {G : Gc} {X : Cx} {F F' F2 : Addr → Prop} {H H' : Hp} {σ : L2.St} {ρ ρ' : Sl} {fp fp' : List Addr} {K : PySem.W.Frag} {ca : Cax}
theorem RpS.back (k1 : ∀ a o, H a = some o → ¬ MutK o → H' a = some o) (k2 : ∀ a o, F a → H a = some o → LI o → H' a = some o) (kd : ∀ a u, F a → Rd H a u → DK u → Rd H' a u) (k3 : ∀ a, F a → F2 a)
    (h1 : RpS K ca F' H' σ ρ' fp') : ∀ {ρ : Sl} {fp : List Addr}, RpS K ca F H σ ρ fp → (∀ (j : Nat) (d : D), ρ'[j]? = some (some d) → nfz d = true ∨ (ρ[j]? = some (some d) ∧ isOw d = false)) → (∀ a ∈ fp', ¬ F2 a) → RpS K ca F2 H' σ ρ' fp' := by
  induction h1 with
  | nil => intro _ _ _ _ _; exact .nil
  | no _ ih =>
    intro ρ fp h0 g n
    cases h0 with
    | no h0 => exact .no (ih h0 (fun j d e => by simpa using g (j + 1) d (by simpa using e)) n)
    | has _ h0 => exact .no (ih h0 (fun j d e => by simpa using g (j + 1) d (by simpa using e)) n)
  | @has v d σ ρ1 fr fp1 r _ ih =>
    intro ρ fp h0 g n
    have rd : Rp K ca F2 H' v d fr := by
      rcases g 0 d rfl with z | ⟨z, o⟩
      · exact r.nfz z fun a y => n a (List.mem_append_left _ y)
      · have ef := r.free o
        subst ef
        cases h0 with
        | no h0 => simp at z
        | has r0 h0 =>
          have z := Option.some.inj (by simpa using z : some _ = some d)
          subst z
          have e0 := r0.free o
          subst e0
          exact r0.keep k1 k2 kd k3 (fun a y => nomatch y) fun a y => nomatch y
    cases h0 with
    | no h0 => exact .has rd (ih h0 (fun j d e => by simpa using g (j + 1) d (by simpa using e)) fun a y => n a (List.mem_append_right _ y))
    | has _ h0 => exact .has rd (ih h0 (fun j d e => by simpa using g (j + 1) d (by simpa using e)) fun a y => n a (List.mem_append_right _ y))
theorem set_self {α : Type} : ∀ {l : List α} {i : Nat} {x : α}, l[i]? = some x → l.set i x = l
  | [], _, _, h => by simp at h
  | a :: l, 0, x, h => by simp at h; subst h; rfl
  | a :: l, i + 1, x, h => by
    have := set_self (l := l) (i := i) (x := x) (by simpa using h)
    simp [this]
theorem RpS.noneAt (h : RpS K ca F H σ ρ fp) {i : Nat} {v : V} (es : σ[i]? = some (some v)) (hi : i < ρ.length) : ∃ l fr r, fp = l ++ fr ++ r ∧ RpS K ca F H σ (ρ.set i none) (l ++ r) ∧ ∀ d, ρ[i]? = some (some d) → Rp K ca F H v d fr := by
  obtain ⟨l, fr, r, e, h1, _, h3, _⟩ := h.at_ hi
  refine ⟨l, fr, r, e, ?_, fun d ed => ?_⟩
  · have := h3 (some v)
    rwa [set_self es] at this
  · obtain ⟨v', e', rp⟩ := h1 d ed
    rw [es] at e'; cases e'
    exact rp
theorem RpS.putAt (h : RpS K ca F H σ ρ fp) {i : Nat} {v : V} {d : D} {fq : List Addr} (es : σ[i]? = some (some v)) (en : ρ[i]? = some none) (rp : Rp K ca F H v d fq) : ∃ l r, fp = l ++ r ∧ RpS K ca F H σ (ρ.set i (some d)) (l ++ fq ++ r) := by
  obtain ⟨l, fr, r, e, _, h2, _, h4⟩ := h.at_ (i := i) (by rw [List.getElem?_eq_some_iff] at en; exact en.1)
  have := h2 en
  subst this
  refine ⟨l, r, by simpa using e, ?_⟩
  have := h4 v d fq rp
  rwa [set_self es] at this
theorem le_lend {i : Nat} {w : WE} : ∀ σ H Q, LE G (wLend i w) σ H Q → LE G w σ H Q := fun σ H Q q => by
  obtain ⟨F, ρ, fp, Qd, ok, ⟨xs, ei, hw⟩, k⟩ := q
  have hi : i < ρ.length := (List.getElem?_eq_some_iff.mp ei).1
  obtain ⟨l0, f0, r0, e0, g0, _, _, _⟩ := ok.rs.at_ hi
  obtain ⟨v, es, _⟩ := g0 _ ei
  obtain ⟨l, fr, r, e1, h3, g1⟩ := ok.rs.noneAt es hi
  have rp := g1 _ ei
  cases rp with
  | @low q vs _ eq nF rl =>
    have nd := ok.nd
    rw [e1] at nd
    have hq : q ∈ fp := by rw [e1]; simp
    have sub : ∀ a ∈ l ++ r, a ∈ fp ∧ a ≠ q := fun a z => by
      rw [e1]
      refine ⟨?_, fun e => ?_⟩
      · rcases List.mem_append.mp z with z | z <;> simp [z]
      · subst e
        rcases List.mem_append.mp z with z | z
        · exact nodup_d (nodup_l nd) a z (by simp)
        · exact nodup_d nd a (by simp) z
    have ndlr : (l ++ r).Nodup := nodup_of (nodup_l (nodup_l nd)) (nodup_r nd) fun a z y => nodup_d nd a (List.mem_append_left _ z) y
    let F1 : Addr → Prop := fun a => F a ∨ a = q
    have h3' : RpS G.K G.ca F1 H σ (ρ.set i none) (l ++ r) := h3.keep (fun _ _ e _ => e) (fun _ _ _ e _ => e) (fun _ _ _ e _ => e) (fun _ z => .inl z) (fun _ _ _ e _ => e) fun a z f => by
      rcases f with f | f
      · exact ok.nf a (sub a z).1 f
      · exact (sub a z).2 f
    obtain ⟨l1, r1, e2, h5⟩ := h3'.putAt (i := i) (d := .lst false xs) (fq := []) es (by simp [hi]) (.lfz eq (.inr rfl) (rl.kp fun _ z => .inl z))
    rw [List.append_nil, ← e2] at h5
    have e3 : (ρ.set i none).set i (some (D.lst false xs)) = ρ.set i (some (.lst false xs)) := by rw [List.set_set]
    rw [e3] at h5
    have ok1 : Ok G F1 H σ (ρ.set i (some (.lst false xs))) (l ++ r) := by
      refine ⟨h5, ndlr, fun a f => ?_, ok.pm, ⟨fun a z => .inl (ok.rch.mono a z), fun a z => ?_, ok.rch.kept, ok.rch.there, fun a z => ok.rch.fps a (sub a z).1, ok.rch.tab⟩⟩
      · rcases f with f | f
        · exact ok.dom a f
        · exact ⟨_, by rw [f]; exact eq⟩
      · rcases z with z | z
        · exact ok.rch.new a z
        · rw [z]; exact .inr (ok.rch.fps q hq)
    refine ⟨F1, _, _, _, ok1, hw, fun v2 H' F' ρ' fp' rr fr2 en rrr qq => ?_⟩
    obtain ⟨⟨nz, ei', lo⟩, qd⟩ := qq
    let F2 : Addr → Prop := fun a => F' a ∧ a ≠ q
    have nq1 : q ∉ l ++ r := fun z => (sub q z).2 rfl
    have eq' : H' q = some (.lst vs) := en.st.keep q _ eq (.inl nq1)
    have k1 : ∀ a o, H a = some o → ¬ MutK o → H' a = some o := fun a o e n => en.st.keep a o e (.inr n)
    have nf1 : ∀ a, F a → a ∉ l ++ r := fun a f z => ok.nf a (sub a z).1 f
    have k2 : ∀ a o, F a → H a = some o → LI o → H' a = some o := fun a o f e _ => en.st.keep a o e (.inl (nf1 a f))
    have kd : ∀ a u, F a → Rd H a u → DK u → Rd H' a u := fun a u f e d => rd_keep (fun o e _ => en.st.keep a o e (.inl (nf1 a f))) e d
    have k3 : ∀ a, F a → F2 a := fun a f => ⟨en.st.mono a (.inl f), fun e => nF (e ▸ f)⟩
    have old : ∀ a ∈ fr2 ++ fp', a ≠ q ∧ (a ∈ fp ∨ H a = none) := fun a z => by
      rcases en.st.fps a z with y | y
      · exact ⟨(sub a y).2, Or.inl (sub a y).1⟩
      · have ne : a ≠ q := fun e => by
          rw [e, eq] at y
          cases y
        exact ⟨ne, Or.inr y⟩
    have hi' : i < ρ'.length := (List.getElem?_eq_some_iff.mp ei').1
    obtain ⟨l2, f2, r2, e4, h6, g6⟩ := en.ok.rs.noneAt es hi'
    have rp6 := g6 _ ei'
    have ef2 : f2 = [] := rp6.free rfl
    subst ef2
    have e5 : fp' = l2 ++ r2 := by simpa using e4
    have h7 : RpS G.K G.ca F2 H' σ (ρ'.set i none) (l2 ++ r2) := by
      refine RpS.back k1 k2 kd k3 h6 ok.rs (fun j d ej => ?_) fun a z => ?_
      · have hj : j ≠ i := fun c => by
          rw [c, List.getElem?_set_self hi'] at ej
          cases ej
        rw [List.getElem?_set_ne (Ne.symm hj)] at ej
        exact lo.at_ j d ej (by omega)
      · exact fun f => en.ok.nf a (by rw [e5]; exact z) f.1
    have rq : Rp G.K G.ca F2 H' (.ref q) (.lst true xs) [q] := .low eq' (fun f => f.2 rfl) (rl.keep k1 k2 kd k3 (fun a y => nomatch y) fun a y => nomatch y)
    obtain ⟨l3, r3, e6, h8⟩ := h7.putAt (i := i) es (by simp [hi']) rq
    rw [List.set_set] at h8
    have nd5 := en.nd
    rw [e5, e6] at nd5
    have mem3 : ∀ a, a ∈ l3 ++ [q] ++ r3 → a = q ∨ a ∈ fp' := fun a z => by
      rw [e5, e6]
      simp at z ⊢
      rcases z with z | z | z <;> simp [z]
    have nd8 : (l3 ++ [q] ++ r3).Nodup := by
      have n3 := nodup_r nd5
      have q3 : q ∉ l3 ++ r3 := fun z => (old q (List.mem_append_right _ (by rw [e5, e6]; exact z))).1 rfl
      refine nodup_of (nodup_of (nodup_l n3) (by simp) fun a z y => ?_) (nodup_r n3) fun a z y => ?_
      · rw [List.mem_singleton.mp y] at z; exact q3 (List.mem_append_left _ z)
      · rcases List.mem_append.mp z with z | z
        · exact nodup_d n3 a z y
        · rw [List.mem_singleton.mp z] at y; exact q3 (List.mem_append_right _ y)
    have st : Step G.ca.tb F H fp F2 H' (fr2 ++ (l3 ++ [q] ++ r3)) := by
      refine ⟨k3, fun a f => ?_, fun a o e m c => en.st.kept a o e m (c.imp (fun n z => n (sub a z).1) id), en.st.there, fun a z => ?_, en.st.tab⟩
      · rcases en.st.new a f.1 with z | z | z
        · exact z.elim .inl fun z => absurd z f.2
        · exact .inr (.inl (sub a z).1)
        · exact .inr (.inr z)
      · rcases List.mem_append.mp z with z | z
        · exact (old a (List.mem_append_left _ z)).2
        · rcases mem3 a z with y | y
          · rw [y]; exact .inl hq
          · exact (old a (List.mem_append_right _ y)).2
    refine k v2 H' F2 _ _ rr fr2 ⟨st, ⟨h8, nd8, fun a f => en.ok.dom a f.1, ok.pm, ok.rch.trans (st.less fun a z => List.mem_append_right _ z)⟩, ?_⟩ ?_ qd
    · refine nodup_of (nodup_l en.nd) nd8 fun a z y => ?_
      rcases mem3 a y with y | y
      · exact (old a (List.mem_append_left _ z)).1 y
      · exact nodup_d en.nd a z y
    · rcases rrr with rp | ⟨j, rfl, _⟩
      · exact .inl (rp.nfz nz fun a z f => (Rp.own rp a z).1 f.1)
      · cases nz
theorem d_lend {e : Expr} {i : Nat} {w : WE} (h : PE X e (LE G w)) : PE X e (LE G (wLend i w)) := imE h le_lend
theorem ds_lcNL {n i : Nat} {y : Str} {py spos pos : Pos} {elt tg iter : Expr} {ifs : List Expr} {scope : Scope} {own : List (Str × Nat)} {wi : WI} {g gy : WG} {S : List Nat} {wt : WT} {we : WE} (hc : X.calm = true) (hN : X.N.Nodup) (hy : X.N[i]? = some y) (hyl : X.env.scope.names.lookup y = some .local) (hgy : ∀ v σ H Q, LG G gy [i] v σ H Q → i < σ.length → gName i v σ H Q)
    (hsw : swapsWith (.ListComp elt [⟨tg, iter, ifs, 0⟩] scope pos) (some (.Name y py)) spos.line X.env = pure true) (hi : PI X tg iter (LW G wi)) (ok : BlkOk X.N X.env.scope scope own)
    (hg : ∀ (s : Shared) (H : Hp) (C : Addr) (cl : List (Str × Addr)) (fp : List Addr), PG (X.blk s H scope (compEnvC scope cl C X.env) fp) tg (LG G g S)) (ht : ∀ (s : Shared) (H : Hp) (C : Addr) (cl : List (Str × Addr)) (fp : List Addr), PTs (X.blk s H scope (compEnvC scope cl C X.env) fp) ifs (LT G wt))
    (he : ∀ (s : Shared) (H : Hp) (C : Addr) (cl : List (Str × Addr)) (fp : List Addr), PE (X.blk s H scope (compEnvC scope cl C X.env) fp) elt (LE G we)) (hS : ∀ j ∈ S, j ∈ own.map (·.2)) (hpm : ∀ p ∈ G.pm, p.1 ∉ own.map (·.2)) (hs : ∀ x, foldedSetIterable iter X.env x = pure x := by intro _; rfl) :
    PS X (.Assign [.Name y py] (.ListComp elt [⟨tg, iter, ifs, 0⟩] scope pos) spos) (LS G (wAsg (wLend n (wLc wi g wt we (own.map (·.2)))) gy)) := ⟨fun pins s σ H D I q => (ps_setLc hc hN hy hyl hsw hi ok hg ht he hs).run pins s σ H D I (by
  obtain ⟨F, ρ, fp, Dd, ok, h, k⟩ := q
  refine le_lc hS hpm σ H _ (le_lend σ H _ ⟨F, ρ, fp, _, ok, h, fun v H1 F1 ρ1 fp1 r fr en rr q => ?_⟩)
  exact hgy v σ H1 _ ⟨F1, ρ1, fp1, r, fr, Dd.nx, en.ok, rr, ⟨en.nd, en.hr ok⟩, q, fun σ' H' F' ρ' fp' s ok' _ q' => k.nx σ' H' F' ρ' fp' (en.st.trans s) ok' q'⟩ (by rw [I.len]; exact (List.getElem?_eq_some_iff.mp hy).1))⟩
end
end M
/-! M31: zip of two tuples, each pair an exact tuple. -/
namespace M
open PySem PySem.Spec PyProof.Rows L2 RZ
/-- the tuples at a and b, their items in new pairs -/
def IzT (K : PySem.W.Frag) (a b : Addr) : It :=
  ⟨fun i H => ∃ (us ws : List V) (m n : V), SqT K H a us ∧ SqT K H b ws ∧ us[i]? = some m ∧ ws[i]? = some n,
    fun i H v H' => ∃ T m n, v = .ref T ∧ H T = none ∧ (∃ o : Obj, H' = upd H T (.frz o (.tup [m, n])) ∧ o.cls = .type "tuple" ∧ o.dict = none) ∧ (∀ us, SqT K H a us → us[i]? = some m) ∧ ∀ ws, SqT K H b ws → ws[i]? = some n,
    fun i H => ∃ us ws : List V, SqT K H a us ∧ SqT K H b ws ∧ (us.length ≤ i ∨ ws.length ≤ i)⟩
theorem turn_zX {P : Program} {w : World} {K : PySem.W.Frag} {es : List Expr} {q : Nat} {tp : Pos} {a b c I0 O0 j1 j2 : Addr} (D : ZipApart c I0 O0 j1 j2 a b) :
    Turn P w K (.Tuple es q tp) (IzT K a b) [c, I0, O0, j1, j2] c (fun i g => IsZip g c I0 O0 .none ∧ IsPair g I0 (.ref j1) (.ref j2) ∧ (∃ m n, IsPair g O0 m n) ∧ g.IsTupleIter j1 a i ∧ g.IsTupleIter j2 b i) where
  mem := List.mem_cons_self
  obj := fun i g st d hd => by
    obtain ⟨z0, zI, ⟨m, n, zO⟩, ⟨u1, k1, _, t1⟩, ⟨u2, k2, _, t2⟩⟩ := st
    simp only [List.mem_cons, List.not_mem_nil, or_false] at hd
    rcases hd with e | e | e | e | e <;> subst e
    · exact ⟨_, z0, fun _ y => nomatch y⟩
    · exact ⟨_, zI, fun _ y => nomatch y⟩
    · exact ⟨_, zO, fun _ y => nomatch y⟩
    · exact ⟨u1, k1, fun _ y => by rw [t1] at y; cases y⟩
    · exact ⟨u2, k2, fun _ y => by rw [t2] at y; cases y⟩
  keep := fun i g g' st k => by
    obtain ⟨z0, zI, ⟨m, n, zO⟩, y1, y2⟩ := st
    refine ⟨k c ?_ _ z0, k I0 ?_ _ zI, ⟨m, n, k O0 ?_ _ zO⟩, y1.at fun o e => k j1 ?_ o e, y2.at fun o e => k j2 ?_ o e⟩ <;> simp
  item := by
    intro X hP hw hK hc i pins s σ H E J hf st hg
    subst hP hw hK
    obtain ⟨z0, zI, ⟨m0, n0, zO⟩, y1, y2⟩ := st
    obtain ⟨us, ws, m, n, qa, qb, hm, hn⟩ := hg
    obtain ⟨it1, rv1, p1, _⟩ := J.tuple qa
    obtain ⟨it2, rv2, p2, _⟩ := J.tuple qb
    obtain ⟨u, eu, ru⟩ := rv1.get hm
    obtain ⟨t, et, rt⟩ := rv2.get hn
    have lc : c < s.heap.objs.size := Heap.lt_size z0
    refine pyNext_zipT_item D z0 zI zO y1 y2 p1 p2 (x := u) (y := t) (by simpa using eu) (by simpa using et) fun g c' O' y1' y2' hT _ hk => ?_
    refine ⟨_, rfl, wpAny_letOwnedTupleGo_zip (s := { s with heap := g }) c' fun g2 c2 sb => ?_⟩
    have gT : g2.get? s.heap.objs.size = some { cls := .type "tuple", data := .seq #[u, t] } := (sb.2 _ (Nat.ne_of_gt lc)).trans hT
    have nw : ObjOk X.prog X.w (upd H s.heap.objs.size (.frz { cls := .type "tuple", data := .seq #[u, t] } (.tup [m, n]))) g2 s.heap.objs.size (.frz { cls := .type "tuple", data := .seq #[u, t] } (.tup [m, n])) :=
      ⟨gT, by show 2 ≤ sizeLine; decide, [u, t], .cons ru (.cons rt .nil), ⟨_, gT, rfl, _, rfl⟩⟩
    have far : ∀ d, d ∉ [c, I0, O0, j1, j2] → d ≠ c ∧ d ≠ I0 ∧ d ≠ O0 ∧ d ≠ j1 ∧ d ≠ j2 := fun d hd => by simpa using hd
    have J2 : Inv X pins σ (upd H s.heap.objs.size (.frz { cls := .type "tuple", data := .seq #[u, t] } (.tup [m, n]))) { s with heap := g2 } :=
      J.turnedNew (t' := s.toks) (ch := [c, I0, O0, j1, j2]) (fun d o hd e => by
        obtain ⟨f1, f2, f3, f4, f5⟩ := far d hd
        exact (sb.2 d f1).trans (hk d o (by assumption) (by assumption) (by assumption) (by assumption) e)) hf (Nat.le_refl _) nw
    refine ⟨.ref s.heap.objs.size, _, J2, rfl, ⟨_, m, n, rfl, J.hok.fresh (Nat.le_refl _), ⟨_, rfl, rfl, rfl⟩, fun l hl => by rw [J.tuple_inj hl qa]; exact hm, fun l hl => by rw [J.tuple_inj hl qb]; exact hn⟩, ⟨c2, ?_, ⟨u, t, ?_⟩, ?_, ?_⟩, fun d hd => ?_⟩
    · exact (sb.2 _ D.TIz).trans (hk _ _ D.TIz D.TITO D.TIi1 D.TIi2 zI)
    · exact (sb.2 _ D.TOz).trans O'
    · exact y1'.at fun o e => (sb.2 _ D.i1z).trans e
    · exact y2'.at fun o e => (sb.2 _ D.i2z).trans e
    · have ld : d < s.heap.objs.size := by
        simp only [List.mem_cons, List.not_mem_nil, or_false] at hd
        rcases hd with e | e | e | e | e <;> subst e
        · exact lc
        · exact Heap.lt_size zI
        · exact Heap.lt_size zO
        · obtain ⟨_, k1, _⟩ := y1; exact Heap.lt_size k1
        · obtain ⟨_, k2, _⟩ := y2; exact Heap.lt_size k2
      rw [upd_ne (Nat.ne_of_lt ld)]
      exact (hf d hd).1
  done := by
    intro X hP hw hK hc i pins s σ H E J hf st hg
    subst hP hw hK
    obtain ⟨z0, zI, ⟨m0, n0, zO⟩, y1, y2⟩ := st
    obtain ⟨us, ws, qa, qb, fin⟩ := hg
    obtain ⟨it1, rv1, p1, _⟩ := J.tuple qa
    obtain ⟨it2, rv2, p2, _⟩ := J.tuple qb
    have g1 := rv1.length
    have g2 := rv2.length
    have out : it1.toArray[i]? = none ∨ it2.toArray[i]? = none := fin.imp (fun e => by simp; omega) fun e => by simp; omega
    have far : ∀ d, d ∉ [c, I0, O0, j1, j2] → d ≠ c ∧ d ≠ I0 ∧ d ≠ O0 ∧ d ≠ j1 ∧ d ≠ j2 := fun d hd => by simpa using hd
    exact pyNext_zipT_end (J.ok.hd hc) D z0 zI zO y1 y2 p1 p2 out fun g hk => ⟨rfl, J.turnedL (t' := s.toks) (ch := [c, I0, O0, j1, j2]) (fun d o hd e => by
      obtain ⟨f1, f2, f3, f4, f5⟩ := far d hd
      exact hk d o (by assumption) (by assumption) (by assumption) (by assumption) e) hf⟩
  self := fun _ _ _ _ _ st h => wpAny_pyIter_zip st.1 h
def iZX (K : PySem.W.Frag) (ta : TA) : TI := fun σ H R => ta σ H fun vs H1 => ∃ a b us ws, vs = [.ref a, .ref b] ∧ SqT K H1 a us ∧ SqT K H1 b ws ∧ R (IzT K a b) H1
theorem pi_zX {X : Cx} {e e2 : Expr} {ta : TA} {zp pos tp : Pos} {es : List Expr} {k : Nat} (hg : Gl X "zip") (hm : X.mg "zip" = none) (ha : PA X [e, e2] ta)
    (hs : starEach [e, e2] X.env = (false, eval e X.env) :: starEach [e2] X.env := by rfl) (hpl : (backTo pos (starEach [e2] X.env)).any (·.1) = false := by rfl) :
    PI X (.Tuple es k tp) (.Call (.Name "zip" zp) [e, e2] [] pos) (iZX X.K ta) := by
  constructor
  intro pins s σ H R J h
  refine Call_ (ld_blt J hg hm PyProof.Rows.boot_zip (PyProof.Rows.callWith_type1 (thn (ha.run pos pins s σ H _ J h) fun us s1 ⟨vs, H1, J1, r1, q⟩ => ?_) hs hpl))
  obtain ⟨a, b, xs, ys, rfl, qa, qb, q⟩ := q
  cases r1 with
  | cons ra r1 => cases r1 with
  | cons rb r1 =>
    cases r1
    cases ra
    cases rb
    obtain ⟨it1, rv1, p1, _⟩ := J1.tuple qa
    obtain ⟨it2, rv2, p2, _⟩ := J1.tuple qb
    obtain ⟨o1, k1, _⟩ := id p1
    obtain ⟨o2, k2, _⟩ := id p2
    refine call_zipT (show s1.heap.IsTuple a it1.toArray from p1) (show s1.heap.IsTuple b it2.toArray from p2) fun g hz hI hO y1 y2 _ hk => wpAny_pyIter_zip hz ?_
    have J2 : Inv X pins σ H1 { s1 with heap := g } := J1.kept (t' := s1.toks) hk
    refine ⟨s1.heap.objs.size + 4, [s1.heap.objs.size + 4, s1.heap.objs.size + 2, s1.heap.objs.size + 3, s1.heap.objs.size, s1.heap.objs.size + 1], _, _, H1, rfl, J2, turn_zX (PySem.W.ktu_apart s1.heap.objs.size a b (Heap.lt_size k1) (Heap.lt_size k2)), ⟨hz, hI, ⟨_, _, hO⟩, y1, y2⟩, fun d hd => ?_, q⟩
    have le : s1.heap.objs.size ≤ d := by
      simp only [List.mem_cons, List.not_mem_nil, or_false] at hd
      rcases hd with e | e | e | e | e <;> subst e <;> first | exact Nat.le_add_right _ _ | exact Nat.le_refl _
    exact J1.fpOk le (J1.hok.fresh le)
section
variable {G : Gc} {X : Cx} {F F' F1 : Addr → Prop} {H H' H1 : Hp} {σ : L2.St} {ρ : Sl} {fp : List Addr} {pos : Pos} {e e2 : Expr} {wa : WA} {wb : WE}
def zipD (ds es : List D) : List D := (ds.zip es).map fun p => .tpo [p.1, p.2]
theorem zipD_at {ds es : List D} {i : Nat} {d : D} (h : (zipD ds es)[i]? = some d) : ∃ x y, ds[i]? = some x ∧ es[i]? = some y ∧ d = .tpo [x, y] := by
  unfold zipD at h
  rw [List.getElem?_map] at h
  obtain ⟨⟨x, y⟩, h1, h2⟩ := Option.map_eq_some_iff.mp h
  rw [List.getElem?_zip_eq_some] at h1
  exact ⟨x, y, h1.1, h1.2, h2.symm⟩
def wiZip (wa : WA) : WI := fun ρ K => wa ρ fun rs ρ1 => ∃ ds es, rs = [.tup ds, .tup es] ∧ K (zipD ds es) ρ1
theorem it_zX {a b : Addr} {us ws : List V} {ds es : List D} (e1 : SqT G.K H a us) (r1 : RpL G.K G.ca F H us ds []) (e2 : SqT G.K H b ws) (r2 : RpL G.K G.ca F H ws es []) (nf0 : ∀ a ∈ fp, ¬ F a) : ItOk G F H fp (IzT G.K a b) (zipD ds es) where
  go := fun i d F1 H1 σ1 ρ1 fp1 _ _ nf s ok hd => by
    have k1 : SqT G.K H1 a us := sqT_keep (fun a o eo n => s.keep a o eo (.inr n)) e1
    have k2 : SqT G.K H1 b ws := sqT_keep (fun a o eo n => s.keep a o eo (.inr n)) e2
    obtain ⟨x, y, hx, hy, rfl⟩ := zipD_at hd
    have r1' := r1.step s nf fun _ z => nomatch z
    have r2' := r2.step s nf fun _ z => nomatch z
    obtain ⟨m, em, rm⟩ := r1'.at_ hx
    obtain ⟨n, en, rn⟩ := r2'.at_ hy
    refine ⟨⟨us, ws, m, n, k1, k2, em, en⟩, fun v H2 ⟨T, m', n', e3, hT, ⟨o, e4, c1, c2⟩, z1, z2⟩ => ?_⟩
    subst e3 e4
    have := z1 us k1
    rw [em] at this; cases this
    have := z2 ws k2
    rw [en] at this; cases this
    exact ⟨F1, En.tup ok hT, .tpo (.of upd_same c1 c2) (.cons (fp := []) (fq := []) (rm.new hT) (.one (rn.new hT)))⟩
  stop := fun F1 H1 σ1 ρ1 fp1 _ _ nf s ok => ⟨us, ws, sqT_keep (fun a o eo n => s.keep a o eo (.inr n)) e1, sqT_keep (fun a o eo n => s.keep a o eo (.inr n)) e2, by
    have := r1.length
    have := r2.length
    rw [zipD, List.length_map, List.length_zip]
    omega⟩
theorem di_zip {zp tp : Pos} {es : List Expr} {k : Nat} (hK : X.K = G.K) (hg : Gl X "zip") (hm : X.mg "zip" = none) (ha : PA X [e, e2] (LA G wa))
    (hs : starEach [e, e2] X.env = (false, eval e X.env) :: starEach [e2] X.env := by rfl) (hpl : (backTo pos (starEach [e2] X.env)).any (·.1) = false := by rfl) : PI X (.Tuple es k tp) (.Call (.Name "zip" zp) [e, e2] [] pos) (LW G (wiZip wa)) :=
  imI (pi_zX hg hm ha hs hpl) fun σ H Q q => by
    obtain ⟨F, ρ, fp, Kd, ok, h, kk⟩ := q
    refine ⟨F, ρ, fp, _, ok, h, fun vs H1 F1 ρ1 fp1 rs fr en rr q => ?_⟩
    obtain ⟨ds, es, rfl, q⟩ := q
    cases rr with
    | @cons v1 _ _ _ f1 _ ra rt =>
      cases rt with
      | @cons v2 _ _ _ f2 _ rb rn =>
        cases rn
        obtain ⟨a, us, rfl, s1, p1⟩ := ra.tup
        obtain ⟨b, ws, rfl, s2, p2⟩ := rb.tup
        rw [hK]
        have en0 : En G F H fp σ F1 H1 ρ1 fp1 [] := ⟨en.st.less fun a z => List.mem_append_right _ z, en.ok, by simpa using en.ok.nd⟩
        exact ⟨a, b, us, ws, rfl, s1.sq, s2.sq, kk _ H1 F1 ρ1 fp1 _ en0 (it_zX s1.sq p1 s2.sq p2 en.ok.nf) q⟩
end
end M
/-! MU: step lemmas for M30. -/
namespace M
open PySem PySem.Spec PyProof.Rows L2
section
variable {ρ ρ1 ρ' : Sl} {Q : D → Sl → Prop} {r : D} {i : Nat} {A : Prop} {w : WE} {xs : List D}
theorem i_lend (h : ρ[i]? = some (some (.lst true xs))) (q : w (ρ.set i (some (.lst false xs))) fun r ρ' => Lent i xs r ρ ρ' ∧ Q r (ρ'.set i (some (.lst true xs)))) : wLend i w ρ Q := ⟨xs, h, q⟩
theorem nfzL_map {α : Type} {f : α → D} (h : ∀ a, nfz (f a) = true) : ∀ l : List α, nfzL (l.map f) = true
  | [] => rfl
  | a :: l => by
    show (nfz (f a) && nfzL (l.map f)) = true
    rw [h a, nfzL_map h l]; rfl
theorem nfz_lm {α : Type} {f : α → D} {l : List α} (h : ∀ a, nfz (f a) = true := by intro _; rfl) : nfz (.lst true (l.map f)) = true := nfzL_map h l
theorem nfz_tm {α : Type} {f : α → D} {l : List α} (h : ∀ a, nfz (f a) = true := by intro _; rfl) : nfz (.tup (l.map f)) = true := nfzL_map h l
theorem i_lent (nz : nfz r = true) (e : ρ'[i]? = some (some (.lst false xs))) (lo : LOk i 0 ρ ρ') (q : A) : Lent i xs r ρ ρ' ∧ A := ⟨⟨nz, e, lo⟩, q⟩
theorem lok_i {n : Nat} {x y : Option D} {a b : Sl} (h : LOk n (n + 1) a b) : LOk n n (x :: a) (y :: b) := ⟨.inl rfl, h⟩
theorem lok_n {n : Nat} {x : Option D} {a b : Sl} (h : LOk i (n + 1) a b) : LOk i n (x :: a) (none :: b) := ⟨.inr (.inl rfl), h⟩
theorem lok_z {n : Nat} {x : Option D} {d : D} {a b : Sl} (z : nfz d = true) (h : LOk i (n + 1) a b) : LOk i n (x :: a) (some d :: b) := ⟨.inr (.inr (.inl ⟨d, rfl, z⟩)), h⟩
theorem lok_s {n : Nat} {d : D} {a b : Sl} (z : isOw d = false) (h : LOk i (n + 1) a b) : LOk i n (some d :: a) (some d :: b) := ⟨.inr (.inr (.inr ⟨d, rfl, rfl, z⟩)), h⟩
theorem lok_0 {n : Nat} : LOk i n [] [] := trivial
theorem i_setKX {k : Nat} {l : List Str} {f g : Str → D} {a : Str} {wi : WE} {r d : D} {Q : Sl → Prop} (h2 : ρ[k]? = some (some (.dct true (kS l) (l.map f)))) (hi : wi ρ fun i ρ2 => ρ2 = ρ ∧ i = .str a) (mi : ∀ {ρ Q Q'}, wi ρ Q → (∀ d ρ1, Q d ρ1 → Q' d ρ1) → wi ρ Q') (h : a ∉ l) (hg : ∀ x ∈ l, g x = f x) (ga : g a = d) (h1 : fzR ρ r = some (d, ρ)) (h3 : l.length < 16000000) (q : Q (ρ.set k (some (.dct true (kS (l ++ [a])) ((l ++ [a]).map g))))) : gSetA (wVar k) wi r ρ Q := by
  have e : l.map f = l.map g := List.map_congr_left fun x hx => (hg x hx).symm
  rw [e] at h2
  refine i_setd hi mi (ke := rfl) h1 h2 (by rw [List.length_map]; exact Nat.lt_of_lt_of_le h3 (by decide)) ?_
  rw [putKs_N h, ← ga, putXs_N h]
  exact q
theorem mono_add {k : Nat} {c : D} {ρ : Sl} {Q Q' : D → Sl → Prop} : wOp oAdd (wVar k) (wC c) ρ Q → (∀ d ρ1, Q d ρ1 → Q' d ρ1) → wOp oAdd (wVar k) (wC c) ρ Q' := fun ⟨d, e, q⟩ m => by
  refine ⟨d, e, ?_⟩
  rcases q with ⟨i, j, e1, e2, t, q⟩ | ⟨a, b, e1, e2, t, q⟩ | ⟨o, p, xs, ys, h1, h2, t, q⟩ | ⟨xs, ys, e1, e2, t, q⟩
  · exact .inl ⟨i, j, e1, e2, t, m _ _ q⟩
  · exact .inr (.inl ⟨a, b, e1, e2, t, m _ _ q⟩)
  · exact .inr (.inr (.inl ⟨o, p, xs, ys, h1, h2, t, m _ _ q⟩))
  · exact .inr (.inr (.inr ⟨xs, ys, e1, e2, t, m _ _ q⟩))
theorem i_notInD {x y d : D} {K : D → Prop} {o : Bool} {ds : List D} (h1 : pk ρ x = some d) (h2 : pk ρ y = some (.lst o ds)) (s1 : shp d = true) (s2 : shp (.lst o ds) = true) (q : K (.bl (!ds.any fun z => eqD z d))) : oNotInB ρ x y K := .inl (.inl (.inr (.inl ⟨d, o, ds, h1, h2, s1, s2, q⟩)))
def zpK (rs : List D) (ρ : Sl) (K : List D → Sl → Prop) : Prop := ∃ ds es, rs = [.tup ds, .tup es] ∧ K (zipD ds es) ρ
theorem i_zip0 {wa : WA} {K : List D → Sl → Prop} (h : wa ρ fun rs ρ1 => zpK rs ρ1 K) : wiZip wa ρ K := h
theorem i_zipT {ds es : List D} {K : List D → Sl → Prop} (q : K (zipD ds es) ρ) : zpK [.tup ds, .tup es] ρ K := ⟨ds, es, rfl, q⟩
end
end M
/-! M32: sorted(ints). -/
namespace M
open PySem PySem.Spec PyProof.Rows L2
section
variable {G : Gc} {X : Cx} {F : Addr → Prop} {H : Hp} {K : PySem.W.Frag} {ca : Cax} {e : Expr} {es : List Expr} {pos : Pos}
/-- the ints of a list -/
def intsD : List D → Option (List Int)
  | [] => some []
  | .int x :: xs => match intsD xs with
    | some l => some (x :: l)
    | none => none
  | _ => none
theorem RpL.intsD : ∀ {ds : List D} {vs : List V} {l : List Int}, RpL K ca F H vs ds [] → intsD ds = some l → vs = l.map V.int
  | [], [], l, _, e => by cases e; rfl
  | d :: ds, v :: vs, l, h, e => by
    obtain ⟨r, t⟩ := h.nil_of
    cases d <;> (try (simp [M.intsD] at e; done))
    rename_i b
    unfold M.intsD at e
    cases q : M.intsD ds with
    | none => rw [q] at e; cases e
    | some l' =>
      rw [q] at e
      cases e
      cases r
      rw [t.intsD q]
      rfl
theorem intsD_map : ∀ l : List Int, intsD (l.map D.int) = some l
  | [] => rfl
  | x :: l => by
    show (match intsD (l.map D.int) with | some l => some (x :: l) | none => none) = _
    rw [intsD_map l]
/-- ascending -/
def upI (l : List Int) : List Int := l.mergeSort fun a b => decide (a ≤ b)
theorem upI_perm (l : List Int) : (upI l).Perm l := List.mergeSort_perm _ _
theorem upI_sorted (l : List Int) : (upI l).Pairwise (· ≤ ·) := by
  have := List.pairwise_mergeSort (le := fun a b : Int => decide (a ≤ b)) (by intro a b c; simp; omega) (by intro a b; simp; omega) l
  exact this.imp fun h => by simpa using h
theorem upI_eq {l l' : List Int} (h : l'.Perm l) (p : l'.Pairwise (· ≤ ·)) : l' = upI l :=
  (h.trans (upI_perm l).symm).eq_of_pairwise (le := fun a b => a ≤ b) (fun a b _ _ x y => Int.le_antisymm x y) p (upI_sorted l)
/-- sorted(ints) -/
def nSortI : ON := fun ρ rs K => ∃ x b xs ns, rs = [x] ∧ pk ρ x = some (.lst b xs) ∧ intsD xs = some ns ∧ K (.lst true ((upI ns).map .int)) ρ
theorem nSortI_ok : ONOk G (rSortedI G.K) nSortI := fun F H σ ρ fp vs rs fr Kd Q ok rr nd h k => by
  obtain ⟨x, b, xs, ns, rfl, ex, en, q⟩ := h
  obtain ⟨v, rfl, r1⟩ := rr.one
  obtain ⟨a, vs, rfl, ha, rl⟩ := r1.lst ok ex
  have := rl.intsD en
  subst this
  refine ⟨a, ns, rfl, .of ha, fun ns' p hp hs hn => ?_⟩
  rw [upI_eq hp hs]
  exact k _ _ F ρ fp _ [p] (En.own ok hn).wide (.inl (.low upd_same (ok.not_none hn).1 ((RpL.ints _).new hn))) q
theorem d_sortI {p : Pos} {wa : WA} (hK : X.K = G.K) (hg : Gl X "sorted") (hm : X.mg "sorted" = none) (ha : PA X (e :: es) (LA G wa)) (he : starEach (e :: es) X.env = (false, eval e X.env) :: starEach es X.env := by rfl) (hpl : (backTo pos (starEach es X.env)).any (·.1) = false := by rfl) :
    PE X (.Call (.Name "sorted" p) (e :: es) [] pos) (LE G (wCB nSortI wa)) := d_cb (hK ▸ cr_sortedI) nSortI_ok hg hm (by decide +kernel) ha (by decide) (by decide) he hpl
end
end M
/-! M33: d.items() of a locked dict, each pair an exact tuple. -/
namespace M
open PySem PySem.Spec PyProof.Rows L2
/-- the dict at d, locked, by its pairs -/
def ItiX (d : Addr) (o : Obj) (kvs : List (Key × V)) : It :=
  ⟨fun i H => H d = some (.frz o (.dK kvs)) ∧ i < kvs.length, fun i H v H' => ∃ T k x, v = .ref T ∧ H T = none ∧ kvs[i]? = some (k, x) ∧ ∃ u : Obj, H' = upd H T (.frz u (.tup [kV k, x])) ∧ u.cls = .type "tuple" ∧ u.dict = none, fun i H => H d = some (.frz o (.dK kvs)) ∧ kvs.length ≤ i⟩
theorem turn_itX {P : Program} {w : World} {K : PySem.W.Frag} {d : Addr} {o : Obj} {es : Array DictEntry} {ep : Nat} {kvs : List (Key × V)} {elts : List Expr} {kk : Nat} {tpos : Pos} (it : Addr) (dat : o.data = .dict es ep) :
    Turn P w K (.Tuple elts kk tpos) (ItiX d o kvs) [it] it (fun i h => ∃ ok ov, IsItemIter h it d i kvs.length ep ok ov) where
  mem := by simp
  obj := fun i h at0 b zb => by
    have e : b = it := by simpa using zb
    subst e
    obtain ⟨ok, ov, e⟩ := at0
    exact ⟨_, e, fun v z => nomatch z⟩
  keep := fun i h h' at0 k => let ⟨ok, ov, e⟩ := at0; ⟨ok, ov, k it (by simp) _ e⟩
  item := by
    intro X w1 w2 w3 w4 i pn s σ H E J free at0 hg
    subst w1 w2 w3
    obtain ⟨gd, gi⟩ := hg
    obtain ⟨y1, y2, y3, es2, ep2, us0, y4, y5, prs, mp⟩ := J.frzK gd
    obtain ⟨rfl, rfl⟩ := dict_ep dat y4
    obtain ⟨⟨k, v⟩, ak⟩ : ∃ p, kvs[i]? = some p := ⟨kvs[i], List.getElem?_eq_getElem gi⟩
    obtain ⟨u, au, ar⟩ := kv_get prs ak
    have len : kvs.length = us0.length := Paired.length prs
    obtain ⟨ok, ov, te⟩ := at0
    rw [len] at te
    have tl : it < s.heap.objs.size := Heap.lt_size te
    refine wpAny_pyNext_items_item te mp au fun kx h' uy uo uT uz uk => ?_
    refine ⟨_, rfl, wpAny_letOwnedTupleGo_items (s := { s with heap := h' }) uo fun h'' te' same => ?_⟩
    have uT2 : h''.get? s.heap.objs.size = some { cls := .type "tuple", data := .seq #[kx, u] } := (same.2 _ (Nat.ne_of_gt tl)).trans uT
    have nw : ObjOk X.prog X.w (upd H s.heap.objs.size (.frz { cls := .type "tuple", data := .seq #[kx, u] } (.tup [kV k, v]))) h'' s.heap.objs.size (.frz { cls := .type "tuple", data := .seq #[kx, u] } (.tup [kV k, v])) :=
      ⟨uT2, by show 2 ≤ sizeLine; decide, [kx, u], .cons (relV_key (show keyIs k kx = true from uy)) (.cons ar .nil), ⟨_, uT2, rfl, _, rfl⟩⟩
    have J1 : Inv X pn σ (upd H s.heap.objs.size (.frz { cls := .type "tuple", data := .seq #[kx, u] } (.tup [kV k, v]))) { s with heap := h'' } :=
      J.turnedNew (t' := s.toks) (ch := [it]) (fun b zo zb e => (same.2 b (by simpa using zb)).trans (uk b zo (by simpa using zb) e)) free (Nat.le_refl _) nw
    refine ⟨.ref s.heap.objs.size, _, J1, rfl, ⟨_, k, v, rfl, J.hok.fresh (Nat.le_refl _), ak, _, rfl, rfl, rfl⟩, ⟨kx, u, ?_⟩, fun b zb => ?_⟩
    · rw [len]; exact te'
    · have e : b = it := by simpa using zb
      rw [e, upd_ne (Nat.ne_of_lt tl)]
      exact (free it (by simp)).1
  done := by
    intro X w1 w2 w3 w4 i pn s σ H E J free at0 hg
    subst w1 w2 w3
    obtain ⟨gd, gi⟩ := hg
    obtain ⟨f0, f1, f2, f3, f4, f5⟩ := free it (by simp)
    obtain ⟨y1, y2, y3, es2, ep2, us0, y4, y5, prs, mp⟩ := J.frzK gd
    obtain ⟨rfl, rfl⟩ := dict_ep dat y4
    have len : kvs.length = us0.length := Paired.length prs
    obtain ⟨ok, ov, te⟩ := at0
    rw [len] at te
    exact wpAny_pyNext_items_end (J.ok.hd w4) te mp (List.getElem?_eq_none (by omega)) fun h' eb => ⟨rfl, J.turned (t' := s.toks) (fun b zo zb e => eb b zo zb e) f0 f1 f3 f4 f5⟩
  self := fun A i s Q E at0 h => let ⟨_, _, e⟩ := at0; PySem.W.kcp_self e h
def iItX (td : TE) : TI := fun σ H R => td σ H fun x H1 => ∃ d o kvs, x = .ref d ∧ H1 d = some (.frz o (.dK kvs)) ∧ R (ItiX d o kvs) H1
theorem pi_itX {X : Cx} {e : Expr} {td : TE} {apos cpos : Pos} {elts : List Expr} {kk : Nat} {tpos : Pos} (te : PE X e td) (hbase : attributeBase e "items" X.env (eval e X.env) = eval e X.env := by rfl) (hline : (apos.endLine == cpos.line) = true := by rfl) :
    PI X (.Tuple elts kk tpos) (.Call (.Attribute e "items" apos) [] [] cpos) (iItX td) := by
  refine ⟨fun pn s σ H R J h => ?_⟩
  refine wpAny_Call_method (T := "dict") (id := "dict.items") hbase rfl hline F.plainAttrs_dict F.slot_dict_items F.type_dict_items (thn (te.run pn s σ H _ J h) fun u s1 ⟨x, H1, J1, rx, d, o, kvs, ex, gd, q⟩ => ?_)
  subst ex
  obtain rfl : u = Value.ref d := rx
  obtain ⟨y1, y2, y3, es, ep, us0, y4, y5, prs, mp⟩ := J1.frzK gd
  have len : kvs.length = us0.length := Paired.length prs
  refine ⟨mp.dictOf.typeIs, mp.dictOf.mapOf.noDict, ?_⟩
  have J2 : Inv X pn σ H1 { s1 with heap := s1.heap.push { cls := .type "dict_items", data := .fields #[.ref d] } } := J1.kept (t' := s1.toks) fun b zo q => Heap.get?_push_of_some _ q
  have rest : wpAny (model X.prog X.w) X.A (pyIter (.ref s1.heap.objs.size)) (PIE X pn σ (.Tuple elts kk tpos) R) X.xe { s1 with heap := s1.heap.push { cls := .type "dict_items", data := .fields #[.ref d] } } := by
    refine wpAny_pyIter_items (d := d) (knd := mixKind X.prog X.w) ⟨_, Heap.get?_push_size _ rfl, rfl, rfl⟩ (mp.push _) (pi_one (tk := s1.toks) J2 _ (turn_itX _ y4) ⟨.none, .none, ?_⟩ q)
    rw [len]
    exact Heap.get?_push_size _ rfl
  show wpAny _ _ (callWith cpos (.builtin "dict.items") [.ref d] [] []) _ X.xe s1
  exact method_meetsIn F.slot_dict_items F.entry_dict_items rfl (PySem.evalArgs_none ⟨rfl, mp.dictOf.typeIs, F.args_dict_items_1 _, _, meets_dict_items (mixKind X.prog X.w) d y1, ⟨us0, mp.dictOf⟩, rest⟩)
section
variable {G : Gc} {X : Cx} {F F' F1 : Addr → Prop} {H H' H1 : Hp} {σ : L2.St} {ρ : Sl} {fp : List Addr} {pos : Pos} {e e2 : Expr} {wa : WA} {wb : WE}
def itmD (ks : List Key) (xs : List D) : List D := (ks.zip xs).map fun p => .tpo [keyD p.1, p.2]
/-- for k, x in d.items() -/
def wiItm (i : Nat) : WI := fun ρ K => ∃ ks xs, ρ[i]? = some (some (.dct false ks xs)) ∧ ks.length = xs.length ∧ K (itmD ks xs) ρ
theorem it_it {d : Addr} {o : Obj} {ks : List Key} {us : List V} {xs : List D} (e : H d = some (.frz o (.dK (ks.zip us)))) (l : ks.length = us.length) (rl : RpL G.K G.ca F H us xs []) (nf0 : ∀ a ∈ fp, ¬ F a) : ItOk G F H fp (ItiX d o (ks.zip us)) (itmD ks xs) where
  go := fun i x F1 H1 σ1 ρ1 fp1 _ _ nf s ok hx => by
    have e1 : H1 d = some (.frz o (.dK (ks.zip us))) := s.keep d _ e (.inr fun z => z)
    unfold itmD at hx
    rw [List.getElem?_map] at hx
    obtain ⟨⟨k, x0⟩, ek, rfl⟩ := Option.map_eq_some_iff.mp hx
    rw [List.getElem?_zip_eq_some] at ek
    have hi : i < ks.length := (List.getElem?_eq_some_iff.mp ek.1).1
    refine ⟨⟨e1, by rw [List.length_zip]; omega⟩, fun y H2 ⟨T, k', v, e3, hT, e4, u, e5, c1, c2⟩ => ?_⟩
    subst e3 e5
    rw [List.getElem?_zip_eq_some] at e4
    have : k' = k := by
      have := e4.1
      rw [ek.1] at this; exact (Option.some.inj this).symm
    subst this
    obtain ⟨m, em, rm⟩ := (rl.step s nf fun _ z => nomatch z).at_ ek.2
    have : m = v := by
      have := e4.2
      rw [em] at this; exact Option.some.inj this
    subst this
    refine ⟨F1, En.tup ok hT, .tpo (.of upd_same c1 c2) (.cons (fp := []) (fq := []) ?_ (.one (rm.new hT)))⟩
    cases k' <;> first | exact .int _ | exact .str _
  stop := fun F1 H1 σ1 ρ1 fp1 _ _ nf s ok => ⟨s.keep d _ e (.inr fun z => z), by
    have := rl.length
    rw [itmD, List.length_map, List.length_zip, List.length_zip]; omega⟩
theorem di_it {i : Nat} {apos cpos : Pos} {elts : List Expr} {kk : Nat} {tpos : Pos} (hl : LkAt G i) (he : PE X e (tVar i)) (hbase : attributeBase e "items" X.env (eval e X.env) = eval e X.env := by rfl) (hline : (apos.endLine == cpos.line) = true := by rfl) :
    PI X (.Tuple elts kk tpos) (.Call (.Attribute e "items" apos) [] [] cpos) (LW G (wiItm i)) := imI (pi_itX he hbase hline) fun σ H R q => by
  obtain ⟨F, ρ, fp, Kd, ok, ⟨ks, xs, e, lx, q⟩, k⟩ := q
  obtain ⟨d, o, kvs, hp, h0⟩ := hl
  have e1 : H d = some (.frz o (.dK kvs)) := ok.rch.keep d _ h0 (.inr fun z => z)
  have es := ok.pm _ hp
  obtain ⟨l, fs, r, _, g1, _, _, _⟩ := ok.rs.at_ (i := i) (by rw [List.getElem?_eq_some_iff] at e; exact e.1)
  obtain ⟨v, ev, rp⟩ := g1 _ e
  have : v = .ref d := by
    have z : σ[i]? = some (some (.ref d)) := es
    rw [z] at ev; exact (Option.some.inj (Option.some.inj ev)).symm
  subst this
  cases rp with
  | @dfz _ _ us _ hd f ll rl =>
    have e2 : kvs = ks.zip us := by
      rcases hd with hd | ⟨o', hd⟩
      · rw [e1] at hd; cases hd
      · rw [e1] at hd; cases hd; rfl
    subst e2
    exact ⟨.ref d, es, d, o, _, rfl, e1, k _ H F ρ fp _ (En.refl ok) (it_it e1 ll rl ok.nf) q⟩
end
end M
/-! M34: d.get(k, x), d.update(d2), {k: v, ..}. -/
namespace L2
open PySem PySem.Spec PyProof.Rows
/-! ### methods of dicts -/
def tDm (r : V → List V → Hp → VK → Prop) (to : TE) (t : TA) : TE := fun σ H Q => to σ H fun x H1 => ∃ a, x = .ref a ∧ IsD H1 a ∧ t σ H1 fun ys H2 => r x ys H2 Q
section
variable {X : Cx} {o e : Expr} {es : List Expr} {to : TE} {t : TA} {name : Str} {apos cpos : Pos} {id : String} {r : V → List V → Hp → VK → Prop}
theorem pe_dm (slot : Slot "dict" name id) (hty : typeOf (.builtin id) = pure (.type "method_descriptor")) (hm : MtR X id r) (ho : PE X o to) (ha : PA X (e :: es) t)
    (hbase : attributeBase o name X.env (eval o X.env) = eval o X.env := by rfl)
    (hfew : ((backTo cpos (starEach (e :: es) X.env)).all (fun x => !x.1) && (backToKw cpos (keywordEach [] X.env)).all (fun x => x.1.isSome)
      && decide ((e :: es).length + ([] : List Keyword).length + (if ([] : List Keyword).isEmpty then 0 else 1) < 30)) = true := by rfl)
    (hline : (apos.endLine == cpos.line) = true := by rfl) (hs : starEach (e :: es) X.env = (false, eval e X.env) :: starEach es X.env := by rfl) (hplain : (backTo cpos (starEach es X.env)).any (·.1) = false := by rfl) :
    PE X (.Call (.Attribute o name apos) (e :: es) [] cpos) (tDm r to t) := by
  constructor
  intro pins s σ H Q I h
  apply wpAny_Call_method_late hbase hfew hline rfl
  apply thn (ho.run pins s σ H _ I h)
  rintro v s1 ⟨x, H1, J, rx, a, rfl, sx, q1⟩
  obtain rfl : v = Value.ref a := rx
  obtain ⟨t1, t2, _⟩ := isD_at J sx
  refine ⟨"dict", id, PySem.F.plainAttrs_dict, slot, hty, t1, t2, ?_⟩
  have run := ha.run cpos pins s1 σ H1 _ J q1
  rw [hs] at run ⊢
  apply Calls.callWith_builtin
  · show (false || (backTo cpos (starEach es X.env)).any (·.1)) = false
    rw [hplain]; rfl
  · apply Calls.evalArgs_plain
    apply thn run
    rintro us s2 ⟨vs, H2, J2, r2, q2⟩
    exact hm pins s2 σ H2 (.ref a) vs (.ref a) us Q J2 rfl r2 q2
def rDGet2 : V → List V → Hp → VK → Prop := fun x xs H Q => ∃ a y z o, x = .ref a ∧ xs = [y, z] ∧ DGet H a y o ∧ Q (o.getD z) H
theorem mt_dget2 (hu : X.A.units + 1 < cLine) : MtR X "dict.get" rDGet2 := by
  intro pins s σ H x xs v us Q I rx rxs h
  obtain ⟨a, y, z, o, rfl, rfl, g, q⟩ := h
  cases rx
  obtain ⟨u1, u2, rfl, r1, r2⟩ := vals2 rxs
  exact d_get2 hu I g r1 r2 fun w' s' I' rw' => ⟨_, H, I', rw', q⟩
def rDUpd : V → List V → Hp → VK → Prop := fun x xs H Q => ∃ (a b : Addr) (kvs more : List (Key × V)), x = .ref a ∧ xs = [.ref b] ∧ a ≠ b ∧ H a = some (.dK kvs) ∧ Rd H b (.dK more) ∧ kvs.length + more.length ≤ sizeLine ∧ Q .non (upd H a (.dK (mergeK kvs more)))
theorem mt_dupd : MtR X "dict.update" rDUpd := by
  intro pins s σ H x xs v us Q I rx rxs h
  obtain ⟨a, b, kvs, more, rfl, rfl, hab, ha, hb, hz, q⟩ := h
  cases rx
  obtain ⟨u, rfl, ru⟩ := Vals.one rxs
  cases ru
  obtain ⟨z1, hd1, vs1, rel1, dd1⟩ := dk_of I.hok ha
  obtain ⟨z2, hd2, vs2, rel2, dd2⟩ := dk_rd I.hok hb
  have l1 : kvs.length = vs1.length := Paired.length rel1
  have l2 : more.length = vs2.length := Paired.length rel2
  refine call_meetsIn PySem.F.slot_dict_update dd1.typeIs PySem.F.entry_dict_update (PySem.F.args_dict_update_2 _ _) (meets_dict_update (mixKind X.prog X.w) a b hab hd2) ⟨vs1, vs2, dd1, dd2, by omega, fun h' d1 d2 sb => ?_⟩
  have he : ∃ q, h'.get? a = some q := let ⟨q, _, _, hq, _⟩ := d1; ⟨q, hq⟩
  have hl : (mergeK kvs more).length ≤ sizeLine := Nat.le_trans (length_mergeK more kvs) hz
  exact ⟨.non, _, d_write I (by rw [ha]; exact True.intro) sb he (dk_new hl hd1 (rel2.merge rel1) d1), rfl, q⟩
end
end L2
namespace M
open PySem PySem.Spec PyProof.Rows L2
/-- pairs that are put into a dict, from the left -/
def mrgD {α : Type} (p : List Key × List α) (more : List (Key × α)) : List Key × List α := more.foldl (fun p kv => (putKs p.1 kv.1, putXs p.1 p.2 kv.1 kv.2)) p
theorem mergeK_zip : ∀ (more : List (Key × V)) {ks : List Key} {us : List V}, ks.length = us.length → mergeK (ks.zip us) more = (mrgD (ks, us) more).1.zip (mrgD (ks, us) more).2 ∧ (mrgD (ks, us) more).1.length = (mrgD (ks, us) more).2.length
  | [], ks, us, h => ⟨rfl, h⟩
  | (k, v) :: more, ks, us, h => by
    have := mergeK_zip more (ks := putKs ks k) (us := putXs ks us k v) (putK_len h)
    show mergeK (L2.putK (ks.zip us) k v) more = _ ∧ _
    rw [putK_zip h]
    exact this
section
variable {G : Gc} {X : Cx} {F F' F1 F2 : Addr → Prop} {H H' H1 H2 : Hp} {σ σ' : L2.St} {ρ ρ' ρ1 ρ2 : Sl} {fp fp' fp1 fp2 fr fr1 fr2 : List Addr} {v v1 v2 : V} {r r1 r2 d : D} {p : Addr} {o : HO}
  {a b c e : Expr} {es : List Expr} {wb wc we : WE} {rest : List Expr} {pos : Pos} {K : PySem.W.Frag} {ca : Cax}
theorem RpL.mrg : ∀ {ks2 : List Key} {xs2 : List D} {us2 : List V} {ks : List Key} {xs : List D} {us : List V}, RpL K ca F H us2 xs2 [] → RpL K ca F H us xs [] →
    (mrgD (ks, us) (ks2.zip us2)).1 = (mrgD (ks, xs) (ks2.zip xs2)).1 ∧ RpL K ca F H (mrgD (ks, us) (ks2.zip us2)).2 (mrgD (ks, xs) (ks2.zip xs2)).2 []
  | [], xs2, us2, ks, xs, us, _, h => by
    cases xs2 <;> cases us2 <;> exact ⟨rfl, h⟩
  | k :: ks2, [], [], ks, xs, us, _, h => ⟨rfl, h⟩
  | k :: ks2, [], u :: us2, ks, xs, us, h2, h => by cases h2
  | k :: ks2, x :: xs2, [], ks, xs, us, h2, h => by cases h2
  | k :: ks2, x :: xs2, u :: us2, ks, xs, us, h2, h => by
    obtain ⟨r, t⟩ := h2.nil_of
    exact RpL.mrg (ks := putKs ks k) t (h.putXs r)
theorem RrL.three {vs : List V} {r3 : D} (h : RrL G F H σ vs [r1, r2, r3] fr) : ∃ v1 v2 v3 f1 f2 f3, vs = [v1, v2, v3] ∧ fr = f1 ++ (f2 ++ f3) ∧ Rr G F H σ v1 r1 f1 ∧ Rr G F H σ v2 r2 f2 ∧ Rr G F H σ v3 r3 f3 := by
  cases h with
  | cons h t =>
    obtain ⟨v2, v3, f2, f3, rfl, rfl, h2, h3⟩ := t.two
    exact ⟨_, _, _, _, _, _, rfl, rfl, h, h2, h3⟩
/-- a method of a dict -/
def wDm (o : ON) (wo : WE) (wa : WA) : WE := fun ρ Q => wo ρ fun x ρ1 => (∃ o ks xs, pk ρ1 x = some (.dct o ks xs)) ∧ wa ρ1 fun rs ρ2 => o ρ2 (x :: rs) Q
theorem d_dm {id : String} {name : Str} {apos : Pos} {r : V → List V → Hp → VK → Prop} {o : ON} {wa : WA} {oe : Expr} (slot : Slot "dict" name id) (hty : typeOf (.builtin id) = pure (.type "method_descriptor")) (hm : MtR X id r) (ho : ONOk G (rM r) o) (he : PE X oe (LE G we)) (ha : PA X (e :: es) (LA G wa))
    (hbase : attributeBase oe name X.env (eval oe X.env) = eval oe X.env := by rfl)
    (hfew : ((backTo pos (starEach (e :: es) X.env)).all (fun x => !x.1) && (backToKw pos (keywordEach [] X.env)).all (fun x => x.1.isSome)
      && decide ((e :: es).length + ([] : List Keyword).length + (if ([] : List Keyword).isEmpty then 0 else 1) < 30)) = true := by rfl)
    (hline : (apos.endLine == pos.line) = true := by rfl) (hs : starEach (e :: es) X.env = (false, eval e X.env) :: starEach es X.env := by rfl) (hplain : (backTo pos (starEach es X.env)).any (·.1) = false := by rfl) :
    PE X (.Call (.Attribute oe name apos) (e :: es) [] pos) (LE G (wDm o we wa)) := imE (pe_dm slot hty hm he ha hbase hfew hline hs hplain) fun σ H Q q => by
  obtain ⟨F, ρ, fp, Qd, ok, h, k⟩ := q
  refine ⟨F, ρ, fp, _, ok, h, fun v1 H1 F1 ρ1 fp1 x f1 en1 rr1 q1 => ?_⟩
  obtain ⟨⟨od, ks, xs, ex⟩, q1⟩ := q1
  obtain ⟨_, rp, _⟩ := rr1.see en1.ok ex
  obtain ⟨a, us, e1, hd, _, _⟩ := rp.dct
  refine ⟨a, e1, .inl ⟨_, hd⟩, F1, ρ1, fp1, _, en1.ok, q1, fun us H2 F2 ρ2 fp2 rs f2 en2 rr2 q2 => ?_⟩
  have en := en1.trans en2 rr1.dom
  obtain ⟨y, ys, e2, q3⟩ := ho F2 H2 σ ρ2 fp2 (v1 :: us) (x :: rs) (f1 ++ f2) Qd Q en.ok (.cons (rr1.step en2.st en1.ok.nf (nodup_d en1.nd)) rr2) ⟨en.nd, en.hr ok⟩ q2 fun v H3 F3 ρ3 fp3 d f3 en3 rr3 q3 => k v H3 F3 ρ3 fp3 d f3 (en.call en3) rr3 q3
  cases e2
  exact q3
/-- d.get(k, x) -/
def nDGet2 : ON := fun ρ rs K => ∃ x y z o ks xs k, rs = [x, y, z] ∧ pk ρ x = some (.dct o ks xs) ∧ keyOf y = some k ∧ ((∃ d, valD ks xs k = some d ∧ K d ρ) ∨ (valD ks xs k = none ∧ K z ρ))
theorem nDGet2_ok : ONOk G (rM rDGet2) nDGet2 := fun F H σ ρ fp vs rs fr Kd Q ok rr nd h kk => by
  obtain ⟨x, y, z, o, ks, xs, k, rfl, e1, e2, q⟩ := h
  obtain ⟨v1, v2, v3, f1, f2, f3, rfl, rfl, r1, r2, r3⟩ := rr.three
  obtain ⟨rfl, rfl⟩ := r2.key e2
  obtain ⟨_, rp, _⟩ := r1.see ok e1
  obtain ⟨a, us, rfl, hd, l, rl⟩ := rp.dct
  rcases q with ⟨d, e3, q⟩ | ⟨e3, q⟩
  · obtain ⟨w, ew, rw_⟩ := rl.valD e3
    exact ⟨_, _, rfl, a, _, _, some w, rfl, rfl, .inl ⟨_, k, hd, rfl, by rw [valV_zip, ew]⟩, kk w H F ρ fp d [] (En.stay ok) (.inl rw_) q⟩
  · have ew : valD ks us k = none := by
      have := valD_some (k := k) (ks := ks) (xs := xs) (us := us) rl.length.symm
      rw [e3] at this
      simpa using this.symm
    refine ⟨_, _, rfl, a, _, _, none, rfl, rfl, .inl ⟨_, k, hd, rfl, by rw [valV_zip, ew]⟩, kk v3 H F ρ fp z f3 ⟨?_, ok, ?_⟩ r3 q⟩
    · refine Step.refl.less fun a w => ?_
      rcases List.mem_append.mp w with w | w <;> simp [w]
    · have := nd.1
      simp only [List.nil_append, List.append_assoc] at this
      exact (List.nodup_append.mp this).2.1
theorem d_dget2 {oe e2 : Expr} {wa : WA} {apos : Pos} (hu : X.A.units + 64 < cLine) (he : PE X oe (LE G we)) (ha : PA X [e, e2] (LA G wa)) (hbase : attributeBase oe "get" X.env (eval oe X.env) = eval oe X.env := by rfl)
    (hfew : ((backTo pos (starEach [e, e2] X.env)).all (fun x => !x.1) && (backToKw pos (keywordEach [] X.env)).all (fun x => x.1.isSome) && decide ([e, e2].length + ([] : List Keyword).length + (if ([] : List Keyword).isEmpty then 0 else 1) < 30)) = true := by rfl)
    (hline : (apos.endLine == pos.line) = true := by rfl) (hs : starEach [e, e2] X.env = (false, eval e X.env) :: starEach [e2] X.env := by rfl) (hplain : (backTo pos (starEach [e2] X.env)).any (·.1) = false := by rfl) :
    PE X (.Call (.Attribute oe "get" apos) [e, e2] [] pos) (LE G (wDm nDGet2 we wa)) := d_dm PySem.F.slot_dict_get PySem.F.type_dict_get (mt_dget2 (by omega)) nDGet2_ok he ha hbase hfew hline hs hplain
/-- d.update(a new dict) -/
def nDUpd : ON := fun ρ rs K => ∃ i ks xs ks2 xs2, rs = [.sl i, .dct true ks2 xs2] ∧ ρ[i]? = some (some (.dct true ks xs)) ∧ ks.length + ks2.length ≤ sizeLine ∧ K .non (ρ.set i (some (.dct true (mrgD (ks, xs) (ks2.zip xs2)).1 (mrgD (ks, xs) (ks2.zip xs2)).2)))
theorem nDUpd_ok : ONOk G (rM rDUpd) nDUpd := fun F H σ ρ fp vs rs fr Kd Q ok rr nd h kk => by
  obtain ⟨i, ks, xs, ks2, xs2, rfl, e1, hz, q⟩ := h
  obtain ⟨v1, v2, f1, f2, rfl, rfl, r1, r2⟩ := rr.two
  obtain ⟨hσ, rfl⟩ := r1.sl
  obtain ⟨l, fq, r', e4, g1, g2, g3, g4⟩ := ok.rs.at_ (i := i) (by rw [List.getElem?_eq_some_iff] at e1; exact e1.1)
  obtain ⟨v', ev, rpi⟩ := g1 _ e1
  rw [hσ] at ev; cases ev
  rcases r2 with rp2 | ⟨j, ej, _⟩
  · cases rp2 with
    | @dow b _ us2 _ hb nFb ll2 rl2 =>
      cases rpi with
      | @dow a _ us _ ha nF ll rl =>
        have hab : a ≠ b := fun c => by
          subst c
          have := nd.1
          simp only [List.nil_append, List.cons_append] at this
          have := (List.nodup_cons.mp this).1
          apply this
          rw [e4]
          simp
        obtain ⟨m1, m2⟩ := mergeK_zip (ks2.zip us2) (ks := ks) (us := us) ll
        obtain ⟨n1, n2⟩ := RpL.mrg (ks2 := ks2) (ks := ks) rl2 rl
        obtain ⟨fp4, en4⟩ := ok.change (fr := [b]) e1 hσ low_dct ha trivial (u := .dK (mergeK (ks.zip us) (ks2.zip us2))) (d1 := .dct true (mrgD (ks, xs) (ks2.zip xs2)).1 (mrgD (ks, xs) (ks2.zip xs2)).2)
          (by rw [m1, n1]; rw [n1] at m2; exact .dow upd_same nF m2 (n2.mut ha trivial nF))
        refine ⟨_, _, rfl, a, b, _, _, rfl, rfl, hab, ha, .inl hb, by rw [List.length_zip, List.length_zip]; omega, kk _ _ F _ fp4 _ [] (by simpa using en4) (.inl .non) q⟩
  · cases ej
theorem d_dupd {oe : Expr} {wa : WA} {apos : Pos} (he : PE X oe (LE G we)) (ha : PA X [e] (LA G wa)) (hbase : attributeBase oe "update" X.env (eval oe X.env) = eval oe X.env := by rfl)
    (hfew : ((backTo pos (starEach [e] X.env)).all (fun x => !x.1) && (backToKw pos (keywordEach [] X.env)).all (fun x => x.1.isSome) && decide ([e].length + ([] : List Keyword).length + (if ([] : List Keyword).isEmpty then 0 else 1) < 30)) = true := by rfl)
    (hline : (apos.endLine == pos.line) = true := by rfl) (hs : starEach [e] X.env = (false, eval e X.env) :: starEach [] X.env := by rfl) (hplain : (backTo pos (starEach [] X.env)).any (·.1) = false := by rfl) :
    PE X (.Call (.Attribute oe "update" apos) [e] [] pos) (LE G (wDm nDUpd we wa)) := d_dm PySem.F.slot_dict_update PySem.F.type_dict_update mt_dupd nDUpd_ok he ha hbase hfew hline hs hplain
end
end M
/-! M35: {k: v, ..}. -/
namespace M
open PySem PySem.Spec PyProof.Rows L2
section
variable {G : Gc} {X : Cx} {F F' F1 F2 F5 : Addr → Prop} {H H' H1 H2 H5 : Hp} {σ σ' σ2 σ5 : L2.St} {ρ ρ' ρ1 ρ2 ρ5 : Sl} {fp fp' fp1 fp2 fp5 fr : List Addr} {v : V} {y d : D} {q : Addr} {u u1 : HO}
  {we : WE} {pos : Pos}
/-- an object that is made, beside the slots' own ones -/
structure DpS (G : Gc) (F1 : Addr → Prop) (H1 : Hp) (fp1 : List Addr) (q : Addr) (u : HO) (F : Addr → Prop) (H : Hp) (σ : L2.St) (ρ : Sl) (fp : List Addr) : Prop where
  st : Step G.ca.tb F1 H1 fp1 F H (q :: fp)
  ok : Ok G F H σ ρ fp
  eq : H q = some u
  nF : ¬ F q
  nf : q ∉ fp
theorem DpS.step (z : DpS G F1 H1 fp1 q u F2 H2 σ2 ρ2 fp2) (hq : H1 q = none) (nt : NTb u) (s : Step G.ca.tb F2 H2 fp2 F5 H5 fp5) (ok : Ok G F5 H5 σ5 ρ5 fp5) : DpS G F1 H1 fp1 q u F5 H5 σ5 ρ5 fp5 := by
  obtain ⟨e, n1, n2⟩ := s.apart z.eq z.nF z.nf
  have t := (z.st.less (fp2 := fp2) fun a w => List.mem_cons_of_mem _ w).trans s
  refine ⟨⟨t.mono, t.new, t.kept, t.there, fun a w => ?_, t.tab⟩, ok, e, n1, n2⟩
  rcases List.mem_cons.mp w with w | w
  · exact .inr (w ▸ hq)
  · exact t.fps a w
theorem DpS.put (z : DpS G F1 H1 fp1 q u F H σ ρ fp) (hq : H1 q = none) (h0 : G.H0 q = none) (hm : MutK u) (hu : NTE u) : DpS G F1 H1 fp1 q u1 F (upd H q u1) σ ρ fp where
  st := z.st.put z.eq (fun o e => by rw [hq] at e; cases e) hu
  ok := by
    refine z.ok.step (fq := [q]) (fq' := [q]) ⟨fun _ w => w, fun _ w => .inl w, fun a o e _ c => ?_, fun a o e => ?_, fun _ w => .inl w, tabs_put z.eq hu⟩ (fun a w => by rw [List.mem_singleton.mp w]; exact z.nF) (fun a w c => z.nf (by rw [← List.mem_singleton.mp c]; exact w)) (fun a f => ?_) (z.ok.rch.put z.eq (fun o e => by rw [h0] at e; cases e) hu)
    · by_cases ha : a = q
      · subst ha
        rw [z.eq] at e
        cases e
        rcases c with c | c
        · exact absurd List.mem_cons_self c
        · exact absurd hm c
      · rw [upd_ne ha]
        exact e
    · by_cases ha : a = q
      · exact ⟨_, by rw [ha]; exact upd_same⟩
      · exact ⟨o, by rw [upd_ne ha]; exact e⟩
    · obtain ⟨o, e⟩ := z.ok.dom a f
      by_cases ha : a = q
      · exact ⟨_, by rw [ha]; exact upd_same⟩
      · exact ⟨o, by rw [upd_ne ha]; exact e⟩
  eq := upd_same
  nF := z.nF
  nf := z.nf
def wPrs : List (WE × WE) → Sl → (List (Key × D) → Sl → Prop) → Prop
  | [], ρ, Q => Q [] ρ
  | p :: r, ρ, Q => p.1 ρ fun x ρ1 => p.2 ρ1 fun y ρ2 => ∃ k d ρ3, keyOf x = some k ∧ fzR ρ2 y = some (d, ρ3) ∧ wPrs r ρ3 fun l ρ4 => Q ((k, d) :: l) ρ4
def LPs (G : Gc) (l : List (WE × WE)) : List (TE × TE) := l.map fun p => (LE G p.1, LE G p.2)
theorem le_prs : ∀ (l : List (WE × WE)) {F : Addr → Prop} {H : Hp} {ρ : Sl} {fp : List Addr} {Qd : List (Key × D) → Sl → Prop} {Q : List (V × V) → Hp → Prop}, DpS G F1 H1 fp1 q (.dK []) F H σ ρ fp → H1 q = none → wPrs l ρ Qd →
    (∀ F' H' ρ' fp' (kvs : List (Key × D)) us, DpS G F1 H1 fp1 q (.dK []) F' H' σ ρ' fp' → Step G.ca.tb F H fp F' H' fp' → RpL G.K G.ca F' H' us (kvs.map (·.2)) [] → Qd kvs ρ' → Q (((kvs.map (·.1)).zip us).map fun kv => (kV kv.1, kv.2)) H') → tPairs (LPs G l) σ H Q
  | [], F, H, ρ, fp, Qd, Q, z, hq, h, k => k F H ρ fp [] [] z Step.refl .nil h
  | p :: l, F, H, ρ, fp, Qd, Q, z, hq, h, k => by
    refine ⟨F, ρ, fp, _, z.ok, h, fun vx H2 F2 ρ2 fp2 x f2 en2 rx h => ?_⟩
    refine ⟨F2, ρ2, fp2, _, en2.ok, h, fun vy H3 F3 ρ3 fp3 y f3 en3 ry h => ?_⟩
    obtain ⟨kk, d, ρ4, ek, e4, h⟩ := h
    obtain ⟨rfl, rfl⟩ := rx.key ek
    obtain ⟨F4, fp4, s4, rp⟩ := ry.share en3.ok en3.nd (en3.hr en2.ok) e4
    have sA : Step G.ca.tb F H fp F4 H3 fp4 := en2.st0.trans (en3.st.trans s4.step)
    have zA := z.step hq trivial sA s4.ok
    refine le_prs l zA hq h fun F5 H5 ρ5 fp5 kvs us z5 s5 rl q5 => ?_
    exact k F5 H5 ρ5 fp5 ((kk, d) :: kvs) (vy :: us) z5 (sA.trans s5) (.cons (fp := []) (fq := []) (rp.step s5 s4.ok.nf fun _ w => nomatch w) rl) q5
/-- {k: v, ..} -/
def wDisp (l : List (WE × WE)) : WE := fun ρ Q => wPrs l ρ fun kvs ρ1 => kvs.length ≤ 15 ∧ Q (.dct true (mrgD ([], []) kvs).1 (mrgD ([], []) kvs).2) ρ1
theorem zip_fst_snd {α β : Type} (l : List (α × β)) : (l.map (·.1)).zip (l.map (·.2)) = l := by
  induction l with
  | nil => rfl
  | cons p l ih => simp [ih]
theorem d_disp {keys : List (Option Expr)} {values : List Expr} {l : List (WE × WE)} (h : PPs X pos keys values (LPs G l)) (hall : keys.all (·.isSome) = true := by rfl) (hl : keys.length = values.length := by rfl) (h0 : keys ≠ [] := by simp)
    (h15 : keys.length ≤ 15 := by decide) : PE X (.Dict keys values pos) (LE G (wDisp l)) := imE (pe_disp h hall hl h0 h15) fun σ H Q w => by
  obtain ⟨F, ρ, fp, Qd, ok, w, k⟩ := w
  intro p hp
  have h0 : G.H0 p = none := ok.rch.none_of hp
  have nn := ok.not_none hp
  have z0 : DpS G F H fp p (.dK []) F (upd H p (.dK [])) σ ρ fp := ⟨(En.own (o := .dK []) ok hp).st, ok.new hp, upd_same, nn.1, nn.2⟩
  refine le_prs l z0 hp w fun F' H' ρ' fp' kvs us z s rl q => ⟨z.eq, _, rfl, ?_, ?_⟩
  · have := rl.length
    rw [List.length_map] at this
    rw [List.length_zip, List.length_map]
    have := q.1
    omega
  · have z1 := z.put (u1 := .dK (mergeK [] ((kvs.map (·.1)).zip us))) hp h0 trivial trivial
    obtain ⟨m1, m2⟩ := mergeK_zip ((kvs.map (·.1)).zip us) (ks := []) (us := []) rfl
    obtain ⟨n1, n2⟩ := RpL.mrg (ks := []) (us := []) (xs := []) (ks2 := kvs.map (·.1)) rl .nil
    rw [zip_fst_snd] at n1 n2
    refine k (.ref p) _ F' ρ' fp' _ [p] ⟨z1.st, z1.ok, List.nodup_cons.mpr ⟨z1.nf, z1.ok.nd⟩⟩ (.inl ?_) q.2
    rw [show mergeK [] ((kvs.map (·.1)).zip us) = (mrgD ([], []) kvs).1.zip (mrgD ([], []) ((kvs.map (·.1)).zip us)).2 from by rw [← n1]; exact m1]
    exact .dow upd_same z1.nF (by rw [← n1]; exact m2) (n2.mut z.eq trivial z.nF)
end
end M
/-! M36: {k: v for g in i if t for g1 in i1 if t1}. -/
namespace L2
open PySem PySem.Spec PyProof.Rows
theorem turn2D_out (kx vx t0 i0 t1 i1 : Expr) (ifs0 ifs1 : List Expr) (scope : Scope) (pos : Pos) (it acc : Value) (env : Env) :
    compTurn (.DictComp kx vx [⟨t0, i0, ifs0, 0⟩, ⟨t1, i1, ifs1, 0⟩] scope pos) 0 it acc env = (do
      standAt i0.pos
      match ← pyNext it with
      | none => pure (.done .next)
      | some v =>
        letOwnedTupleGo t0 it v
        assign t0 env v
        let mut ok := true
        for c in ifs0 do
          if ok then ok ← isTrue c env (eval c env)
        if ok then
          let x ← eval i1 env
          standAt i1.pos
          let x ← foldedSetIterable i1 env x
          let _ ← runOwn (.compStart (.DictComp kx vx [⟨t0, i0, ifs0, 0⟩, ⟨t1, i1, ifs1, 0⟩] scope pos) 1 (← holding [x] (pyIter x)) acc env) env
        again (.compLoop (.DictComp kx vx [⟨t0, i0, ifs0, 0⟩, ⟨t1, i1, ifs1, 0⟩] scope pos) 0 it acc env)) := by rfl
theorem turn2D_in (kx vx t0 i0 t1 i1 : Expr) (ifs0 ifs1 : List Expr) (scope : Scope) (pos : Pos) (it : Value) (D : Addr) (env : Env) :
    compTurn (.DictComp kx vx [⟨t0, i0, ifs0, 0⟩, ⟨t1, i1, ifs1, 0⟩] scope pos) 1 it (.ref D) env = (do
      standAt i1.pos
      match ← pyNext it with
      | none => pure (.done .next)
      | some v =>
        letOwnedTupleGo t1 it v
        assign t1 env v
        let mut ok := true
        for c in ifs1 do
          if ok then ok ← isTrue c env (eval c env)
        if ok then
          (do
            let kv ← eval kx env
            let vv ← holding [kv] (eval vx env)
            standAt { kx.pos with endLine := vx.pos.endLine, endCol := vx.pos.endCol }
            holding [kv, vv] (dictSet D kv vv))
        again (.compLoop (.DictComp kx vx [⟨t0, i0, ifs0, 0⟩, ⟨t1, i1, ifs1, 0⟩] scope pos) 1 it (.ref D) env)) := by rfl

section
variable {prog : Program} {w : World} {A : Around} {R : Result → Shared → Prop} {s : Shared} {kx vx t0 i0 t1 i1 : Expr} {ifs0 ifs1 : List Expr} {scope : Scope} {pos : Pos} {it acc : Value} {env : Env}
theorem loop2D_out (hs : ∀ x, foldedSetIterable i1 env x = pure x) (I : Nat → Shared → Prop)
    (turn : ∀ n s, I n s → wpAny (model prog w) A (pyNext it) (fun r s₁ => match r with
      | none => R (.ok .next) s₁
      | some v => wpAny (model prog w) A (letOwnedTupleGo t0 it v) (fun _ s₁' => wpAny (model prog w) A (assign t0 env v) (fun _ s₂ =>
          wpAny (model prog w) A (forIn ifs0 true fun c r => if r = true then do let ok ← isTrue c env (eval c env); pure (ForInStep.yield ok) else pure (ForInStep.yield r)) (fun ok s₃ =>
            if ok = true then wpAny (model prog w) A (eval i1 env) (fun x s₄ => wpAny (model prog w) A (pyIter x) (fun it1 s₅ =>
              codeAny (model prog w) A (.compStart (.DictComp kx vx [⟨t0, i0, ifs0, 0⟩, ⟨t1, i1, ifs1, 0⟩] scope pos) 1 it1 acc env) (fun r s' => match r with
                | .ok _ => ∃ m, m < n ∧ I m s'
                | .error _ => False) s₅) (notedBy (model prog w) A env fun e s' => R (.error e) s') s₄) (notedBy (model prog w) A env fun e s' => R (.error e) s') s₃
            else ∃ m, m < n ∧ I m s₃) (notedBy (model prog w) A env fun e s' => R (.error e) s') s₂) (notedBy (model prog w) A env fun e s' => R (.error e) s') s₁') (notedBy (model prog w) A env fun e s' => R (.error e) s') s₁) (notedBy (model prog w) A env fun e s' => R (.error e) s') s)
    (n : Nat) (h : I n s) :
    codeAny (model prog w) A (.compLoop (.DictComp kx vx [⟨t0, i0, ifs0, 0⟩, ⟨t1, i1, ifs1, 0⟩] scope pos) 0 it acc env) R s := by
  refine codeAny_loop rfl I (fun n s hI => ?_) n h
  show wpAny _ A ((compTurn (.DictComp kx vx [⟨t0, i0, ifs0, 0⟩, ⟨t1, i1, ifs1, 0⟩] scope pos) 0 it acc env).onRaise (fun x => do noteFrame x env; theTreesLotGoes x)) _ _ s
  refine wpAny_noted ?_
  rw [turn2D_out]
  refine wpAny_bind (wpAny_standAt (wpAny_bind (wpAny_mono (turn n s hI) (fun r s₁ h₁ => ?_) fun _ _ h' => h')))
  cases r with
  | none => exact wpAny_pure h₁
  | some v =>
    refine wpAny_bind (wpAny_mono h₁ (fun _ s₁' h₁' => ?_) fun _ _ h' => h')
    refine wpAny_bind (wpAny_mono h₁' (fun _ s₂ h₂ => wpAny_bind (wpAny_mono h₂ (fun ok s₃ h₃ => ?_) fun _ _ h' => h')) fun _ _ h' => h')
    cases ok with
    | false => exact wpAny_pure ⟨rfl, h₃⟩
    | true =>
      refine wpAny_bind (wpAny_mono h₃ (fun x s₄ h₄ => ?_) fun _ _ h' => h')
      refine wpAny_bind (wpAny_standAt (wpAny_bind (wpAny_of_eq (hs x) (wpAny_bind (wpAny_holding (wpAny_mono h₄ (fun it1 s₅ h₅ => ?_) fun _ _ h' => h'))))))
      refine wpAny_bind (wpAny_runOwn ?_)
      rw [Around.mark_none]
      refine codeAny_mono h₅ fun r s' hr => ?_
      cases r with
      | ok f =>
        first
          | exact wpAny_pure ⟨rfl, hr⟩
          | exact wpAny_bind (wpAny_pure (wpAny_pure ⟨rfl, hr⟩))
      | error e => exact hr.elim
theorem loop2D_in {D : Addr} (I : Nat → Shared → Prop)
    (turn : ∀ n s, I n s → wpAny (model prog w) A (pyNext it) (fun r s₁ => match r with
      | none => R (.ok .next) s₁
      | some v => wpAny (model prog w) A (letOwnedTupleGo t1 it v) (fun _ s₁' => wpAny (model prog w) A (assign t1 env v) (fun _ s₂ =>
          wpAny (model prog w) A (forIn ifs1 true fun c r => if r = true then do let ok ← isTrue c env (eval c env); pure (ForInStep.yield ok) else pure (ForInStep.yield r)) (fun ok s₃ =>
            if ok = true then wpAny (model prog w) A (eval kx env) (fun kv s₄ => wpAny (model prog w) A (eval vx env) (fun vv s₅ =>
              wpAny (model prog w) A (dictSet D kv vv) (fun _ s₆ => ∃ m, m < n ∧ I m s₆) (notedBy (model prog w) A env fun e s' => R (.error e) s') s₅) (notedBy (model prog w) A env fun e s' => R (.error e) s') s₄) (notedBy (model prog w) A env fun e s' => R (.error e) s') s₃
            else ∃ m, m < n ∧ I m s₃) (notedBy (model prog w) A env fun e s' => R (.error e) s') s₂) (notedBy (model prog w) A env fun e s' => R (.error e) s') s₁') (notedBy (model prog w) A env fun e s' => R (.error e) s') s₁) (notedBy (model prog w) A env fun e s' => R (.error e) s') s)
    (n : Nat) (h : I n s) :
    codeAny (model prog w) A (.compLoop (.DictComp kx vx [⟨t0, i0, ifs0, 0⟩, ⟨t1, i1, ifs1, 0⟩] scope pos) 1 it (.ref D) env) R s := by
  refine codeAny_loop rfl I (fun n s hI => ?_) n h
  show wpAny _ A ((compTurn (.DictComp kx vx [⟨t0, i0, ifs0, 0⟩, ⟨t1, i1, ifs1, 0⟩] scope pos) 1 it (.ref D) env).onRaise (fun x => do noteFrame x env; theTreesLotGoes x)) _ _ s
  refine wpAny_noted ?_
  rw [turn2D_in]
  refine wpAny_bind (wpAny_standAt (wpAny_bind (wpAny_mono (turn n s hI) (fun r s₁ h₁ => ?_) fun _ _ h' => h')))
  cases r with
  | none => exact wpAny_pure h₁
  | some v =>
    refine wpAny_bind (wpAny_mono h₁ (fun _ s₁' h₁' => ?_) fun _ _ h' => h')
    refine wpAny_bind (wpAny_mono h₁' (fun _ s₂ h₂ => wpAny_bind (wpAny_mono h₂ (fun ok s₃ h₃ => ?_) fun _ _ h' => h')) fun _ _ h' => h')
    cases ok with
    | false => exact wpAny_pure ⟨rfl, h₃⟩
    | true =>
      exact wpAny_bind (wpAny_bind (wpAny_mono h₃ (fun kv s₄ h₄ => wpAny_bind (wpAny_holding (wpAny_mono h₄ (fun vv s₅ h₅ => wpAny_bind (wpAny_standAt (wpAny_holding (wpAny_mono h₅ (fun _ s₆ h₆ => wpAny_pure ⟨rfl, h₆⟩) fun _ _ h' => h')))) fun _ _ h' => h'))) fun _ _ h' => h'))
theorem start2D_ok (h0 : codeAny (model prog w) A (.compLoop (.DictComp kx vx [⟨t0, i0, ifs0, 0⟩, ⟨t1, i1, ifs1, 0⟩] scope pos) 1 it acc env) R s)
    (h : wpAny (model prog w) A (pyIter it) (fun it' s' => codeAny (model prog w) A (.compLoop (.DictComp kx vx [⟨t0, i0, ifs0, 0⟩, ⟨t1, i1, ifs1, 0⟩] scope pos) 1 it' acc env) R s')
      (notedBy (model prog w) A env fun x s' => R (.error x) s') s) :
    codeAny (model prog w) A (.compStart (.DictComp kx vx [⟨t0, i0, ifs0, 0⟩, ⟨t1, i1, ifs1, 0⟩] scope pos) 1 it acc env) R s := by
  refine codeAny_of_tree ?_
  show wpAny _ _ ((compStart (.DictComp kx vx [⟨t0, i0, ifs0, 0⟩, ⟨t1, i1, ifs1, 0⟩] scope pos) 1 it acc env).onRaise (fun x => do noteFrame x env; standAt theWindowsPlace)) _ _ s
  refine wpAny_notedAt ?_
  unfold compStart
  show wpAny _ _ (ask >>= _) _ _ s
  refine wpAny_bind (wpAny_askSetting (wpAny_ite ?_))
  split
  · first
      | exact wpAny_bind (wpAny_pure (wpAny_pure (And.intro rfl h0)))
      | exact wpAny_pure (And.intro rfl h0)
  · first
      | exact wpAny_bind (wpAny_rule (wpAny_bind (wpAny_standAt (wpAny_bind (wpAny_mono h (fun it' s' h' => wpAny_pure (And.intro rfl h')) fun _ _ x => x)))))
      | (refine wpAny_bind (wpAny_rule ?_); show wpAny _ _ (standAt i1.pos >>= _) _ _ s; exact wpAny_bind (wpAny_standAt (wpAny_bind (wpAny_mono h (fun it' s' h' => wpAny_pure (And.intro rfl h')) fun _ _ x => x))))
end

section
variable {X : Cx}
def tDc2 (wi : TI) (g : TG) (tt : TT) (wi1 : TI) (g1 : TG) (tt1 : TT) (tk tv : TE) (vs vs1 : List Nat) : TE := fun σ H Q => wi σ H fun J H1 => ∀ D, H1 D = none → ∃ W : Nat → Nat → Hp → Prop, (∃ m, W 0 m (upd H1 D (.dK []))) ∧ ∀ i m H, W i m H →
  (J.stop i H ∧ Q (.ref D) H) ∨ (J.go i H ∧ ∃ Nx : Hp → Prop, (∀ H', Nx H' → ∃ m', m' < m ∧ W (i + 1) m' H') ∧ ∀ x H', J.yld i H x H' → g x (wipe σ vs) H' fun σ2 H2 => wipe σ2 vs = wipe σ vs ∧ tt σ2 H2 fun b H3 =>
    if b = true then wi1 σ2 H3 fun J1 H4 => ∃ W1 : Nat → Nat → Hp → Prop, (∃ m, W1 0 m H4) ∧ ∀ j k H, W1 j k H →
      (J1.stop j H ∧ Nx H) ∨ (J1.go j H ∧ ∃ Nx1 : Hp → Prop, (∀ H', Nx1 H' → ∃ k', k' < k ∧ W1 (j + 1) k' H') ∧ ∀ x H', J1.yld j H x H' → g1 x (wipe σ2 vs1) H' fun σ3 H5 => wipe σ3 vs1 = wipe σ2 vs1 ∧ tt1 σ3 H5 fun b H6 =>
        if b = true then tk σ3 H6 fun y H7 => tv σ3 H7 fun z H8 => ∃ kvs k, y = kV k ∧ H8 D = some (.dK kvs) ∧ kvs.length < sizeLine ∧ Nx1 (upd H8 D (.dK (putK kvs k z))) else Nx1 H6)
    else Nx H3)
theorem dc2_core {pins : List (Addr × Obj)} {s : Shared} {σ : St} {H : Hp} {Q : VK} {kx vx tg iter tg1 iter1 : Expr} {ifs ifs1 : List Expr} {scope : Scope} {own : List (Str × Nat)} {vs1 : List Nat} {pos pos' : Pos} {wi wi1 : TI} {g g1 : TG} {tt tt1 : TT} {tk tv : TE} {use : Option (Value → Sem Unit)} {Qf : Value → Shared → Prop}
    (hc : X.calm = true) (hN : X.N.Nodup) (I : Inv X pins σ H s) (hi : PI X tg iter wi) (ok : BlkOk X.N X.env.scope scope own) (hv : ∀ i ∈ vs1, i ∈ own.map (·.2))
    (hg : ∀ (s : Shared) (H : Hp) (C : Addr) (cl : List (Str × Addr)) (fp : List Addr), PG (X.blk s H scope (compEnvC scope cl C X.env) fp) tg g) (ht : ∀ (s : Shared) (H : Hp) (C : Addr) (cl : List (Str × Addr)) (fp : List Addr), PTs (X.blk s H scope (compEnvC scope cl C X.env) fp) ifs tt)
    (hk : ∀ (s : Shared) (H : Hp) (C : Addr) (cl : List (Str × Addr)) (fp : List Addr), PE (X.blk s H scope (compEnvC scope cl C X.env) fp) kx tk)
    (he : ∀ (s : Shared) (H : Hp) (C : Addr) (cl : List (Str × Addr)) (fp : List Addr), PE (X.blk s H scope (compEnvC scope cl C X.env) fp) vx tv) (hs : ∀ x, foldedSetIterable iter X.env x = pure x)
    (hi1 : ∀ (s : Shared) (H : Hp) (C : Addr) (cl : List (Str × Addr)) (fp : List Addr), PI (X.blk s H scope (compEnvC scope cl C X.env) fp) tg1 iter1 wi1)
    (hg1 : ∀ (s : Shared) (H : Hp) (C : Addr) (cl : List (Str × Addr)) (fp : List Addr), PG (X.blk s H scope (compEnvC scope cl C X.env) fp) tg1 g1)
    (ht1 : ∀ (s : Shared) (H : Hp) (C : Addr) (cl : List (Str × Addr)) (fp : List Addr), PTs (X.blk s H scope (compEnvC scope cl C X.env) fp) ifs1 tt1)
    (hs1 : ∀ env x, foldedSetIterable iter1 env x = pure x)
    (h : tDc2 wi g tt wi1 g1 tt1 tk tv (own.map (·.2)) vs1 σ H Q)
    (hRR : ∀ D C s' m H', Inv X pins σ H' s' → Q (.ref D) H' → s'.heap.Ns C m → FpOk X pins H' C → compPost (model X.prog X.w) X.A X.xe use Qf (.ref D) C (.ok .next) s') :
    wpAny (model X.prog X.w) X.A (comprehension (.DictComp kx vx [⟨tg, iter, ifs, 0⟩, ⟨tg1, iter1, ifs1, 0⟩] scope pos) scope X.env pos' newDict false (eval iter X.env) use) Qf X.xe s := by
  have frees : ∀ y ∈ scope.names, y.2 = .free → ∃ c, X.env.cells.lookup y.1 = some c := fun y hy e => by
    rcases ok.free y hy e with k | k
    · exact I.ok.has _ (.inl k)
    · exact I.ok.has _ (.inr k)
  refine wpAny_comprehension_free (use := use) rfl hs (closure_ok frees) ok.kind (fun y hy e => by rw [ok.uniq y hy, e])
    (thn (hi.run pins s σ H _ I h) fun xv sA gx => thn gx fun itv sB gB => ?_)
  obtain ⟨it, fp, tn, J, HB, e, JB, T, atB, fB, q⟩ := gB
  subst e
  refine wpAny_newObj_type (newEnv_comp ?_)
  generalize eD : sB.heap.objs.size = D
  have nD : HB D = none := JB.hok.fresh (Nat.le_of_eq eD)
  obtain ⟨W, ⟨m0, w0⟩, turn⟩ := q D nD
  generalize eSC : ({ sB with heap := sB.heap.push { cls := .type "dict", data := .dict #[] } } : Shared) = sC
  have JC : Inv X pins σ (upd HB D (.dK [])) sC := by
    rw [← eSC]
    refine JB.laid (t' := sB.toks) (fun b o e => Heap.get?_push_of_some _ e) (Nat.le_of_eq eD) ?_
    rw [← eD]
    exact dk_empty sB.heap JB.big
  have gC : sC.heap = sB.heap.push { cls := .type "dict", data := .dict #[] } := by rw [← eSC]
  have lts : ∀ b ∈ fp, b < sB.heap.objs.size := fun b hb => by
    obtain ⟨o, e, _⟩ := T.obj _ _ atB b hb
    exact Heap.lt_size e
  have fC : ∀ b ∈ fp, FpOk X pins (upd HB D (.dK [])) b ∧ b < sC.heap.objs.size := fun b hb => by
    have hlt := lts b hb
    refine ⟨⟨?_, (fB b hb).2⟩, by rw [gC, Heap.size_push]; exact Nat.lt_succ_of_lt hlt⟩
    rw [upd_ne (by rw [← eD]; exact Nat.ne_of_lt hlt)]
    exact (fB b hb).1
  have atC : tn 0 sC.heap := T.keep _ _ _ atB fun b _ o e => by rw [gC]; exact Heap.get?_push_of_some _ e
  have JD := block_start JC ok hN fC
  have rg := hg sC (upd HB D (.dK [])) sC.heap.objs.size (cellsFrom (sC.heap.objs.size + 1) scope.names (cloFrom X.env.cells scope.names [])) fp
  have rt := ht sC (upd HB D (.dK [])) sC.heap.objs.size (cellsFrom (sC.heap.objs.size + 1) scope.names (cloFrom X.env.cells scope.names [])) fp
  have rk := hk sC (upd HB D (.dK [])) sC.heap.objs.size (cellsFrom (sC.heap.objs.size + 1) scope.names (cloFrom X.env.cells scope.names [])) fp
  have rv := he sC (upd HB D (.dK [])) sC.heap.objs.size (cellsFrom (sC.heap.objs.size + 1) scope.names (cloFrom X.env.cells scope.names [])) fp
  have ri1 := hi1 sC (upd HB D (.dK [])) sC.heap.objs.size (cellsFrom (sC.heap.objs.size + 1) scope.names (cloFrom X.env.cells scope.names [])) fp
  have rg1 := hg1 sC (upd HB D (.dK [])) sC.heap.objs.size (cellsFrom (sC.heap.objs.size + 1) scope.names (cloFrom X.env.cells scope.names [])) fp
  have rt1 := ht1 sC (upd HB D (.dK [])) sC.heap.objs.size (cellsFrom (sC.heap.objs.size + 1) scope.names (cloFrom X.env.cells scope.names [])) fp
  show codeAny _ _ (.compStart (.DictComp kx vx [⟨tg, iter, ifs, 0⟩, ⟨tg1, iter1, ifs1, 0⟩] scope pos) 0 (.ref it) (.ref D) (compEnvC scope (cellsFrom (sC.heap.objs.size + 1) scope.names (cloFrom X.env.cells scope.names [])) sC.heap.objs.size X.env)) (compPost (model X.prog X.w) X.A X.xe use Qf (.ref D) sC.heap.objs.size) { sC with heap := pushCells (sC.heap.push { cls := .type "dict", data := .dict #[] }) scope.names }
  have noF : ∀ b ∈ fp, (upd HB D (.dK [])) b = none := fun b hb => (fC b hb).1.1
  generalize eCe : compEnvC scope (cellsFrom (sC.heap.objs.size + 1) scope.names (cloFrom X.env.cells scope.names [])) sC.heap.objs.size X.env = ce at JD rg rt rk rv ri1 rg1 rt1 ⊢
  have eL : ce.locals = sC.heap.objs.size := by subst eCe; rfl
  generalize eHC : upd HB D (.dK []) = HC at JC JD rg rt rk rv ri1 rg1 rt1 w0 noF fC
  generalize eSD : ({ sC with heap := pushCells (sC.heap.push { cls := .type "dict", data := .dict #[] }) scope.names } : Shared) = sD at JD ⊢
  have atD : tn 0 sD.heap := T.keep _ _ _ atC fun b _ o e => by rw [← eSD]; exact pushCells_keeps _ _ _ _ (Heap.get?_push_of_some _ e)
  have still : ∀ {σ' : St} {H' : Hp} {s' : Shared}, Inv (X.blk sC HC scope ce fp) [] σ' H' s' → (∀ b ∈ fp, H' b = none) → ∀ b ∈ fp, FpOk (X.blk sC HC scope ce fp) [] H' b := fun {σ' H' s'} J' nsn b hb =>
    ⟨nsn b hb, (J'.ok.exf b hb).1, J'.ok.exfs b hb, .inl hb, fun x c e => (J'.ok.exf b hb).2 x c e, fun p hp => absurd (show p ∈ ([] : List (Addr × Obj)) ++ [] from hp) (by simp)⟩
  have loop : codeAny (model X.prog X.w) X.A (.compLoop (.DictComp kx vx [⟨tg, iter, ifs, 0⟩, ⟨tg1, iter1, ifs1, 0⟩] scope pos) 0 (.ref it) (.ref D) ce) (compPost (model X.prog X.w) X.A X.xe use Qf (.ref D) sC.heap.objs.size) sD := by
    refine loop2D_out (hs1 ce) (fun n s' => ∃ i H', Inv (X.blk sC HC scope ce fp) [] (wipe σ (own.map (·.2))) H' s' ∧ tn i s'.heap ∧ (∀ b ∈ fp, H' b = none) ∧ W i n H') ?_ m0 ⟨0, HC, JD, atD, noF, w0⟩
    rintro n sE ⟨i, HE, JE, atE, n5, w5⟩
    rcases turn i n HE w5 with ⟨stop, qq⟩ | ⟨go, Nx, hNx, step⟩
    · have endd := T.done (X.blk sC HC scope ce fp) rfl rfl rfl hc i [] sE _ HE (fun _ _ => False) JE (still JE n5) atE stop
      refine thnF endd fun r sF ⟨hr, JF⟩ => ?_
      subst hr
      have JG : Inv X pins σ HE sF := JC.call' (ch := fp) JF.os JF.base JF.hok JF.bare fun b hb => ⟨(fC b hb).1.2.2.2.1, (fC b hb).1.2.1, (fC b hb).1.2.2.2.2.1, (fC b hb).1.2.2.2.2.2⟩
      have noC : HE sC.heap.objs.size = none := by
        have z : HE ce.locals = none := JF.free
        rw [eL] at z
        exact z
      obtain ⟨m, nsn, _⟩ := JF.loc
      have nsn : sF.heap.Ns ce.locals m := nsn
      rw [eL] at nsn
      exact hRR D sC.heap.objs.size sF m HE JG qq nsn (JC.fpOk (Nat.le_refl _) noC)
    · have itm := T.item (X.blk sC HC scope ce fp) rfl rfl rfl hc i [] sE _ HE (fun _ _ => False) JE (still JE n5) atE go
      refine thnF itm fun r sF ⟨u, hr, h6⟩ => ?_
      subst hr
      refine thnF h6 fun _ sG ⟨x, HG, JG, r7, y7, atG, n7⟩ => ?_
      have JG' := JG.pinned (still JG n7) (T.obj _ _ atG)
      refine thnF (rg.run _ sG _ HG x u _ JG' r7 (step x HG y7)) fun _ sH ⟨σ8, HH, JH, hw8, q8⟩ => ?_
      refine thnF (rt.run _ sH σ8 HH _ JH q8) fun b sI ⟨HI, JI, q9⟩ => ?_
      have goOn : ∀ {σ9 : St} {s' : Shared} {H' : Hp}, Inv (X.blk sC HC scope ce fp) ([] ++ pinsAt fp sG.heap) σ9 H' s' → (wipe σ (own.map (·.2))).length = σ9.length → (∀ (j : Nat) v, (wipe σ (own.map (·.2)))[j]? = some (some v) → σ9[j]? = some (some v)) → Nx H' →
          ∃ m, m < n ∧ ∃ i H', Inv (X.blk sC HC scope ce fp) [] (wipe σ (own.map (·.2))) H' s' ∧ tn i s'.heap ∧ (∀ b ∈ fp, H' b = none) ∧ W i m H' := fun {σ9 s' H'} J' hl hk nx => by
        obtain ⟨m', lm, w'⟩ := hNx H' nx
        have pins' : ∀ b ∈ fp, ∀ o, sG.heap.get? b = some o → s'.heap.get? b = some o ∧ H' b = none := fun b hb o e =>
          let z := J'.pin (b, o) (List.mem_append_right _ (List.mem_append_right _ (mem_pinsAt hb e)))
          ⟨z.1, z.2.1⟩
        refine ⟨m', lm, i + 1, H', (J'.unpinned (pins := [])).weak hl hk, T.keep _ _ _ atG fun b hb o e => (pins' b hb o e).1, fun b hb => ?_, w'⟩
        obtain ⟨o, e, _⟩ := T.obj _ _ atG b hb
        exact (pins' b hb o e).2
      have len8 : (wipe σ (own.map (·.2))).length = σ8.length := by rw [← hw8, wipe_length]
      have kn8 : ∀ (j : Nat) v, (wipe σ (own.map (·.2)))[j]? = some (some v) → σ8[j]? = some (some v) := fun j v e => by
        rw [← hw8] at e
        exact (wipe_some e).1
      have kn9 : ∀ (j : Nat) v, (wipe σ (own.map (·.2)))[j]? = some (some v) → (wipe σ8 vs1)[j]? = some (some v) := fun j v e => by
        rw [← hw8] at e
        obtain ⟨e1, e2⟩ := wipe_some e
        rw [wipe_out fun z => e2 (hv j z)]
        exact e1
      cases b with
      | false =>
        simp only [Bool.false_eq_true, if_false] at q9 ⊢
        exact goOn JI len8 kn8 q9
      | true =>
        simp only [if_true] at q9 ⊢
        refine thnF (ri1.run _ sI σ8 HI _ JI q9) fun xv sJ gx => thnF gx fun itv sK h11 => ?_
        obtain ⟨it1, fp1, tn1, J1, HK, e1, JK, T1, atK, f11, W1, ⟨m1, w1⟩, turn1⟩ := h11
        subst e1
        have still1 : ∀ {H' : Hp}, (∀ b ∈ fp1, H' b = none) → ∀ b ∈ fp1, FpOk (X.blk sC HC scope ce fp) ([] ++ pinsAt fp sG.heap) H' b := fun nsn b hb => ⟨nsn b hb, (f11 b hb).2⟩
        have loop1 : codeAny (model X.prog X.w) X.A (.compLoop (.DictComp kx vx [⟨tg, iter, ifs, 0⟩, ⟨tg1, iter1, ifs1, 0⟩] scope pos) 1 (.ref it1) (.ref D) ce)
            (fun r s' => match r with
              | .ok _ => ∃ m, m < n ∧ ∃ i H', Inv (X.blk sC HC scope ce fp) [] (wipe σ (own.map (·.2))) H' s' ∧ tn i s'.heap ∧ (∀ b ∈ fp, H' b = none) ∧ W i m H'
              | .error _ => False) sK := by
          refine loop2D_in (fun k s' => ∃ j H', Inv (X.blk sC HC scope ce fp) ([] ++ pinsAt fp sG.heap) (wipe σ8 vs1) H' s' ∧ tn1 j s'.heap ∧ (∀ b ∈ fp1, H' b = none) ∧ W1 j k H') ?_ m1 ⟨0, HK, JK.weak (wipe_length _ _) (fun j v e => (wipe_some e).1), atK, fun b hb => (f11 b hb).1, w1⟩
          rintro k sL ⟨j, HL, JL, atL, n12, w12⟩
          rcases turn1 j k HL w12 with ⟨stop1, nx1⟩ | ⟨go1, Nx1, hNx1, step1⟩
          · refine thnF (T1.done (X.blk sC HC scope ce fp) rfl rfl rfl hc j _ sL (wipe σ8 vs1) HL (fun _ _ => False) JL (still1 n12) atL stop1) fun r sM ⟨hr, JM⟩ => ?_
            subst hr
            exact goOn JM (len8.trans (wipe_length σ8 vs1).symm) kn9 nx1
          · refine thnF (T1.item (X.blk sC HC scope ce fp) rfl rfl rfl hc j _ sL (wipe σ8 vs1) HL (fun _ _ => False) JL (still1 n12) atL go1) fun r sM ⟨u1, hr, h13⟩ => ?_
            subst hr
            refine thnF h13 fun _ sN ⟨x1, HN, JN, r14, y14, atN, n14⟩ => ?_
            have JN' := JN.pinned (still1 n14) (T1.obj _ _ atN)
            refine thnF (rg1.run _ sN (wipe σ8 vs1) HN x1 u1 _ JN' r14 (step1 x1 HN y14)) fun _ sO ⟨σ15, HO1, JO, hw15, q15⟩ => ?_
            refine thnF (rt1.run _ sO σ15 HO1 _ JO q15) fun b1 sP ⟨HP, JP, q16⟩ => ?_
            have goOn1 : ∀ {s' : Shared} {H' : Hp}, Inv (X.blk sC HC scope ce fp) (([] ++ pinsAt fp sG.heap) ++ pinsAt fp1 sN.heap) σ15 H' s' → Nx1 H' → ∃ m, m < k ∧ ∃ j H', Inv (X.blk sC HC scope ce fp) ([] ++ pinsAt fp sG.heap) (wipe σ8 vs1) H' s' ∧ tn1 j s'.heap ∧ (∀ b ∈ fp1, H' b = none) ∧ W1 j m H' := fun {s' H'} J' nx => by
              obtain ⟨m', lm, w'⟩ := hNx1 H' nx
              have pins' : ∀ b ∈ fp1, ∀ o, sN.heap.get? b = some o → s'.heap.get? b = some o ∧ H' b = none := fun b hb o e =>
                let z := J'.pin (b, o) (List.mem_append_right _ (List.mem_append_right _ (mem_pinsAt hb e)))
                ⟨z.1, z.2.1⟩
              refine ⟨m', lm, j + 1, H', J'.unpinned.weak (by rw [← hw15, wipe_length]) (fun j v e => by rw [← hw15] at e; exact (wipe_some e).1), T1.keep _ _ _ atN fun b hb o e => (pins' b hb o e).1, fun b hb => ?_, w'⟩
              obtain ⟨o, e, _⟩ := T1.obj _ _ atN b hb
              exact (pins' b hb o e).2
            cases b1 with
            | false =>
              simp only [Bool.false_eq_true, if_false] at q16 ⊢
              exact goOn1 JP q16
            | true =>
              simp only [if_true] at q16 ⊢
              refine thnF (rk.run _ sP σ15 HP _ JP q16) fun z sQ ⟨yk, HQ, JQ, r17, q17⟩ => ?_
              refine thnF (rv.run _ sQ σ15 HQ _ JQ q17) fun z2 sR ⟨yv, HR, JR, r18, kvs, k0, ek, hD18, hz18, nx⟩ => ?_
              subst ek
              exact d_dictSet (X := X.blk sC HC scope ce fp) JR hD18 hz18 r17 r18 fun sS JS => goOn1 JS nx
        exact start2D_ok loop1 (T1.self X.A 0 _ _ _ atK loop1)
  exact codeAny_compStart_dict loop (T.self X.A 0 _ _ _ atD loop)
theorem pe_dc2 {kx vx tg iter tg1 iter1 : Expr} {ifs ifs1 : List Expr} {scope : Scope} {own : List (Str × Nat)} {vs1 : List Nat} {pos : Pos} {wi wi1 : TI} {g g1 : TG} {tt tt1 : TT} {tk tv : TE} (hc : X.calm = true) (hN : X.N.Nodup) (hi : PI X tg iter wi) (ok : BlkOk X.N X.env.scope scope own) (hv : ∀ i ∈ vs1, i ∈ own.map (·.2))
    (hg : ∀ (s : Shared) (H : Hp) (C : Addr) (cl : List (Str × Addr)) (fp : List Addr), PG (X.blk s H scope (compEnvC scope cl C X.env) fp) tg g) (ht : ∀ (s : Shared) (H : Hp) (C : Addr) (cl : List (Str × Addr)) (fp : List Addr), PTs (X.blk s H scope (compEnvC scope cl C X.env) fp) ifs tt)
    (hi1 : ∀ (s : Shared) (H : Hp) (C : Addr) (cl : List (Str × Addr)) (fp : List Addr), PI (X.blk s H scope (compEnvC scope cl C X.env) fp) tg1 iter1 wi1)
    (hg1 : ∀ (s : Shared) (H : Hp) (C : Addr) (cl : List (Str × Addr)) (fp : List Addr), PG (X.blk s H scope (compEnvC scope cl C X.env) fp) tg1 g1) (ht1 : ∀ (s : Shared) (H : Hp) (C : Addr) (cl : List (Str × Addr)) (fp : List Addr), PTs (X.blk s H scope (compEnvC scope cl C X.env) fp) ifs1 tt1)
    (hk : ∀ (s : Shared) (H : Hp) (C : Addr) (cl : List (Str × Addr)) (fp : List Addr), PE (X.blk s H scope (compEnvC scope cl C X.env) fp) kx tk)
    (he : ∀ (s : Shared) (H : Hp) (C : Addr) (cl : List (Str × Addr)) (fp : List Addr), PE (X.blk s H scope (compEnvC scope cl C X.env) fp) vx tv) (hs : ∀ x, foldedSetIterable iter X.env x = pure x := by intro _; rfl) (hs1 : ∀ env x, foldedSetIterable iter1 env x = pure x := by intro _ _; rfl) :
    PE X (.DictComp kx vx [⟨tg, iter, ifs, 0⟩, ⟨tg1, iter1, ifs1, 0⟩] scope pos) (tDc2 wi g tt wi1 g1 tt1 tk tv (own.map (·.2)) vs1) := by
  refine ⟨fun pins s σ H Q I h => ?_⟩
  rw [arm_eval_DictComp]
  refine dc2_core hc hN I hi ok hv hg ht hk he hs hi1 hg1 ht1 hs1 h fun D C s' m H' J' q nsn f => ⟨m, nsn, fun h'' sb => ?_⟩
  obtain ⟨f0, f1, fB, fC, f4, f5⟩ := f
  exact ⟨.ref D, H', J'.turned (t' := s'.toks) (fun b o hb e => (sb.2 b hb).trans e) f0 f1 fC f4 f5, rfl, q⟩
end
end L2
/-! M37: dict comprehensions of two clauses over data. -/
namespace M
open PySem PySem.Spec PyProof.Rows L2
section
variable {G : Gc} {X : Cx} {F F' F1 F2 F5 : Addr → Prop} {H H' H1 H2 H5 : Hp} {σ σ' σ2 σ5 : L2.St} {ρ ρ' ρ1 ρ2 ρ5 : Sl} {fp fp' fp1 fp2 fp5 fr : List Addr} {v : V} {y d : D} {q : Addr} {ks : List Key} {xs : List D} {us : List V}
  {wk we : WE} {pos : Pos}
theorem DpS.sub {u : HO} (z : DpS G F1 H1 fp1 q u F H σ ρ fp) (ok : Ok G F H σ' ρ' fp') (h : ∀ a ∈ fp', a ∈ fp) : DpS G F1 H1 fp1 q u F H σ' ρ' fp' := by
  refine ⟨z.st.less fun a w => ?_, ok, z.eq, z.nF, fun w => z.nf (h q w)⟩
  rcases List.mem_cons.mp w with w | w
  · exact w ▸ List.mem_cons_self
  · exact List.mem_cons_of_mem _ (h a w)
/-- the dict that a comprehension builds -/
structure DcS (G : Gc) (F1 : Addr → Prop) (H1 : Hp) (fp1 : List Addr) (q : Addr) (F : Addr → Prop) (H : Hp) (σ : L2.St) (ρ : Sl) (fp : List Addr) (ks : List Key) (xs : List D) (us : List V) : Prop where
  at_ : DpS G F1 H1 fp1 q (.dK (ks.zip us)) F H σ ρ fp
  ll : ks.length = us.length
  rl : RpL G.K G.ca F H us xs []
theorem DcS.step (z : DcS G F1 H1 fp1 q F2 H2 σ2 ρ2 fp2 ks xs us) (hq : H1 q = none) (s : Step G.ca.tb F2 H2 fp2 F5 H5 fp5) (ok : Ok G F5 H5 σ5 ρ5 fp5) : DcS G F1 H1 fp1 q F5 H5 σ5 ρ5 fp5 ks xs us :=
  ⟨z.at_.step hq trivial s ok, z.ll, z.rl.step s z.at_.ok.nf fun a w => nomatch w⟩
theorem DcS.sub (z : DcS G F1 H1 fp1 q F H σ ρ fp ks xs us) (ok : Ok G F H σ' ρ' fp') (h : ∀ a ∈ fp', a ∈ fp) : DcS G F1 H1 fp1 q F H σ' ρ' fp' ks xs us := ⟨z.at_.sub ok h, z.ll, z.rl⟩
theorem DcS.push {k : Key} (z : DcS G F1 H1 fp1 q F H σ ρ fp ks xs us) (hq : H1 q = none) (h0 : G.H0 q = none) (rp : Rp G.K G.ca F H v y []) : DcS G F1 H1 fp1 q F (upd H q (.dK (L2.putK (ks.zip us) k v))) σ ρ fp (putKs ks k) (putXs ks xs k y) (putXs ks us k v) where
  at_ := by
    rw [putK_zip z.ll]
    exact z.at_.put hq h0 trivial trivial
  ll := putK_len z.ll
  rl := (z.rl.putXs rp).mut z.at_.eq trivial z.at_.nF
/-- {k: e for g in i if t for g1 in i1 if t1} -/
def wDc2 (wi : WI) (g : WG) (wt : WT) (wi1 : WI) (g1 : WG) (wt1 : WT) (wk we : WE) (vs vs1 : List Nat) : WE := fun ρ Q => wi ρ fun ds ρ1 => ∃ I : Nat → List Key → List D → Sl → Prop, I 0 [] [] (wip ρ1 vs) ∧
  (∀ i d ks xs ρ, ds[i]? = some d → I i ks xs ρ → g d ρ fun ρ2 => wt ρ2 fun b ρ3 => if b = true then wi1 ρ3 fun es ρ4 => ∃ J : Nat → List Key → List D → Sl → Prop, J 0 ks xs (wip ρ4 vs1) ∧
      (∀ j e ks xs ρ, es[j]? = some e → J j ks xs ρ → g1 e ρ fun ρ5 => wt1 ρ5 fun b ρ6 => if b = true then wk ρ6 fun x ρ7 => we ρ7 fun r ρ8 => ∃ k y ρ9, keyOf x = some k ∧ fzR ρ8 r = some (y, ρ9) ∧ ks.length < sizeLine ∧ J (j + 1) (putKs ks k) (putXs ks xs k y) (wip ρ9 vs1) else J (j + 1) ks xs (wip ρ6 vs1)) ∧
      ∀ ks xs ρ, J es.length ks xs ρ → I (i + 1) ks xs (wip ρ vs)
    else I (i + 1) ks xs (wip ρ3 vs)) ∧
  ∀ ks xs ρ, I ds.length ks xs ρ → Q (.dct true ks xs) (rst ρ1 ρ vs)
end
section
variable {G : Gc} {X : Cx} {wk we : WE} {pos : Pos}
theorem le_dc2 {wi wi1 : WI} {g g1 : WG} {S S1 : List Nat} {wt wt1 : WT} {vs vs1 : List Nat} (hS : ∀ j ∈ S, j ∈ vs) (hS1 : ∀ j ∈ S1, j ∈ vs1) (hv : ∀ j ∈ vs1, j ∈ vs) (hpm : ∀ p ∈ G.pm, p.1 ∉ vs) :
    ∀ σ H Q, LE G (wDc2 wi g wt wi1 g1 wt1 wk we vs vs1) σ H Q → tDc2 (LW G wi) (LG G g S) (LT G wt) (LW G wi1) (LG G g1 S1) (LT G wt1) (LE G wk) (LE G we) vs vs1 σ H Q := fun σ H Q q => by
  obtain ⟨F, ρ, fp, Qd, ok, h, k⟩ := q
  have hpm1 : ∀ p ∈ G.pm, p.1 ∉ vs1 := fun p hp c => hpm p hp (hv _ c)
  refine ⟨F, ρ, fp, _, ok, h, fun Jt H1 F1 ρ1 fp1 ds en it q => ?_⟩
  obtain ⟨I, i0, turn, done⟩ := q
  intro q hq
  have h0 : G.H0 q = none := en.ok.rch.none_of hq
  have off0 : Off vs σ (wipe σ vs) := ⟨by rw [wipe_length], fun j hj => wipe_off σ hj⟩
  refine ⟨fun i m H' => m = ds.length - i ∧ i ≤ ds.length ∧ ∃ F' ρ' fp' ks xs us, DcS G F1 H1 fp1 q F' H' σ (wip ρ' vs) fp' ks xs us ∧ I i ks xs (wip ρ' vs), ?_, ?_⟩
  · obtain ⟨fp2, ok2, sub⟩ := en.ok.wip vs
    have nn := en.ok.not_none hq
    refine ⟨_, rfl, Nat.zero_le _, F1, ρ1, fp2, [], [], [], ⟨⟨(En.own (o := .dK []) en.ok hq).st.less fun a z => ?_, ok2.new hq, upd_same, nn.1, fun z => nn.2 (sub q z)⟩, rfl, .nil⟩, i0⟩
    rcases List.mem_cons.mp z with z | z
    · simp [z]
    · simp [sub a z]
  · rintro i m H2 ⟨rfl, hi, F2, ρ2, fp2, ks, xs, us, z, inv⟩
    have sz : Step G.ca.tb F1 H1 fp1 F2 H2 fp2 := z.at_.st.less fun a w => List.mem_cons_of_mem _ w
    by_cases hlt : i < ds.length
    · obtain ⟨go, yl⟩ := it.go i ds[i] F2 H2 σ (wip ρ2 vs) fp2 _ _ en.ok.nf sz z.at_.ok (by simp [hlt])
      refine .inr ⟨go, fun H' => ∃ F' ρ' fp' ks xs us, DcS G F1 H1 fp1 q F' H' σ (wip ρ' vs) fp' ks xs us ∧ I (i + 1) ks xs (wip ρ' vs), fun H' w => ⟨_, by omega, rfl, hlt, w⟩, fun x H3 y => ?_⟩
      obtain ⟨F3, en3, rp⟩ := yl x H3 y
      refine ⟨F3, wip ρ2 vs, fp2, ds[i], [], _, en3.ok.off off0 hpm, .inl rp, ⟨by simpa using en3.ok.nd, fun a z => nomatch z⟩, turn i ds[i] ks xs (wip ρ2 vs) (by simp [hlt]) inv, fun σ4 H4 F4 ρ4 fp4 s4 ok4 of4 q4 => ?_⟩
      refine ⟨by rw [wipe_eq of4 hS, wipe_wipe], F4, ρ4, fp4, _, ok4, q4, fun b H5 F5 ρ5 fp5 en5 q5 => ?_⟩
      have back : Off vs σ4 σ := ⟨by rw [of4.len, wipe_length], fun j hj => by rw [of4.at_ j fun w => hj (hS j w), wipe_off σ hj]⟩
      have z5 : DcS G F1 H1 fp1 q F5 H5 σ4 ρ5 fp5 ks xs us := z.step hq ((en3.st0.trans s4).trans en5.st0) en5.ok
      cases b with
      | false =>
        obtain ⟨fp6, ok6, sub6⟩ := en5.ok.wip vs
        exact ⟨F5, ρ5, fp6, ks, xs, us, z5.sub (ok6.off back hpm) sub6, q5⟩
      | true =>
        refine ⟨F5, ρ5, fp5, _, en5.ok, q5, fun J1 H6 F6 ρ6 fp6 es en6 it6 q6 => ?_⟩
        obtain ⟨J, j0, turn1, done1⟩ := q6
        have z6 := z5.step hq en6.st0 en6.ok
        have nf6 : ∀ a ∈ q :: fp6, ¬ F6 a := fun a w => by
          rcases List.mem_cons.mp w with w | w
          · rw [w]; exact z6.at_.nF
          · exact en6.ok.nf a w
        have own6 : ∀ o, H6 q = some o → q ∈ q :: fp6 ∧ MutK o := fun o e => by
          rw [z6.at_.eq] at e
          cases e
          exact ⟨List.mem_cons_self, trivial⟩
        have off4 : Off vs1 σ4 (wipe σ4 vs1) := ⟨by rw [wipe_length], fun j hj => wipe_off σ4 hj⟩
        refine ⟨fun j m H' => m = es.length - j ∧ j ≤ es.length ∧ ∃ F' ρ' fp' ks xs us, DcS G F1 H1 fp1 q F' H' σ4 (wip ρ' vs1) fp' ks xs us ∧ Step G.ca.tb F6 H6 (q :: fp6) F' H' (q :: fp') ∧ J j ks xs (wip ρ' vs1), ?_, ?_⟩
        · obtain ⟨fp7, ok7, sub7⟩ := en6.ok.wip vs1
          refine ⟨_, rfl, Nat.zero_le _, F6, ρ6, fp7, ks, xs, us, z6.sub ok7 sub7, Step.refl.less fun a w => ?_, j0⟩
          rcases List.mem_cons.mp w with w | w
          · exact w ▸ List.mem_cons_self
          · exact List.mem_cons_of_mem _ (sub7 a w)
        · rintro j m H7 ⟨rfl, hj, F7, ρ7, fp7, ks7, xs7, us7, z7, s7, inv7⟩
          by_cases hlt7 : j < es.length
          · obtain ⟨go7, yl7⟩ := it6.go j es[j] F7 H7 σ4 (wip ρ7 vs1) fp7 _ _ nf6 s7 z7.at_.ok (by simp [hlt7])
            refine .inr ⟨go7, fun H' => ∃ F' ρ' fp' ks xs us, DcS G F1 H1 fp1 q F' H' σ4 (wip ρ' vs1) fp' ks xs us ∧ Step G.ca.tb F6 H6 (q :: fp6) F' H' (q :: fp') ∧ J (j + 1) ks xs (wip ρ' vs1), fun H' w => ⟨_, by omega, rfl, hlt7, w⟩, fun x H8 y8 => ?_⟩
            obtain ⟨F8, en8, rp8⟩ := yl7 x H8 y8
            refine ⟨F8, wip ρ7 vs1, fp7, es[j], [], _, en8.ok.off off4 hpm1, .inl rp8, ⟨by simpa using en8.ok.nd, fun a z => nomatch z⟩, turn1 j es[j] ks7 xs7 (wip ρ7 vs1) (by simp [hlt7]) inv7, fun σ9 H9 F9 ρ9 fp9 s9 ok9 of9 q9 => ?_⟩
            refine ⟨by rw [wipe_eq of9 hS1, wipe_wipe], F9, ρ9, fp9, _, ok9, q9, fun b HA FA ρA fpA enA qA => ?_⟩
            have back9 : Off vs1 σ9 σ4 := ⟨by rw [of9.len, wipe_length], fun i hi => by rw [of9.at_ i fun w => hi (hS1 i w), wipe_off σ4 hi]⟩
            have sA : Step G.ca.tb F7 H7 fp7 FA HA fpA := (en8.st0.trans s9).trans enA.st0
            have zA : DcS G F1 H1 fp1 q FA HA σ9 ρA fpA ks7 xs7 us7 := z7.step hq sA enA.ok
            cases b with
            | false =>
              obtain ⟨fpB, okB, subB⟩ := enA.ok.wip vs1
              refine ⟨FA, ρA, fpB, ks7, xs7, us7, zA.sub (okB.off back9 hpm1) subB, (s7.trans (sA.frame [q])).less fun a w => ?_, qA⟩
              rcases List.mem_cons.mp w with w | w
              · exact w ▸ List.mem_cons_self
              · exact List.mem_cons_of_mem _ (subB a w)
            | true =>
              refine ⟨FA, ρA, fpA, _, enA.ok, qA, fun vk HK FK ρK fpK rk frK enK rrK qK => ?_⟩
              refine ⟨FK, ρK, fpK, _, enK.ok, qK, fun v HB FB ρB fpB r frB enB rrB qB => ?_⟩
              obtain ⟨kk, y, ρC, ek, eC, lC, qC⟩ := qB
              obtain ⟨rfl, rfl⟩ := rrK.key ek
              obtain ⟨FC, fpC, shC, rpC⟩ := rrB.share enB.ok enB.nd (enB.hr enK.ok) eC
              have sC : Step G.ca.tb F7 H7 fp7 FC HB fpC := sA.trans (enK.st0.trans (enB.st.trans shC.step))
              have zC : DcS G F1 H1 fp1 q FC HB σ9 ρC fpC ks7 xs7 us7 := z7.step hq sC shC.ok
              obtain ⟨fpD, okD, subD⟩ := shC.ok.wip vs1
              have zD := zC.sub (okD.off back9 hpm1) subD
              refine ⟨_, kk, rfl, zC.at_.eq, by rw [List.length_zip]; omega, FC, ρC, fpD, putKs ks7 kk, putXs ks7 xs7 kk y, putXs ks7 us7 kk v, zD.push hq h0 rpC, ?_, qC⟩
              refine ((s7.trans (sC.frame [q])).put zC.at_.eq own6).less fun a w => ?_
              rcases List.mem_cons.mp w with w | w
              · exact w ▸ List.mem_cons_self
              · exact List.mem_cons_of_mem _ (subD a w)
          · obtain rfl : j = es.length := by omega
            refine .inl ⟨it6.stop F7 H7 σ4 (wip ρ7 vs1) fp7 _ _ nf6 s7 z7.at_.ok, ?_⟩
            obtain ⟨fp8, ok8, sub8⟩ := z7.at_.ok.wip vs
            exact ⟨F7, wip ρ7 vs1, fp8, ks7, xs7, us7, z7.sub (ok8.off back hpm) sub8, done1 ks7 xs7 (wip ρ7 vs1) inv7⟩
    · obtain rfl : i = ds.length := by omega
      refine .inl ⟨it.stop F2 H2 σ (wip ρ2 vs) fp2 _ _ en.ok.nf sz z.at_.ok, ?_⟩
      obtain ⟨fp3, ok3, sub3⟩ := Ok.rst en.ok sz z.at_.ok vs hpm
      refine k (.ref q) H2 F2 (rst ρ1 (wip ρ2 vs) vs) fp3 (.dct true ks xs) [q] ⟨en.st0.trans (z.at_.st.less fun a w => ?_), ok3, nodup_of (by simp) ok3.nd fun a w c => z.at_.nf (by rw [← List.mem_singleton.mp w]; exact sub3 a c)⟩ (.inl (.dow z.at_.eq z.at_.nF z.ll z.rl)) (done ks xs _ inv)
      rcases List.mem_append.mp w with w | w
      · simp [List.mem_singleton.mp w]
      · simp [sub3 a w]
theorem d_dc2 {kx vx tg iter tg1 iter1 : Expr} {ifs ifs1 : List Expr} {scope : Scope} {own : List (Str × Nat)} {wi wi1 : WI} {g g1 : WG} {S S1 vs1 : List Nat} {wt wt1 : WT} (hc : X.calm = true) (hN : X.N.Nodup) (hi : PI X tg iter (LW G wi)) (ok : BlkOk X.N X.env.scope scope own) (hv : ∀ i ∈ vs1, i ∈ own.map (·.2))
    (hg : ∀ (s : Shared) (H : Hp) (C : Addr) (cl : List (Str × Addr)) (fp : List Addr), PG (X.blk s H scope (compEnvC scope cl C X.env) fp) tg (LG G g S)) (ht : ∀ (s : Shared) (H : Hp) (C : Addr) (cl : List (Str × Addr)) (fp : List Addr), PTs (X.blk s H scope (compEnvC scope cl C X.env) fp) ifs (LT G wt))
    (hi1 : ∀ (s : Shared) (H : Hp) (C : Addr) (cl : List (Str × Addr)) (fp : List Addr), PI (X.blk s H scope (compEnvC scope cl C X.env) fp) tg1 iter1 (LW G wi1))
    (hg1 : ∀ (s : Shared) (H : Hp) (C : Addr) (cl : List (Str × Addr)) (fp : List Addr), PG (X.blk s H scope (compEnvC scope cl C X.env) fp) tg1 (LG G g1 S1)) (ht1 : ∀ (s : Shared) (H : Hp) (C : Addr) (cl : List (Str × Addr)) (fp : List Addr), PTs (X.blk s H scope (compEnvC scope cl C X.env) fp) ifs1 (LT G wt1))
    (hk : ∀ (s : Shared) (H : Hp) (C : Addr) (cl : List (Str × Addr)) (fp : List Addr), PE (X.blk s H scope (compEnvC scope cl C X.env) fp) kx (LE G wk))
    (he : ∀ (s : Shared) (H : Hp) (C : Addr) (cl : List (Str × Addr)) (fp : List Addr), PE (X.blk s H scope (compEnvC scope cl C X.env) fp) vx (LE G we)) (hS : ∀ j ∈ S, j ∈ own.map (·.2)) (hS1 : ∀ j ∈ S1, j ∈ vs1) (hpm : ∀ p ∈ G.pm, p.1 ∉ own.map (·.2))
    (hs : ∀ x, foldedSetIterable iter X.env x = pure x := by intro _; rfl) (hs1 : ∀ env x, foldedSetIterable iter1 env x = pure x := by intro _ _; rfl) :
    PE X (.DictComp kx vx [⟨tg, iter, ifs, 0⟩, ⟨tg1, iter1, ifs1, 0⟩] scope pos) (LE G (wDc2 wi g wt wi1 g1 wt1 wk we (own.map (·.2)) vs1)) := imE (pe_dc2 hc hN hi ok hv hg ht hi1 hg1 ht1 hk he hs hs1) (le_dc2 hS hS1 hv hpm)
end
end M
/-! M38: try whose suite raises nothing. -/
namespace M
open PySem PySem.Spec PyProof.Rows L2
section
variable {G : Gc} {X : Cx} {body : List Stmt} {h : ExceptHandler} {hs : List ExceptHandler} {w : WS} {pos : Pos}
theorem ds_try0 (hb : PSs X.nox body (LS G w)) : PS X (.Try body (h :: hs) [] [] pos) (LS G w) := ps_try_thru0 hb
end
end M
/-! MV: step lemmas for M32..M38. -/
namespace M
open PySem PySem.Spec PyProof.Rows L2
section
variable {ρ ρ1 ρ2 : Sl} {K : D → Sl → Prop} {Q : D → Sl → Prop} {x y d : D} {a b z : Str} {n i : Nat} {A : Prop}
theorem i_sortI {bo : Bool} {l : List Int} (h : pk ρ x = some (.lst bo (l.map D.int))) (q : K (.lst true ((upI l).map .int)) ρ) : nSortI ρ [x] K := ⟨x, bo, _, l, rfl, h, intsD_map l, q⟩
theorem i_isD {o : Bool} {ks : List Key} {xs : List D} (h : pk ρ x = some (.dct o ks xs)) (q : A) : (∃ o ks xs, pk ρ x = some (.dct o ks xs)) ∧ A := ⟨⟨o, ks, xs, h⟩, q⟩
/-- two texts exchanged -/
def ex2 (a b s : Str) : Str := if s = a then b else if s = b then a else s
theorem i_dget2 {o : Bool} (h : pk ρ x = some (.dct o [.inr a, .inr b] [.str b, .str a])) (q : K (.str (ex2 a b z)) ρ) : nDGet2 ρ [x, .str z, .str z] K := by
  refine ⟨x, _, _, o, _, _, .inr z, rfl, h, rfl, ?_⟩
  unfold ex2 at q
  by_cases h1 : z = a
  · subst h1
    rw [if_pos rfl] at q
    refine .inl ⟨_, ?_, q⟩
    show (if (Sum.inr z : Key) = .inr z then some (D.str b) else _) = _
    rw [if_pos rfl]
  · rw [if_neg h1] at q
    have n1 : ¬ (Sum.inr a : Key) = .inr z := fun e => h1 (Sum.inr.inj e).symm
    by_cases h2 : z = b
    · subst h2
      rw [if_pos rfl] at q
      refine .inl ⟨_, ?_, q⟩
      show (if (Sum.inr a : Key) = .inr z then some (D.str z) else if (Sum.inr z : Key) = .inr z then some (D.str a) else _) = _
      rw [if_neg n1, if_pos rfl]
    · rw [if_neg h2] at q
      have n2 : ¬ (Sum.inr b : Key) = .inr z := fun e => h2 (Sum.inr.inj e).symm
      refine .inr ⟨?_, q⟩
      show (if (Sum.inr a : Key) = .inr z then some (D.str b) else if (Sum.inr b : Key) = .inr z then some (D.str a) else none) = none
      rw [if_neg n1, if_neg n2]
theorem mrgD_S {f : Str → D} : ∀ {m l : List Str}, (l ++ m).Nodup → mrgD (kS l, l.map f) ((kS m).zip (m.map f)) = (kS (l ++ m), (l ++ m).map f)
  | [], l, _ => by simp [mrgD]
  | x :: m, l, h => by
    have hx : x ∉ l := fun z => (List.nodup_append.mp h).2.2 x z x List.mem_cons_self rfl
    show mrgD (putKs (kS l) (.inr x), putXs (kS l) (l.map f) (.inr x) (f x)) ((kS m).zip (m.map f)) = _
    rw [putKs_N hx, putXs_N hx, mrgD_S (by simpa using h)]
    simp
theorem i_dupd {l m : List Str} {f : Str → D} (h : ρ[i]? = some (some (.dct true (kS l) (l.map f)))) (nd : (l ++ m).Nodup) (hz : l.length + m.length ≤ 16000000) (q : K .non (ρ.set i (some (.dct true (kS (l ++ m)) ((l ++ m).map f))))) : nDUpd ρ [.sl i, .dct true (kS m) (m.map f)] K := by
  refine ⟨i, _, _, _, _, rfl, h, by rw [List.length_map, List.length_map]; exact Nat.le_trans hz (by decide), ?_⟩
  rw [mrgD_S nd]
  exact q
theorem i_disp2 {i j : Nat} (h1 : ρ[i]? = some (some (.str a))) (h2 : ρ[j]? = some (some (.str b))) (ne : a ≠ b) (q : Q (.dct true [.inr a, .inr b] [.str b, .str a]) ρ) : wDisp [(wVar i, wVar j), (wVar j, wVar i)] ρ Q := by
  have ne1 : ¬ (Sum.inr a : Key) = .inr b := fun e => ne (Sum.inr.inj e)
  refine ⟨_, h1, _, h2, .inr a, .str b, ρ, rfl, rfl, ⟨_, h2, _, h1, .inr b, .str a, ρ, rfl, rfl, (show 2 ≤ 15 by decide), ?_⟩⟩
  have e : mrgD (([] : List Key), ([] : List D)) [((Sum.inr a : Key), D.str b), (Sum.inr b, D.str a)] = ([Sum.inr a, Sum.inr b], [D.str b, D.str a]) := by
    show (putKs [Sum.inr a] (Sum.inr b), putXs [(Sum.inr a : Key)] [D.str b] (Sum.inr b) (D.str a)) = _
    unfold putKs putXs hasK
    simp [ne]
  rw [e]
  exact q
theorem itmD_S {l : List Str} {f : Str → D} : itmD (kS l) (l.map f) = l.map fun s => .tpo [.str s, f s] := by
  unfold itmD
  induction l with
  | nil => rfl
  | cons s l ih =>
    show _ :: _ = _ :: _
    rw [← ih]
    rfl
theorem i_itm {l : List Str} {f : Str → D} {K : List D → Sl → Prop} (h : ρ[i]? = some (some (.dct false (kS l) (l.map f)))) (q : K (l.map fun s => .tpo [.str s, f s]) ρ) : wiItm i ρ K := ⟨_, _, h, by rw [List.length_map, List.length_map], by rw [itmD_S]; exact q⟩
/-- {x: f x for ..}, the walk's items made of texts -/
theorem i_dcE {g : WG} {wk we : WE} {vs : List Nat} {ds : List D} (l : List Str) (e : Str → D) (f : Str → D) (hds : ds = l.map e) (nd : l.Nodup) (hz : l.length ≤ 1000)
    (hb : ∀ a ∈ l, ∀ P : Key → D → Sl → Prop, P (.inr a) (f a) (wip ρ1 vs) → g (e a) (wip ρ1 vs) fun ρ2 => wk ρ2 fun x ρ4 => we ρ4 fun r ρ5 => ∃ k y ρ6, keyOf x = some k ∧ fzR ρ5 r = some (y, ρ6) ∧ P k y (wip ρ6 vs)) (q : Q (.dct true (kS l) (l.map f)) (rst ρ1 (wip ρ1 vs) vs)) : dcK g wYes wk we vs ds ρ1 Q :=
  i_dcG l e (fun x => .inr x) f hds hz hb (by
    rw [show (([] : List Key), ([] : List D)) = (kS [], [].map f) from rfl, dfold_S (by simpa using nd)]
    simpa using q)
def dc2K (g : WG) (wt : WT) (wi1 : WI) (g1 : WG) (wt1 : WT) (wk we : WE) (vs vs1 : List Nat) (ds : List D) (ρ1 : Sl) (Q : D → Sl → Prop) : Prop := ∃ I : Nat → List Key → List D → Sl → Prop, I 0 [] [] (wip ρ1 vs) ∧
  (∀ i d ks xs ρ, ds[i]? = some d → I i ks xs ρ → g d ρ fun ρ2 => wt ρ2 fun b ρ3 => if b = true then wi1 ρ3 fun es ρ4 => ∃ J : Nat → List Key → List D → Sl → Prop, J 0 ks xs (wip ρ4 vs1) ∧
      (∀ j e ks xs ρ, es[j]? = some e → J j ks xs ρ → g1 e ρ fun ρ5 => wt1 ρ5 fun b ρ6 => if b = true then wk ρ6 fun x ρ7 => we ρ7 fun r ρ8 => ∃ k y ρ9, keyOf x = some k ∧ fzR ρ8 r = some (y, ρ9) ∧ ks.length < sizeLine ∧ J (j + 1) (putKs ks k) (putXs ks xs k y) (wip ρ9 vs1) else J (j + 1) ks xs (wip ρ6 vs1)) ∧
      ∀ ks xs ρ, J es.length ks xs ρ → I (i + 1) ks xs (wip ρ vs)
    else I (i + 1) ks xs (wip ρ3 vs)) ∧
  ∀ ks xs ρ, I ds.length ks xs ρ → Q (.dct true ks xs) (rst ρ1 ρ vs)
theorem i_dc20 {wi wi1 : WI} {g g1 : WG} {wt wt1 : WT} {wk we : WE} {vs vs1 : List Nat} (h : wi ρ fun ds ρ1 => dc2K g wt wi1 g1 wt1 wk we vs vs1 ds ρ1 Q) : wDc2 wi g wt wi1 g1 wt1 wk we vs vs1 ρ Q := h
/-- {x: f x for a in gs for x in inner a}, all x different -/
theorem i_dc2S {α : Type} {wi1 : WI} {g g1 : WG} {wk we : WE} {vs vs1 : List Nat} {ds : List D} (gs : List α) (e : α → D) (inner : α → List Str) (f : Str → D) (ρi : α → Sl) (hds : ds = gs.map e) (nd : (gs.flatMap inner).Nodup) (hz : (gs.flatMap inner).length ≤ 1000)
    (ho : ∀ a ∈ gs, ∀ P : List D → Sl → Prop, P ((inner a).map D.str) (ρi a) → g (e a) (wip ρ1 vs) fun ρ2 => wi1 ρ2 P) (hv : ∀ a ∈ gs, wip (wip (ρi a) vs1) vs = wip ρ1 vs)
    (hb : ∀ a ∈ gs, ∀ s ∈ inner a, ∀ P : Key → D → Sl → Prop, P (.inr s) (f s) (wip (ρi a) vs1) → g1 (.str s) (wip (ρi a) vs1) fun ρ5 => wk ρ5 fun x ρ7 => we ρ7 fun r ρ8 => ∃ k y ρ9, keyOf x = some k ∧ fzR ρ8 r = some (y, ρ9) ∧ P k y (wip ρ9 vs1))
    (q : Q (.dct true (kS (gs.flatMap inner)) ((gs.flatMap inner).map f)) (rst ρ1 (wip ρ1 vs) vs)) : dc2K g wYes wi1 g1 wYes wk we vs vs1 ds ρ1 Q := by
  subst hds
  refine ⟨fun i ks xs ρ => ρ = wip ρ1 vs ∧ ks = kS ((gs.take i).flatMap inner) ∧ xs = ((gs.take i).flatMap inner).map f, ⟨rfl, rfl, rfl⟩, ?_, ?_⟩
  · rintro i d ks xs ρ hd ⟨rfl, rfl, rfl⟩
    rw [List.getElem?_map] at hd
    obtain ⟨a, ha, rfl⟩ := Option.map_eq_some_iff.mp hd
    have hm := List.mem_of_getElem? ha
    have tk : gs.take (i + 1) = gs.take i ++ [a] := by rw [List.take_add_one, ha]; rfl
    have nd1 : ((gs.take i).flatMap inner ++ inner a).Nodup := by
      have e1 : gs.flatMap inner = (gs.take (i + 1)).flatMap inner ++ (gs.drop (i + 1)).flatMap inner := by rw [← List.flatMap_append, List.take_append_drop]
      rw [e1] at nd
      have := (List.nodup_append.mp nd).1
      rw [tk, List.flatMap_append] at this
      simpa using this
    have lz : ((gs.take i).flatMap inner ++ inner a).length ≤ 1000 := by
      have e1 : gs.flatMap inner = (gs.take (i + 1)).flatMap inner ++ (gs.drop (i + 1)).flatMap inner := by rw [← List.flatMap_append, List.take_append_drop]
      have e2 : (gs.take (i + 1)).flatMap inner = (gs.take i).flatMap inner ++ inner a := by rw [tk, List.flatMap_append]; simp
      rw [e1, e2, List.length_append] at hz
      omega
    refine ho a hm _ ⟨fun j ks xs ρ => ρ = wip (ρi a) vs1 ∧ ks = kS ((gs.take i).flatMap inner ++ (inner a).take j) ∧ xs = ((gs.take i).flatMap inner ++ (inner a).take j).map f, ⟨rfl, by simp, by simp⟩, ?_, ?_⟩
    · rintro j e' ks xs ρ he ⟨rfl, rfl, rfl⟩
      rw [List.getElem?_map] at he
      obtain ⟨s, hs, rfl⟩ := Option.map_eq_some_iff.mp he
      have tk2 : (inner a).take (j + 1) = (inner a).take j ++ [s] := by rw [List.take_add_one, hs]; rfl
      have fresh : s ∉ (gs.take i).flatMap inner ++ (inner a).take j := by
        have e1 : (gs.take i).flatMap inner ++ inner a = ((gs.take i).flatMap inner ++ (inner a).take j) ++ [s] ++ (inner a).drop (j + 1) := by
          rw [List.append_assoc, List.append_assoc, ← List.append_assoc ((inner a).take j), ← tk2, List.take_append_drop]
        rw [e1] at nd1
        have := (List.nodup_append.mp (List.nodup_append.mp nd1).1).2.2
        intro c
        exact this s c s (List.mem_singleton_self s) rfl
      have lz2 : ((gs.take i).flatMap inner ++ (inner a).take j).length ≤ 1000 := by
        rw [List.length_append] at lz ⊢
        have : ((inner a).take j).length ≤ (inner a).length := by rw [List.length_take]; omega
        omega
      refine hb a hm s (List.mem_of_getElem? hs) (fun k y ρ9 => (kS ((gs.take i).flatMap inner ++ (inner a).take j)).length < sizeLine ∧ (ρ9 = wip (ρi a) vs1 ∧ putKs (kS ((gs.take i).flatMap inner ++ (inner a).take j)) k = kS ((gs.take i).flatMap inner ++ (inner a).take (j + 1)) ∧
        putXs (kS ((gs.take i).flatMap inner ++ (inner a).take j)) (((gs.take i).flatMap inner ++ (inner a).take j).map f) k y = ((gs.take i).flatMap inner ++ (inner a).take (j + 1)).map f)) ⟨Nat.lt_of_lt_of_le (show _ < 2000 by rw [List.length_map]; omega) (by decide), rfl, ?_, ?_⟩
      · rw [putKs_N fresh, tk2, List.append_assoc]
      · rw [putXs_N fresh, tk2, List.append_assoc]
    · rintro ks xs ρ ⟨rfl, rfl, rfl⟩
      rw [List.length_map, List.take_length]
      refine ⟨hv a hm, ?_, ?_⟩
      · rw [tk, List.flatMap_append]
        simp
      · rw [tk, List.flatMap_append]
        simp
  · rintro ks xs ρ ⟨rfl, rfl, rfl⟩
    rw [List.length_map, List.take_length]
    exact q
end
end M
/-! M39: t[::-1] of a tuple. -/
namespace L2
open PySem PySem.Spec PyProof.Rows HT
section
variable {prog : Program} {w : World} {A : Around} {E : Value → Shared → Prop} {s : Shared}
theorem applied_rev {sl : Addr} {vs : Value} {n : Nat} {Q : Int × Int × Nat → Shared → Prop} (hs : s.heap.IsSliceOf sl .none .none vs) (ps : IsPart vs (some (-1))) (h : Q ((n : Int) - 1, -1, n) s) :
    wpAny (model prog w) A (Builtin.Slice.sliceApplied (.ref sl) (pure (n : Int))) Q E s := by
  obtain ⟨os, hos, hcs, hds⟩ := id hs
  unfold Builtin.Slice.sliceApplied Builtin.Slice.sliceFields
  refine wpAny_bind (wpAny_bind (wpAny_field hos hds (x := .none) rfl (wpAny_bind (wpAny_field hos hds (x := .none) rfl (wpAny_bind (wpAny_field hos hds (x := vs) rfl (wpAny_pure ?_)))))))
  refine wpAny_bind (slicePart_ ps ?_)
  show wpAny _ _ (if ((-1 : Int) == 0) = true then _ else _) _ _ s
  rw [if_neg (by decide)]
  refine wpAny_bind (slicePart_none (wpAny_bind (slicePart_none (wpAny_bind (wpAny_pure ?_)))))
  have e1 : Builtin.Slice.sliceAdjust none none (-1) (n : Int) = ((n : Int) - 1, -1) := by
    unfold Builtin.Slice.sliceAdjust
    simp
  have e2 : Builtin.Slice.slicePlaces ((n : Int) - 1) (-1) (-1) = n := by
    unfold Builtin.Slice.slicePlaces
    simp only [show ¬ ((-1 : Int) > 0) by decide, if_false, show (- -1 : Int) = 1 by decide, Int.ediv_one]
    split <;> omega
  show wpAny _ _ (match Builtin.Slice.sliceAdjust none none (-1) (n : Int) with | (lo, hi) => pure (lo, (-1 : Int), Builtin.Slice.slicePlaces lo hi (-1))) _ _ s
  rw [e1]
  show wpAny _ _ (pure ((n : Int) - 1, (-1 : Int), Builtin.Slice.slicePlaces ((n : Int) - 1) (-1) (-1))) _ _ s
  rw [e2]
  exact wpAny_pure h
theorem fm_congr {α β : Type} {f g : α → Option β} : ∀ {l : List α}, (∀ a ∈ l, f a = g a) → l.filterMap f = l.filterMap g
  | [], _ => rfl
  | a :: l, h => by rw [List.filterMap_cons, List.filterMap_cons, h a List.mem_cons_self, fm_congr fun b hb => h b (List.mem_cons_of_mem _ hb)]
theorem pick_rev (xs : Array Value) : ((List.range xs.size).filterMap fun (m : Nat) => xs[((xs.size : Int) - 1 + (m : Int) * (-1)).toNat]?).toArray = xs.toList.reverse.toArray := by
  have e : (List.range xs.size).filterMap (fun (m : Nat) => xs[((xs.size : Int) - 1 + (m : Int) * (-1)).toNat]?) = ((List.range xs.size).map fun k => xs.size - 1 - k).filterMap (xs[·]?) := by
    rw [List.filterMap_map]
    refine fm_congr fun m hm => ?_
    have := List.mem_range.mp hm
    show xs[((xs.size : Int) - 1 + (m : Int) * (-1)).toNat]? = xs[xs.size - 1 - m]?
    rw [show ((xs.size : Int) - 1 + (m : Int) * (-1)).toNat = xs.size - 1 - m by omega]
  rw [e, PySem.W.krv_range, List.filterMap_reverse, PySem.W.krv_all]
theorem item_rev {t sl : Addr} {items : Array Value} {vs : Value} {Q : Value → Shared → Prop} (ht : IsTup s.heap t items) (hs : s.heap.IsSliceOf sl .none .none vs) (ps : IsPart vs (some (-1)))
    (h : Q (.ref s.heap.objs.size) { s with heap := s.heap.push { cls := .type "tuple", data := .seq items.toList.reverse.toArray } }) (hsz : items.size ≤ sizeLine) : wpAny (model prog w) A (getItem (.ref t) (.ref sl)) Q E s := by
  have fits : sizeOk (.seq items.toList.reverse.toArray) := by
    show items.toList.reverse.toArray.size ≤ sizeLine
    rw [List.size_toArray, List.length_reverse, Array.length_toList]
    exact hsz
  obtain ⟨os, g1, g2, _⟩ := id hs
  have ty : s.TypeIs (.ref sl) "slice" := ⟨os, g1, g2⟩
  unfold getItem
  try with_reducible refine wpAny_holding ?_
  first | refine wpAny_bind (wpAny_pure ?_) | skip
  refine wpAny_bind (wpAny_sequenceKey ht.typeIs (by decide) (wpAny_bind (wpAny_callSpecial?_slot (name := Str.ofString "__getitem__") ht.typeIs PyProof.Rows.slot_tuple_getitem (wpAny_call_entry PyProof.Rows.slot_tuple_getitem ht.typeIs entry_tuple_getitem ?_ (args_tuple_getitem _ _)))))
  show wpAny _ _ (Builtin.Tuple.tupleItemsOf (.ref t) >>= _) _ _ s
  refine wpAny_bind (tupleItemsOf_ ht (wpAny_bind (wpAny_typeOf ty ?_)))
  rw [if_pos (by decide)]
  refine wpAny_bind (applied_rev hs ps ?_)
  have odd : ¬ ((((items.size : Int) - 1) == 0 && (-1 : Int) == 1 && items.size == items.size) = true) := by simp
  show wpAny _ _ (if (((items.size : Int) - 1) == 0 && (-1 : Int) == 1 && items.size == items.size) = true then _ else _) _ _ s
  rw [if_neg odd, pick_rev]
  first
    | exact wpAny_bind (m := Builtin.Tuple.tupleExact _) (wpAny_newObj_type (wpAny_pure ⟨_, rfl, wpAny_pure h⟩) fits)
    | exact wpAny_bind (m := Builtin.Tuple.tupleExact _) (wpAny_newObj_type (wpAny_bind (wpAny_pure (wpAny_pure ⟨_, rfl, wpAny_pure h⟩))) fits)
    | exact wpAny_bind (wpAny_bind (m := Builtin.Tuple.tupleExact _) (wpAny_newObj_type (wpAny_pure (wpAny_pure ⟨_, rfl, wpAny_pure h⟩)) fits))
    | exact wpAny_bind (wpAny_bind (m := Builtin.Tuple.tupleExact _) (wpAny_newObj_type (wpAny_pure ⟨_, rfl, wpAny_pure h⟩) fits))
end
end L2
namespace L2
open PySem PySem.Spec PyProof.Rows
/-- t[::-1] -/
def tRevT (K : PySem.W.Frag) (te : TE) : TE := fun σ H Q => te σ H fun x H1 => ∃ a xs, x = .ref a ∧ SqT K H1 a xs ∧ NewT H1 xs.reverse Q
theorem pe_revT {X : Cx} {e : Expr} {te : TE} {k : Nat} {p1 p2 p3 pos : Pos} (he : PE X e te) : PE X (.Subscript e (.Slice none none (some (.UnaryOp .USub (.Constant (.int 1) k p1) p2)) p3) pos) (tRevT X.K te) := by
  constructor
  intro pins s σ H Q I w
  apply Subscript_
  apply thn (he.run pins s σ H _ I w)
  rintro v sA ⟨x, HA, JA, rx, a, xs, rfl, sx, q⟩
  cases rx
  have step : PO X (some (.UnaryOp .USub (.Constant (.int 1) k p1) p2)) (tPart (tUn (rU fun i => .int (-i)) (tC (.int 1)))) := po_some (pe_un un_neg pe_int)
  apply wpAny_Slice
  apply thn (po_none.run pins sA σ HA (fun o h => o = none ∧ h = HA) JA ⟨rfl, rfl⟩)
  rintro vl sB ⟨_, HB, JB, pl, rfl, eB⟩
  rw [eB] at JB
  apply thn (po_none.run pins sB σ _ (fun o h => o = none ∧ h = HA) JB ⟨rfl, rfl⟩)
  rintro vu sC ⟨_, HC, JC, pu, rfl, eC⟩
  rw [eC] at JC
  apply thn (step.run pins sC σ _ (fun o h => o = some (-1) ∧ h = HA) JC ⟨1, rfl, -1, rfl, rfl, rfl⟩)
  rintro vs sD ⟨_, HD, JD, ps, rfl, eD⟩
  rw [eD] at JD
  cases pl
  cases pu
  have JE : Inv X pins σ HA { sD with heap := sD.heap.push { cls := .type "slice", data := .fields #[.none, .none, vs] } } := JD.kept (t' := sD.toks) fun b ob z => Heap.get?_push_of_some _ z
  obtain ⟨its, r, ht, hz⟩ := JE.tuple sx
  have len := r.length
  show wpAny (model X.prog X.w) X.A (subscriptTail e (.Slice none none (some (.UnaryOp .USub (.Constant (.int 1) k p1) p2)) p3) (.ref a) (.ref sD.heap.objs.size)) (EP X pins σ Q) X.xe { sD with heap := sD.heap.push { cls := .type "slice", data := .fields #[.none, .none, vs] } }
  refine tail_any (ops := [.ref a, .ref sD.heap.objs.size]) ht.typeIs (PyProof.Rows.slot_tuple_getitem.lookup) ?_ (by with_unfolding_all rfl)
  refine item_rev ht (Heap.IsSliceOf.new _ .none .none vs) ps ?_ (by rw [List.size_toArray]; omega)
  obtain ⟨o, c1, c2, J, hf⟩ := JE.newT r.reverse (by rw [List.length_reverse]; exact hz)
  exact ⟨.ref _, _, J, rfl, q _ o hf c1 c2⟩
end L2
namespace M
open PySem PySem.Spec PyProof.Rows L2
section
variable {G : Gc} {X : Cx} {e : Expr} {pos : Pos}
def wRevT (w : WE) : WE := fun ρ Q => w ρ fun x ρ1 => ∃ xs, pk ρ1 x = some (.tup xs) ∧ Q (.tup xs.reverse) ρ1
theorem d_revT {w : WE} {k : Nat} {p1 p2 p3 : Pos} (hK : X.K = G.K) (he : PE X e (LE G w)) : PE X (.Subscript e (.Slice none none (some (.UnaryOp .USub (.Constant (.int 1) k p1) p2)) p3) pos) (LE G (wRevT w)) := imE (pe_revT he) fun σ H Q q => by
  obtain ⟨F, ρ, fp, Qd, ok, h, k⟩ := q
  refine ⟨F, ρ, fp, _, ok, h, fun v1 H1 F1 ρ1 fp1 x f1 en1 rr1 q1 => ?_⟩
  obtain ⟨xs, ex, q1⟩ := q1
  obtain ⟨a, vs, e1, sx, rl⟩ := rr1.tupX en1.ok ex
  refine ⟨a, vs, e1, hK ▸ sx.sq, fun p o hp c1 c2 => ?_⟩
  exact k _ _ F1 ρ1 fp1 _ [] (en1.drop (En.tup (o := .frz o (.tup vs.reverse)) en1.ok hp)) (.inl (.tup (.of upd_same c1 c2) (rl.rev.new hp))) q1
end
end M
/-! M60: text.split(sep), text.partition(sep). -/
namespace L2
open PySem PySem.Spec PyProof.Rows
section
variable {X : Cx} {pins : List (Addr × Obj)} {σ : St} {H : Hp} {s : Shared} {Q : VK}
theorem laid_partsF {x y z : Str} {t u v : Tok} {k : Nat} (I : Inv X pins σ H s) (h : NewT H [.str x, .str y, .str z] Q) :
    EP X pins σ Q (.ref s.heap.objs.size) { s with toks := k, heap := s.heap.push { cls := .type "tuple", data := .seq [Value.str x t, .str y u, .str z v].toArray } } := by
  have I1 := I.tok k
  obtain ⟨o, h1, h2, J, hf⟩ := Inv.newT (xs := [.str x, .str y, .str z]) (its := [Value.str x t, .str y u, .str z v]) (t := k) I1 (.cons ⟨t, rfl⟩ (.cons ⟨u, rfl⟩ (.cons ⟨v, rfl⟩ .nil))) (by show 3 ≤ sizeLine; decide)
  exact ⟨.ref s.heap.objs.size, _, J, rfl, h _ o hf h1 h2⟩
def rPartF : V → List V → Hp → VK → Prop := fun x xs H Q => ∃ a b, x = .str a ∧ xs = [.str b] ∧ (b.length == 0) = false ∧ a.length ≤ sizeLine ∧ NewT H [.str (Txt.partition a b).1, .str (Txt.partition a b).2.1, .str (Txt.partition a b).2.2] Q
theorem mt_partitionF : MtR X "str.partition" rPartF := by
  intro pins s σ H x xs v us Q I rx rs h
  obtain ⟨a, b, rfl, rfl, hb, hz, h⟩ := h
  obtain ⟨t, rfl⟩ := rx
  cases rs with
  | cons r1 rs =>
    cases rs
    obtain ⟨u, rfl⟩ := r1
    refine call_meets F.slot_str_partition (typeIs_str _ _ _) F.entry_str_partition (F.args_str_partition_2 _ _) (PySem.meets_str_partition a b t u hb hz) ?_
    unfold Txt.partition at h
    revert h
    cases Builtin.Str.occurrences a b 0 a.length 1 with
    | nil => intro h; exact laid_partsF I h
    | cons i r => intro h; exact laid_partsF I h
end
end L2
namespace M
open PySem PySem.Spec PyProof.Rows L2
section
variable {G : Gc} {X : Cx} {e oe : Expr} {we : WE} {wa : WA} {apos pos : Pos}
def nSplit : ON := fun ρ rs K => ∃ a b, rs = [.str a, .str b] ∧ (b.length == 0) = false ∧ a.length + 2 ≤ sizeLine ∧ K (.lst true ((Txt.split a b).map D.str)) ρ
theorem nSplit_ok : ONOk G (rM fun x xs H Q => ∃ a b, x = .str a ∧ xs = [.str b] ∧ (b.length == 0) = false ∧ a.length + 2 ≤ sizeLine ∧ rNewStrs (Txt.split a b) H Q) nSplit := fun F H σ ρ fp vs rs fr Kd Q ok rr nd h k => by
  obtain ⟨a, b, rfl, hb, hz, q⟩ := h
  obtain ⟨v1, v2, f1, f2, rfl, rfl, r1, r2⟩ := rr.two
  obtain ⟨rfl, rfl⟩ := r1.str
  obtain ⟨rfl, rfl⟩ := r2.str
  refine ⟨_, _, rfl, a, b, rfl, rfl, hb, hz, fun p hn => ?_⟩
  exact k _ _ F ρ fp _ [p] (En.own ok hn).wide (.inl (.low upd_same (ok.not_none hn).1 ((RpL.strs _).new hn))) q
def nPart : ON := fun ρ rs K => ∃ a b, rs = [.str a, .str b] ∧ (b.length == 0) = false ∧ a.length ≤ sizeLine ∧ K (.tup [.str (Txt.partition a b).1, .str (Txt.partition a b).2.1, .str (Txt.partition a b).2.2]) ρ
theorem nPart_ok : ONOk G (rM rPartF) nPart := fun F H σ ρ fp vs rs fr Kd Q ok rr nd h k => by
  obtain ⟨a, b, rfl, hb, hz, q⟩ := h
  obtain ⟨v1, v2, f1, f2, rfl, rfl, r1, r2⟩ := rr.two
  obtain ⟨rfl, rfl⟩ := r1.str
  obtain ⟨rfl, rfl⟩ := r2.str
  refine ⟨_, _, rfl, a, b, rfl, rfl, hb, hz, fun l o hl h1 h2 => ?_⟩
  exact k _ _ F ρ fp _ [] (En.tup ok hl).wide (.inl (.tup (.of upd_same h1 h2) (.cons (fp := []) (fq := []) (.str _) (.cons (fp := []) (fq := []) (.str _) (.cons (fp := []) (fq := []) (.str _) .nil))))) q
theorem d_split (hK : X.K = G.K) (he : PE X oe (LE G we)) (ha : PA X [e] (LA G wa)) (hbase : attributeBase oe "split" X.env (eval oe X.env) = eval oe X.env := by rfl)
    (hfew : ((backTo pos (starEach [e] X.env)).all (fun x => !x.1) && (backToKw pos (keywordEach [] X.env)).all (fun x => x.1.isSome) && decide ([e].length + ([] : List Keyword).length + (if ([] : List Keyword).isEmpty then 0 else 1) < 30)) = true := by rfl)
    (hline : (apos.endLine == pos.line) = true := by rfl) (hs : starEach [e] X.env = (false, eval e X.env) :: starEach [] X.env := by rfl) (hplain : (backTo pos (starEach [] X.env)).any (·.1) = false := by rfl) :
    PE X (.Call (.Attribute oe "split" apos) [e] [] pos) (LE G (wM "str" nSplit we wa)) := d_m hK PySem.F.plainAttrs_str PySem.F.slot_str_split PySem.F.type_str_split mt_split nSplit_ok he ha hbase hfew hline hs hplain
theorem d_part (hK : X.K = G.K) (he : PE X oe (LE G we)) (ha : PA X [e] (LA G wa)) (hbase : attributeBase oe "partition" X.env (eval oe X.env) = eval oe X.env := by rfl)
    (hfew : ((backTo pos (starEach [e] X.env)).all (fun x => !x.1) && (backToKw pos (keywordEach [] X.env)).all (fun x => x.1.isSome) && decide ([e].length + ([] : List Keyword).length + (if ([] : List Keyword).isEmpty then 0 else 1) < 30)) = true := by rfl)
    (hline : (apos.endLine == pos.line) = true := by rfl) (hs : starEach [e] X.env = (false, eval e X.env) :: starEach [] X.env := by rfl) (hplain : (backTo pos (starEach [] X.env)).any (·.1) = false := by rfl) :
    PE X (.Call (.Attribute oe "partition" apos) [e] [] pos) (LE G (wM "str" nPart we wa)) := d_m hK PySem.F.plainAttrs_str PySem.F.slot_str_partition PySem.F.type_str_partition mt_partitionF nPart_ok he ha hbase hfew hline hs hplain
end
theorem i_split {ρ : Sl} {a b : Str} {K : D → Sl → Prop} (hb : (b.length == 0) = false) (hz : a.length ≤ 16000000) (q : K (.lst true ((Txt.split a b).map D.str)) ρ) : nSplit ρ [.str a, .str b] K := ⟨a, b, rfl, hb, Nat.le_trans (Nat.add_le_add_right hz 2) (by decide), q⟩
theorem i_part {ρ : Sl} {a b : Str} {K : D → Sl → Prop} (hb : (b.length == 0) = false) (hz : a.length ≤ 16000000) (q : K (.tup [.str (Txt.partition a b).1, .str (Txt.partition a b).2.1, .str (Txt.partition a b).2.2]) ρ) : nPart ρ [.str a, .str b] K := ⟨a, b, rfl, hb, Nat.le_trans hz (by decide), q⟩
end M
/-! M61: C.m(..), C.m(k = ..), m a classmethod of the own class C. -/
namespace M
open PySem PySem.Spec PyProof.Rows L2 ClX

structure KCls (P : Program) (w : World) (K : PySem.W.Frag) (ca : Cax) (mg : Str → Option Value) (base : Heap) (k : Nat) (c m : Str) (n : Nat) (ks : List Str) (is : List Nat) (dd : List D) (sp : Spd) : Prop where
  ex : ∃ (p f : Addr) (mc : Value) (fd : FuncData) (ps : List Str) (its : List Value) (dvs : List V), FnG P w K mg base (L2.CX P w) k f fd ps (lift K ca [] sp) ∧ CRead K (ca c) mc ∧ CMet K (ca c) mc m p f ∧ KBn K fd ps (n + 1) ks (fun us ws => permL is (us ++ ws ++ its)) (fun vs zs => permL is (vs ++ zs ++ dvs)) ∧ (∀ F H, RpL K ca F H dvs dd []) ∧ mg c = some (.ref (ca c))
def wClsP (c : Str) (n m : Nat) (is : List Nat) (dd : List D) (sp : Spd) (Ex : DXs) (wa wk : WA) : WE := fun ρ Q => wa ρ fun rs ρ1 => wk ρ1 fun zs ρ2 => rs.length = n ∧ zs.length = m ∧ callP is dd sp Ex Q (.cls c :: rs ++ zs) ρ2
section
variable {G : Gc} {X : Cx} {e : Expr} {es : List Expr} {wa wk : WA} {pos apos p1 : Pos} {kws : List Keyword} {c mt : Str} {k j n m : Nat} {ks : List Str} {is : List Nat} {dd : List D} {sp : Spd} {Ex : DXs} {W : WX}
theorem run_cmG {CX : CXT} {E : L2.St → XK} {pins : List (Addr × Obj)} {σ : L2.St} {H : Hp} {s : Shared} {Q : VK} {us ws : List Value} {vs zs : List V} {q g C : Addr} {fd : FuncData} {ps : List Str} {sp : Sp} {gv : List Value → List Value → List Value} {gV : List V → List V → List V} (F : FnG X.prog X.w X.K X.mg X.base CX k g fd ps sp) (hr : RoomG k X.A) (hb : KBn X.K fd ps (n + 1) ks gv gV) (hx : PassesAt CX X σ (E σ)) (I : Inv X ((q, PySem.W.methodObj (.ref g) (.ref C)) :: pins) σ H s) (rv : Vals vs us) (rz : Vals zs ws) (l1 : vs.length = n) (l2 : zs.length = ks.length)
    (h : sp (gV (.ref C :: vs) zs) H Q (E σ)) : wpAny (model X.prog X.w) X.A (call (.ref q) us (ks.zip ws)) (EP X pins σ Q) X.xe s := by
  have r1 : Vals (V.ref C :: vs) (Value.ref C :: us) := .cons (show RelV (.ref C) (.ref C) from rfl) rv
  have z : wpAny (model X.prog X.w) X.A (call (.ref q) us (ks.zip ws)) (EP X ((q, PySem.W.methodObj (.ref g) (.ref C)) :: pins) σ Q) X.xe s :=
    wpAny_call (PySem.W.method_call (pin_at I) (runG F hr I.env0 hx I (hb.to s (.ref C :: us) ws I.kIn (r1.length.symm.trans (congrArg Nat.succ l1)) (rz.length.symm.trans l2)) (hb.rel r1 rz) h))
  exact thn z fun _ _ y => unpinE y
theorem callM_KW {K : PySem.W.Frag} {M : Model} {A : Around} {E : Value → Shared → Prop} {s : Shared} {env : Env} {pos : Pos} {q g : Addr} {self : Value} {Q : Value → Shared → Prop} {e : Expr} {rest : List Expr} {kws : List Keyword} (hf : PySem.W.fnIn K g = true) (hall : (backToKw pos (keywordEach kws env)).all (·.1.isSome) = true)
    (h : wpAny M A (spliced (backTo pos (starEach (e :: rest) env))) (fun vs s₁ => wpAny M A (evalAll ((backToKw pos (keywordEach kws env)).map (·.2)))
      (fun ks s₂ => PySem.W.MethP K q g self s₂.heap ∧ wpAny M A (call (.ref q) ([] ++ vs) (((backToKw pos (keywordEach kws env)).filterMap (·.1)).zip ks)) Q E s₂) E s₁) E s)
    (hplain : ((backTo pos (starEach (e :: rest) env)).any (·.1) || (backToKw pos (keywordEach kws env)).any (·.1.isNone)) = false) (he : starEach (e :: rest) env = (false, eval e env) :: starEach rest env) :
    wpAny M A (callWith pos (.ref q) [] (backTo pos (starEach (e :: rest) env)) (backToKw pos (keywordEach kws env))) Q E s :=
  PySem.W.callWith_of hplain (PySem.W.keeps_M hf) (PyProof.Rows.evalArgs_kw2 hall h he)
theorem callM_KW0 {K : PySem.W.Frag} {M : Model} {A : Around} {E : Value → Shared → Prop} {s : Shared} {env : Env} {pos : Pos} {q g : Addr} {self : Value} {Q : Value → Shared → Prop} {kws : List Keyword} (hf : PySem.W.fnIn K g = true) (hall : (backToKw pos (keywordEach kws env)).all (·.1.isSome) = true)
    (h : wpAny M A (evalAll ((backToKw pos (keywordEach kws env)).map (·.2))) (fun ks s₂ => PySem.W.MethP K q g self s₂.heap ∧ wpAny M A (call (.ref q) ([] ++ []) (((backToKw pos (keywordEach kws env)).filterMap (·.1)).zip ks)) Q E s₂) E s)
    (hplain : ((backTo pos (starEach [] env)).any (·.1) || (backToKw pos (keywordEach kws env)).any (·.1.isNone)) = false) :
    wpAny M A (callWith pos (.ref q) [] (backTo pos (starEach [] env)) (backToKw pos (keywordEach kws env))) Q E s :=
  PySem.W.callWith_of hplain (PySem.W.keeps_M hf) (PyProof.Rows.evalArgs_kw2_nil hall h)
theorem d_clsP {pl : Sem Bool} (me : KCls X.prog X.w X.K G.ca X.mg X.base k c mt n ks is dd sp) (hr : RoomG j X.A) (tk : Takes X W) (lk : XLk G Ex W) (ha : PA X (e :: es) (LA G wa)) (hw : PK X kws (LA G wk)) (hK : X.K = G.K := by rfl) (hk : k ≤ j := by decide) (hm : ks.length = m := by rfl) (hdd : dd.all (fun d => !isOw d) = true := by rfl) (hg : Gl X c := by rfl)
    (hall : (backToKw pos (keywordEach kws X.env)).all (·.1.isSome) = true := by rfl) (hks : (backToKw pos (keywordEach kws X.env)).filterMap (·.1) = ks := by rfl) (hdb : (c == ("__debug__" : Str)) = false := by decide) (he : starEach (e :: es) X.env = (false, eval e X.env) :: starEach es X.env := by rfl)
    (hpl : ((backTo pos (starEach (e :: es) X.env)).any (·.1) || (backToKw pos (keywordEach kws X.env)).any (·.1.isNone)) = false := by rfl) (ht : MRunK X (.Name c p1) mt (e :: es) kws apos pos pl := by rfl) :
    PE X (.Call (.Attribute (.Name c p1) mt apos) (e :: es) kws pos) (LE G (wClsP c n m is dd sp Ex wa wk)) := by
  obtain ⟨p, f, mc, fd, ps, its, dvs, F, cr, cm, b, hd, g⟩ := me.ex
  refine ⟨fun pins s σ H Q I q => ?_⟩
  obtain ⟨F0, ρ, fp, Qd, ok, h, kk⟩ := q
  have key : LA G wa σ H fun vs H2 => LA G wk σ H2 fun us H3 => vs.length = n ∧ us.length = ks.length ∧ lift G.K G.ca [] sp (permL is (.ref (G.ca c) :: vs ++ us ++ dvs)) H3 Q (fun cls d H => W cls d σ H) := by
    refine two_lists ok h ?_
    intro vs us H' F' ρ' fp' rs zs f1 f2 en r1 r2 ⟨l1, l2, q⟩
    exact ⟨r1.len.trans l1, (r2.len.trans l2).trans hm.symm, callP_core (vs := .ref (G.ca c) :: vs ++ us) lk (hK ▸ hd) hdd ok.rch en (RrL.cons (fp := []) (.inl (.cls c)) (r1.app r2)) q kk⟩
  refine PySem.W.methodCall_KW (pl := pl) (ld_glob I hg g ?_ hdb) ht
  refine getmethcm_ok I cr cm fun s2 I2 => ?_
  refine callM_KW cm.fi hall (thn (ha.run pos _ s2 σ H _ I2 key) fun us s3 ⟨vs, H2, I3, rv, q2⟩ => thn (hw.run pos _ s3 σ H2 _ I3 q2) fun ws s4 ⟨zs, H3, I4, rz, l1, l2, q3⟩ => ⟨⟨pin_at I4, I4.kIn⟩, ?_⟩) hpl he
  rw [hks]
  exact run_cmG (E := fun σ cls d H => W cls d σ H) F (hr.mono hk) b (passAt tk σ) I4 rv rz l1 l2 (hK ▸ q3)
theorem d_clsP0 {pl : Sem Bool} (me : KCls X.prog X.w X.K G.ca X.mg X.base k c mt 0 ks is dd sp) (hr : RoomG j X.A) (tk : Takes X W) (lk : XLk G Ex W) (hw : PK X kws (LA G wk)) (hK : X.K = G.K := by rfl) (hk : k ≤ j := by decide) (hm : ks.length = m := by rfl) (hdd : dd.all (fun d => !isOw d) = true := by rfl) (hg : Gl X c := by rfl)
    (hall : (backToKw pos (keywordEach kws X.env)).all (·.1.isSome) = true := by rfl) (hks : (backToKw pos (keywordEach kws X.env)).filterMap (·.1) = ks := by rfl) (hdb : (c == ("__debug__" : Str)) = false := by decide)
    (hpl : ((backTo pos (starEach [] X.env)).any (·.1) || (backToKw pos (keywordEach kws X.env)).any (·.1.isNone)) = false := by rfl) (ht : MRunK X (.Name c p1) mt [] kws apos pos pl := by rfl) :
    PE X (.Call (.Attribute (.Name c p1) mt apos) [] kws pos) (LE G (wClsP c 0 m is dd sp Ex wNil wk)) := by
  obtain ⟨p, f, mc, fd, ps, its, dvs, F, cr, cm, b, hd, g⟩ := me.ex
  refine ⟨fun pins s σ H Q I q => ?_⟩
  obtain ⟨F0, ρ, fp, Qd, ok, h, kk⟩ := q
  have key : LA G wNil σ H fun vs H2 => LA G wk σ H2 fun us H3 => vs.length = 0 ∧ us.length = ks.length ∧ lift G.K G.ca [] sp (permL is (.ref (G.ca c) :: vs ++ us ++ dvs)) H3 Q (fun cls d H => W cls d σ H) := by
    refine two_lists ok h ?_
    intro vs us H' F' ρ' fp' rs zs f1 f2 en r1 r2 ⟨l1, l2, q⟩
    exact ⟨r1.len.trans l1, (r2.len.trans l2).trans hm.symm, callP_core (vs := .ref (G.ca c) :: vs ++ us) lk (hK ▸ hd) hdd ok.rch en (RrL.cons (fp := []) (.inl (.cls c)) (r1.app r2)) q kk⟩
  have key := la_nil _ _ _ key
  refine PySem.W.methodCall_KW (pl := pl) (ld_glob I hg g ?_ hdb) ht
  refine getmethcm_ok I cr cm fun s2 I2 => ?_
  refine callM_KW0 cm.fi hall (thn (hw.run pos _ s2 σ H _ I2 key) fun ws s4 ⟨zs, H3, I4, rz, l1, l2, q3⟩ => ⟨⟨pin_at I4, I4.kIn⟩, ?_⟩) hpl
  rw [hks]
  exact run_cmG (E := fun σ cls d H => W cls d σ H) (us := []) (vs := []) F (hr.mono hk) b (passAt tk σ) I4 .nil rz l1 l2 (hK ▸ q3)
end
end M
/-! M62: cls(..), cls a slot that holds an own class. -/
namespace M
open PySem PySem.Spec PyProof.Rows L2
theorem rd_cls {k : Nat} {c : Str} : rd k (.cls c) = .cls c := rfl
section
variable {G : Gc} {X : Cx} {e : Expr} {es : List Expr} {wa wk : WA} {pos p1 : Pos} {kws : List Keyword} {c x : Str} {i k j n m : Nat} {ks : List Str} {is : List Nat} {dd : List D} {sp : Spd} {Ex : DXs} {W : WX} {K : PySem.W.Frag} {ca : Cax} {F : Addr → Prop} {H : Hp} {σ : L2.St} {ρ : Sl} {fp : List Addr}
def wMakeL (i : Nat) (c : Str) (n m : Nat) (is : List Nat) (dd : List D) (sp : Spd) (Ex : DXs) (wa wk : WA) : WE := fun ρ Q => ρ[i]? = some (some (.cls c)) ∧ wMakeP c n m is dd sp Ex wa wk ρ Q
theorem Ok.clsAt (o : Ok G F H σ ρ fp) (e : ρ[i]? = some (some (.cls c))) : σ[i]? = some (some (.ref (G.ca c))) := by
  obtain ⟨l, fr, r, e1, h1, _, _, _⟩ := o.rs.at_ (i := i) (by rw [List.getElem?_eq_some_iff] at e; exact e.1)
  obtain ⟨v, ev, rp⟩ := h1 _ e
  cases rp
  exact ev
theorem pe_makeV {CX : CXT} {f C : Addr} {fd : FuncData} {ps : List Str} {sp : Sp} {t tk : TA} {g : List Value → List Value → List Value} {gV : List V → List V → List V} {E : L2.St → XK} (mk : Mk X.K C f) (F : FnG X.prog X.w X.K X.mg X.base CX k f fd ps sp) (hr : RoomG (k + 1) X.A) (hv : PE X (.Name x p1) (tVar i)) (hb : KBn X.K fd ps (n + 1) ks g gV) (hx : ∀ σ, PassesAt CX X σ (E σ)) (ha : PA X (e :: es) t) (hkw : PK X kws tk)
    (hall : (backToKw pos (keywordEach kws X.env)).all (·.1.isSome) = true) (hks : (backToKw pos (keywordEach kws X.env)).filterMap (·.1) = ks) (hdb : (x == ("__debug__" : Str)) = false) (he : starEach (e :: es) X.env = (false, eval e X.env) :: starEach es X.env)
    (hpl : ((backTo pos (starEach (e :: es) X.env)).any (·.1) || (backToKw pos (keywordEach kws X.env)).any (·.1.isNone)) = false) : PE X (.Call (.Name x p1) (e :: es) kws pos) (fun σ H Q => σ[i]? = some (some (.ref C)) ∧ tMakeS C n ks.length sp gV E t tk σ H Q) :=
  ⟨fun pins s σ H Q I h => wpAny_Call_Name_kw (thn (hv.run pins s σ H (fun v H1 => v = .ref C ∧ H1 = H) I ⟨_, h.1, rfl, rfl⟩) fun u s1 ⟨v, H1, I1, rv, ev, eh⟩ => by
    subst ev eh
    obtain rfl : u = Value.ref C := rv
    exact PySem.W.callWith_KW (h₀ := X.base) I.ok.mod.kin mk.kp hall (thn (ha.run pos pins s1 σ _ _ I1 h.2) fun us s1 ⟨vs, H1, I1, r, q⟩ => thn (hkw.run pos pins s1 σ H1 _ I1 q) fun ws s2 ⟨zs, H2, I2, rz, l1, l2, q2⟩ => ⟨I2.kIn, hks ▸ run_makeG mk F hr hb (hx σ) I2 r rz l1 l2 q2⟩) hpl he)⟩
theorem d_makeL (hv : PE X (.Name x p1) (tVar i)) (mk : KMak X.prog X.w X.K G.ca X.mg X.base k c n ks is dd sp) (hr : RoomG j X.A) (tk : Takes X W) (lk : XLk G Ex W) (ha : PA X (e :: es) (LA G wa)) (hw : PK X kws (LA G wk)) (hK : X.K = G.K := by rfl) (hk : k + 1 ≤ j := by decide) (hm : ks.length = m := by rfl) (hdd : dd.all (fun d => !isOw d) = true := by rfl)
    (hall : (backToKw pos (keywordEach kws X.env)).all (·.1.isSome) = true := by rfl) (hks : (backToKw pos (keywordEach kws X.env)).filterMap (·.1) = ks := by rfl) (hdb : (x == ("__debug__" : Str)) = false := by decide) (he : starEach (e :: es) X.env = (false, eval e X.env) :: starEach es X.env := by rfl)
    (hpl : ((backTo pos (starEach (e :: es) X.env)).any (·.1) || (backToKw pos (keywordEach kws X.env)).any (·.1.isNone)) = false := by rfl) : PE X (.Call (.Name x p1) (e :: es) kws pos) (LE G (wMakeL i c n m is dd sp Ex wa wk)) := by
  obtain ⟨f, fd, ps, its, dvs, F, M, b, hd, g⟩ := mk.ex
  refine imE (pe_makeV M F (hr.mono hk) hv b (fun σ => passAt tk σ) ha hw hall hks hdb he hpl) fun σ H Q q => ?_
  obtain ⟨F0, ρ, fp, Qd, ok, ⟨hi, h⟩, kk⟩ := q
  refine ⟨ok.clsAt hi, ?_⟩
  refine two_lists ok h fun vs us H' F' ρ' fp' rs zs f1 f2 en r1 r2 ⟨l1, l2, q⟩ => ⟨r1.len.trans l1, (r2.len.trans l2).trans hm.symm, fun y dx hx hdx hne => ?_⟩
  exact hK ▸ makeP_core (vs := vs ++ us) lk (hK ▸ hd) hdd ok.rch en (r1.app r2) q kk hx hdx hne
end
end M
/-! M40: try .. except: what is caught is known from now on. -/
namespace M
open PySem PySem.Spec PyProof.Rows L2

section
variable {X : Cx} {pins : List (Addr × Obj)} {σ : L2.St} {H : Hp} {s : Shared} {a C : Addr} {d : Option Addr}
theorem inv_known {oe : Obj} (I : Inv X pins σ H s) (ha : s.heap.get? a = some oe) (hz : Zc (.ref C) d oe) (hd : ∃ vs : Array Value, oe.data = .fields vs) (na : H a = none) (n0 : X.s_0.heap.get? a = none) (np : ∀ p ∈ X.pn ++ pins, p.1 ≠ a) : Inv X pins σ (upd H a (exO a C d)) s := by
  obtain ⟨vs, hv⟩ := hd
  have no : ∀ {b : Addr} {u : HO}, H b = some u → b ≠ a := fun {b u} e z => by rw [z, na] at e; cases e
  have kp : ∀ {b : Addr} {u : HO}, H b = some u → upd H a (exO a C d) b = some u := fun {b u} e => by rw [upd_ne (no e)]; exact e
  have nl : X.env.locals ≠ a := fun z => by
    obtain ⟨m, ⟨o, es, ep, e1, e2, _⟩, _⟩ := I.loc
    rw [z, ha] at e1
    cases e1
    rw [hv] at e2
    cases e2
  have nc : ∀ x c, X.env.cells.lookup x = some c → c ≠ a := fun x c e z => by
    obtain ⟨v, o, e1, e2⟩ := I.cell x c e
    rw [z, ha] at e1
    cases e1
    rw [hv] at e2
    cases e2
  refine ⟨I.ok, I.os, I.bare, ⟨I.base.keep, I.base.slot, fun b o e n x => ?_, I.base.there, fun b xs e => kp (I.base.tups b xs e), fun b o u e => kp (I.base.frzs b o u e), fun b ps e => let ⟨m, q⟩ := I.base.tbls b ps e; ⟨m, kp q⟩⟩, I.loc, I.cell, ?_, fun x c e => ?_, fun p hp => ?_, fun b u e => ?_, I.len⟩
  · rw [upd_ne fun z => by rw [z, n0] at e; cases e]
    exact I.base.free b o e n x
  · rw [upd_ne nl]; exact I.free
  · rw [upd_ne (nc x c e)]; exact I.freeC x c e
  · obtain ⟨q1, q2, q3⟩ := I.pin p hp
    exact ⟨q1, by rw [upd_ne (np p hp)]; exact q2, q3⟩
  · by_cases z : b = a
    · subst z
      rw [upd_same] at e
      cases e
      exact ⟨⟨oe, ha, hz, vs, hv⟩, ⟨oe, ha⟩, fun h1 h2 ⟨o, e1, e2⟩ k => ⟨o, k _ e1, e2⟩⟩
    · rw [upd_ne z] at e
      exact (I.hok b u e).stay (fun _ _ _ q => q) (fun c q => kp q) fun c xs q => kp q
end

/-- the context of an except suite, what is caught being known -/
theorem inv_hot {X : Cx} {pins : List (Addr × Obj)} {σ : L2.St} {H : Hp} {s : Shared} (a : Addr) (I : Inv X pins σ H s) : Inv (X.suite a (X.pn ++ pins)) [] σ H s :=
  ⟨I.ok.suite _ _, I.os, I.bare, I.base, I.loc, I.cell, I.free, I.freeC, fun p hp => I.pin p (by simpa using hp), I.hok, I.len⟩
theorem inv_cool {X : Cx} {pins pn' : List (Addr × Obj)} {σ : L2.St} {H : Hp} {s : Shared} {a : Addr} (ok : X.Ok) (I : Inv (X.suite a (X.pn ++ pins)) pn' σ H s) : Inv X pins σ H s :=
  ⟨ok, I.os, I.bare, I.base, I.loc, I.cell, I.free, I.freeC, fun p hp => I.pin p (List.mem_append_left _ hp), I.hok, I.len⟩

/-- the test of an except clause: the classes cs -/
def ETest (X : Cx) (t : Expr) (cs : List Value) : Prop := ∀ (pins : List (Addr × Obj)) (σ : L2.St) (H : Hp) (s : Shared) (a : Addr) (cls : Value) (b : Bool) (Q : Bool → Shared → Prop) (E : Value → Shared → Prop), Inv X pins σ H s → PySem.W.Looks (model X.prog X.w) s.heap (typeOf (.ref a)) cls → PySem.W.exmAny X.K cls cs = some b →
  (∀ h', (∀ c o, s.heap.get? c = some o → h'.get? c = some o) → Q b { s with heap := h' }) → wpAny (model X.prog X.w) (X.A.mark (some (.ref a))) (eval t X.env) (fun c s1 => wpAny (model X.prog X.w) (X.A.mark (some (.ref a))) (excMatches (.ref a) c) Q E s1) E s
section
variable {X : Cx} {x x1 x2 x3 : Str} {c c1 c2 c3 : Value} {p p1 p2 p3 pos : Pos} {k : Nat}
theorem hot_name {pins : List (Addr × Obj)} {σ : L2.St} {H : Hp} {s : Shared} {a : Addr} {Q : Value → Shared → Prop} {E : Value → Shared → Prop} (I : Inv X pins σ H s) (n : Names X x c) (q : Q c s) : wpAny (model X.prog X.w) (X.A.mark (some (.ref a))) (eval (.Name x p) X.env) Q E s := by
  obtain ⟨g, db, m | ⟨m, v, nn⟩⟩ := n
  · exact ld_glob (inv_hot a I) g m q db
  · exact ld_blt (inv_hot a I) g m v q nn db
theorem et_name (n : Names X x c) : ETest X (.Name x p) [c] := fun pins σ H s a cls b Q E I LT e q => by
  obtain ⟨b1, d1, e1, e2, rfl⟩ := PySem.W.exmAny_cons e
  cases (show some false = some d1 from e2)
  have m := PySem.W.exm_one (M := model X.prog X.w) I.kIn LT e1
  exact hot_name I n (m.here (by have := q s.heap fun _ _ z => z; rwa [Bool.or_false] at this))
theorem et_tup3 (n1 : Names X x1 c1) (n2 : Names X x2 c2) (n3 : Names X x3 c3) : ETest X (.Tuple [.Name x1 p1, .Name x2 p2, .Name x3 p3] k pos) [c1, c2, c3] := fun pins σ H s a cls b Q E I LT e q => by
  have grow : ∀ c o, s.heap.get? c = some o → (s.heap.push { cls := .type "tuple", data := .seq [c1, c2, c3].toArray }).get? c = some o := fun _ _ z => Heap.get?_push_of_some _ z
  refine wpAny_Tuple (wpAny_items_cons (hot_name I n1 (wpAny_items_cons (hot_name I n2 (wpAny_items_cons (hot_name I n3 (wpAny_items_nil ⟨by size_fits, ?_⟩)))))))
  have m := PySem.W.exm_tup3 (M := model X.prog X.w) (PySem.W.Frag.In.keeps I.kIn grow) (LT.keeps grow) (Heap.get?_push_size s.heap rfl) e
  exact m.here (q _ grow)
end
end M
/-! M41: the rules for try .. except C: and try .. except C as e:, one clause. -/
namespace M
open PySem PySem.Spec PyProof.Rows L2

/-- what the clause wishes of an exception of the body -/
def wHot (n : Nat) (K : PySem.W.Frag) (cs : List Value) (hit : Addr → Addr → Option Addr → L2.St → Hp → Prop) (Wout : WX) : WX := fun cls d σ H =>
  ∃ b, PySem.W.exmAny K cls cs = some b ∧ (b = true → ∃ C, cls = .ref C ∧ ∀ a, H a = none → σ.length = n → hit a C d σ H) ∧ (b = false → Wout cls d σ H)

section
variable {X : Cx} {pins : List (Addr × Obj)}
/-- an exception in the air of X, unpacked -/
structure Air (X : Cx) (pins : List (Addr × Obj)) (a : Addr) (cls : Value) (d : Option Addr) (B : Heap) (sI : Shared) (σ : L2.St) (H : Hp) (s' : Shared) : Prop where
  I : Inv X pins σ H sI
  nb : ∀ b o, sI.heap.get? b = some o → b ∉ frs X.stack → B.get? b = some o
  up : sI.heap.UpToSlots s'.heap
  na : H a = none
  os : s'.os = sI.os
  ag : AllBare s'.gens
section
variable {a : Addr} {cls : Value} {d : Option Addr} {B h : Heap} {sI s' : Shared} {σ : L2.St} {H : Hp}
theorem Air.inv (r : Air X pins a cls d B sI σ H s') (st : B.StaysIn h) (up : s'.heap.UpToSlots h) : Inv X pins σ H { s' with heap := h } := r.I.landed r.nb st (r.up.trans up) r.os r.ag
theorem fly_nofr {oe : Obj} {vs : Array Value} {l : List Env} (fl : HandSPX.FlyingZ B l a (Zc cls d) h) (e : h.get? a = some oe) (v : oe.data = .fields vs) : a ∉ frs l := fun z => by
  obtain ⟨_, o', e', n⟩ := fl.2.2.1.mem z
  rw [e] at e'
  cases e'
  exact n _ v
/-- while it is handled, it is known -/
theorem Air.hot {oe : Obj} {C : Addr} (r : Air X pins a (.ref C) d B sI σ H s') (hs : X.stack = X.env :: X.outer) (hex : X.ex = []) (fl : HandSPX.FlyingZ B (X.env :: X.outer) a (Zc (.ref C) d) h) (up : s'.heap.UpToSlots h) (e : h.get? a = some oe) (z : Zc (.ref C) d oe) (v : ∃ vs : Array Value, oe.data = .fields vs) :
    Inv (X.suite a (X.pn ++ pins)) [] σ (upd H a (exO a C d)) { s' with heap := h } := by
  obtain ⟨vs, ev⟩ := v
  have nfr := fly_nofr fl e ev
  have nI : sI.heap.get? a = none := by
    cases q : sI.heap.get? a with
    | none => rfl
    | some o =>
      have := r.nb a o q (by rw [hs]; exact nfr)
      rw [fl.2.1] at this
      cases this
  have n0 : X.s_0.heap.get? a = none := by
    cases q : X.s_0.heap.get? a with
    | none => rfl
    | some o =>
      obtain ⟨o', q'⟩ := r.I.base.there a o q (by rw [hex]; exact List.not_mem_nil)
      rw [nI] at q'
      cases q'
  exact inv_hot a (inv_known (r.inv fl.1 up) e z ⟨vs, ev⟩ r.na n0 fun p hp q => by
    have := (r.I.pin p hp).1
    rw [q, nI] at this
    cases this)
/-- nothing catches it: it goes on -/
theorem Air.miss {Wout : WX} {Q : Flow → Shared → Prop} (r : Air X pins a cls d B sI σ H s') (hs : X.stack = X.env :: X.outer) (hf : X.env.frame = some X.env.locals) (tk : Takes X Wout) (fl : HandSPX.FlyingZ B (X.env :: X.outer) a (Zc cls d) h) (up : s'.heap.UpToSlots h) (w : Wout cls d σ H) :
    wpAny (model X.prog X.w) X.A (handleBy (.ref a) X.env []) Q X.xe { s' with heap := h } := by
  refine wpAny_handleBy_nil ?_
  obtain ⟨_, _, _, oe, vs, T, _, _, e, _, v, e1, _⟩ := id fl
  unfold PySem.passOn
  refine wpAny_bind (wpAny_field e v e1 ?_)
  rw [if_neg (show ¬ ((Value.ref T == Value.none) = true) by simp)]
  have go : wpAny (model X.prog X.w) X.A (setFlight (.ref a) X.env.frame) (fun _ s4 => wpAny (model X.prog X.w) X.A (throw (.ref a) : Sem Flow) Q X.xe s4) X.xe { s' with heap := h } := by
    rw [hf]
    exact HandSPX.setFlight_upZ fl fun h4 held up4 => wpAny_throw (tk _ _ ⟨a, B, sI, pins, σ, H, cls, d, rfl, r.I, r.nb, (r.up.trans up).trans up4, .inr (.inr (by rw [hs]; exact held)), r.na, r.os, r.ag, w⟩)
  first
    | exact wpAny_bind (wpAny_pure (wpAny_bind go))
    | exact wpAny_bind go
end

variable {t : Expr} {cs : List Value} {body suite : List Stmt} {b₀ : Stmt} {pos pos' : Pos} {tb : WX → TS} {ts : TS} {Wout : WX}
/-- the body ends, or what it raises is looked at -/
theorem try_frame {hd : ExceptHandler} {hit : Ends → Addr → Addr → Option Addr → L2.St → Hp → Prop} (hs : X.stack = X.env :: X.outer) (hf : X.env.frame = some X.env.locals)
    (hb : ∀ (W : WX) (pn : List (Addr × Obj)) (xe : Value → Shared → Prop), Takes (X.tr pn xe) W → PassesOwn (model X.prog X.w) X.A X.env xe → PSs (X.tr pn xe) body (tb W))
    (hc : ∀ (pins : List (Addr × Obj)) (D : Ends) (a : Addr) (cls : Value) (d : Option Addr) (B : Heap) (sI s' : Shared) (σ : L2.St) (H : Hp) (h : Heap), Air X pins a cls d B sI σ H s' → HandSPX.FlyingZ B (X.env :: X.outer) a (Zc cls d) h → s'.heap.UpToSlots h → wHot X.N.length X.K cs (hit D) Wout cls d σ H →
      wpAny (model X.prog X.w) X.A (handleBy (.ref a) X.env [hd]) (SP X pins D) X.xe { s' with heap := h }) :
    PS X (.Try body [hd] [] [] pos) (fun D σ H => tb (wHot X.N.length X.K cs (hit D) Wout) D σ H) := by
  refine ⟨fun pins s σ H D I h => wpAny_Try_except ?_⟩
  have ok := I.ok
  have hfr : X.A.frames = some (X.env :: X.outer) := hs ▸ ok.frames
  refine wpAny_mono ((hb (wHot X.N.length X.K cs (hit D) Wout) (X.pn ++ pins) (fun e s1 => wpAny (model X.prog X.w) X.A (noteFrame e X.env) (fun _ s2 => wpAny (model X.prog X.w) X.A (setFlight e none) (fun _ s3 => wpAny (model X.prog X.w) X.A (handleBy e X.env [hd]) (SP X pins D) X.xe s3) X.xe s2) X.xe s1) (fun u s' xx => ?_) PassesOwn.looking).run [] s σ H D (I.toTry _) h) (fun f s1 q => ?_) fun _ _ z => z
  · obtain ⟨a, B, sI, pn', σ', H', cls, d, rfl, J, nb, up, sky, na, os, ag, w⟩ := xx
    refine Sky.land Zc.steady hfr hf (by rw [← hs]; exact sky) fun h3 fl up3 => ?_
    exact hc pins D a cls d B sI s' σ' H' h3 ⟨J.ofTry ok, nb, up, na, os, ag⟩ fl up3 w
  · match f, q with
    | .next, ⟨σ', H', J, q⟩ => exact wpAny_execs_nil ⟨σ', H', J.ofTry ok, q⟩
    | .brk, ⟨σ', H', J, q⟩ => exact ⟨σ', H', J.ofTry ok, q⟩
    | .cont, ⟨σ', H', J, q⟩ => exact ⟨σ', H', J.ofTry ok, q⟩
    | .ret u, ⟨v, σ', H', J, ru, q⟩ => exact ⟨v, σ', H', J.ofTry ok, ru, q⟩
/-- except t: suite -/
theorem ps_try_hot (hs : X.stack = X.env :: X.outer) (hf : X.env.frame = some X.env.locals) (hex : X.ex = []) (T : ETest X t cs) (tk : Takes X Wout)
    (hb : ∀ (W : WX) (pn : List (Addr × Obj)) (xe : Value → Shared → Prop), Takes (X.tr pn xe) W → PassesOwn (model X.prog X.w) X.A X.env xe → PSs (X.tr pn xe) body (tb W)) (hsu : ∀ (a : Addr) (pn : List (Addr × Obj)), PSs (X.suite a pn) (b₀ :: suite) ts) :
    PS X (.Try body [.ExceptHandler (some t) none (b₀ :: suite) pos'] [] [] pos) (fun D σ H => tb (wHot X.N.length X.K cs (fun a C d σ H => ts D σ (upd H a (exO a C d))) Wout) D σ H) := by
  refine try_frame (hit := fun D a C d σ H => ts D σ (upd H a (exO a C d))) hs hf hb fun pins D a cls d B sI s' σ H h r fl up ⟨b, e, hit, mis⟩ => ?_
  obtain ⟨oe, vs, g1, g2, g3⟩ := fl.there
  have LT : PySem.W.Looks (model X.prog X.w) h (typeOf (.ref a)) cls := fun A Q E s k q => wpAny_typeOf_ref (k _ _ g1) (by rw [g2.1]; exact q)
  refine wpAny_handleBy_cons (codeAny_handlers_test (T pins σ H _ a cls b _ _ (r.inv fl.1 up) LT e fun h5 k5 => ?_)) (by intro q; cases q)
  have fl5 : HandSPX.FlyingZ B (X.env :: X.outer) a (Zc cls d) h5 := by
    obtain ⟨f1, f2, f3, oe, vs, T, oT, ts', e1, e2, e3, e4, e5⟩ := fl
    exact ⟨fun b o q => k5 b o (f1 b o q), f2, f3.of_keeps fun b o q _ => ⟨o, k5 b o q, rfl⟩, oe, vs, T, oT, ts', k5 _ _ e1, e2, e3, e4, by
      first
        | exact ⟨k5 _ _ e5.1, e5.2⟩
        | (obtain ⟨x1, x2, x3⟩ := e5; exact ⟨x1, k5 _ _ x2, x3⟩)
        | (obtain ⟨x1, x2, x3, x4⟩ := e5; exact ⟨x1, x2, k5 _ _ x3, x4⟩)⟩
  have up5 : s'.heap.UpToSlots h5 := up.trans (Heap.UpToSlots.of_keeps k5)
  cases b with
  | false => exact r.miss hs hf tk fl5 up5 (mis rfl)
  | true =>
    obtain ⟨C, eC, hit2⟩ := hit rfl
    subst eC
    refine codeAny_handlers_suite (HandSPX.lands_againZ fl5 fun h6 fl6 up6 => ?_)
    obtain ⟨o6, v6, q1, q2, q3⟩ := fl6.there
    have I6 := r.hot hs hex fl6 (up5.trans up6) q1 q2 ⟨v6, q3⟩
    refine wpAny_mono ((hsu a (X.pn ++ pins)).run [] _ _ _ D I6 (hit2 a r.na r.I.len)) (fun f s7 q => ?_) fun _ _ z => z.elim
    match f, q with
    | .next, ⟨σ', H', J, q⟩ => exact ⟨σ', H', inv_cool r.I.ok J, q⟩
    | .brk, ⟨σ', H', J, q⟩ => exact ⟨σ', H', inv_cool r.I.ok J, q⟩
    | .cont, ⟨σ', H', J, q⟩ => exact ⟨σ', H', inv_cool r.I.ok J, q⟩
    | .ret u, ⟨v, σ', H', J, ru, q⟩ => exact ⟨v, σ', H', inv_cool r.I.ok J, ru, q⟩
/-- except t as n: suite -/
theorem ps_try_hotAs {n : Str} {i : Nat} (hN : X.N.Nodup) (hi : X.N[i]? = some n) (hln : X.env.kindOf n = some .local) (hs : X.stack = X.env :: X.outer) (hf : X.env.frame = some X.env.locals) (hex : X.ex = []) (T : ETest X t cs) (tk : Takes X Wout)
    (hb : ∀ (W : WX) (pn : List (Addr × Obj)) (xe : Value → Shared → Prop), Takes (X.tr pn xe) W → PassesOwn (model X.prog X.w) X.A X.env xe → PSs (X.tr pn xe) body (tb W)) (hsu : ∀ (a : Addr) (pn : List (Addr × Obj)), PSs (X.suite a pn) (b₀ :: suite) ts) :
    PS X (.Try body [.ExceptHandler (some t) (some n) (b₀ :: suite) pos'] [] [] pos) (fun D σ H => tb (wHot X.N.length X.K cs (fun a C d σ H => ts { nx := fun σ H => D.nx (σ.set i none) H, rt := D.rt, bk := fun σ H => D.bk (σ.set i none) H, ct := fun σ H => D.ct (σ.set i none) H } (σ.set i (some (.ref a))) (upd H a (exO a C d))) Wout) D σ H) := by
  refine try_frame (hit := fun D a C d σ H => ts { nx := fun σ H => D.nx (σ.set i none) H, rt := D.rt, bk := fun σ H => D.bk (σ.set i none) H, ct := fun σ H => D.ct (σ.set i none) H } (σ.set i (some (.ref a))) (upd H a (exO a C d))) hs hf hb fun pins D a cls d B sI s' σ H h r fl up ⟨b, e, hit, mis⟩ => ?_
  obtain ⟨oe, vs, g1, g2, g3⟩ := fl.there
  have LT : PySem.W.Looks (model X.prog X.w) h (typeOf (.ref a)) cls := fun A Q E s k q => wpAny_typeOf_ref (k _ _ g1) (by rw [g2.1]; exact q)
  refine wpAny_handleBy_cons (codeAny_handlers_test (T pins σ H _ a cls b _ _ (r.inv fl.1 up) LT e fun h5 k5 => ?_)) (by intro q; cases q)
  have fl5 : HandSPX.FlyingZ B (X.env :: X.outer) a (Zc cls d) h5 := by
    obtain ⟨f1, f2, f3, oe, vs, T, oT, ts', e1, e2, e3, e4, e5⟩ := fl
    exact ⟨fun b o q => k5 b o (f1 b o q), f2, f3.of_keeps fun b o q _ => ⟨o, k5 b o q, rfl⟩, oe, vs, T, oT, ts', k5 _ _ e1, e2, e3, e4, by
      first
        | exact ⟨k5 _ _ e5.1, e5.2⟩
        | (obtain ⟨x1, x2, x3⟩ := e5; exact ⟨x1, k5 _ _ x2, x3⟩)
        | (obtain ⟨x1, x2, x3, x4⟩ := e5; exact ⟨x1, x2, k5 _ _ x3, x4⟩)⟩
  have up5 : s'.heap.UpToSlots h5 := up.trans (Heap.UpToSlots.of_keeps k5)
  cases b with
  | false => exact r.miss hs hf tk fl5 up5 (mis rfl)
  | true =>
    obtain ⟨C, eC, hit2⟩ := hit rfl
    subst eC
    refine codeAny_handlers_suite_as (HandSPX.lands_againZ fl5 fun h6 fl6 up6 => ?_)
    obtain ⟨o6, v6, q1, q2, q3⟩ := fl6.there
    have I6 := r.hot hs hex fl6 (up5.trans up6) q1 q2 ⟨v6, q3⟩
    refine store_ok (X := X.suite a (X.pn ++ pins)) (v := .ref a) I6 hN hi (.inl hln) rfl (fun s7 I7 => ?_) (.inr hln)
    refine wpAny_mono ((hsu a (X.pn ++ pins)).run [] _ _ _ _ I7 (hit2 a r.na r.I.len)) (fun f s8 q => ?_) fun _ _ z => z.elim
    match f, q with
    | .next, ⟨σ', H', J, q⟩ => exact gone_ok (inv_cool r.I.ok J) hN hi hln fun s9 J9 => ⟨_, _, J9, q⟩
    | .brk, ⟨σ', H', J, q⟩ => exact gone_ok (inv_cool r.I.ok J) hN hi hln fun s9 J9 => ⟨_, _, J9, q⟩
    | .cont, ⟨σ', H', J, q⟩ => exact gone_ok (inv_cool r.I.ok J) hN hi hln fun s9 J9 => ⟨_, _, J9, q⟩
    | .ret u, ⟨v, σ', H', J, ru, q⟩ => exact gone_ok (inv_cool r.I.ok J) hN hi hln fun s9 J9 => ⟨_, _, _, J9, ru, q⟩
end
end M
/-! M42: try .. except over data. -/
namespace M
open PySem PySem.Spec PyProof.Rows L2

/-- own classes of errors, each with the own classes that it is a case of -/
abbrev XN := List (Str × List Str)
def caughtB (An : XN) (cs : List Str) (c : Str) : Option Bool := (An.lookup c).map fun as => cs.any as.contains
/-- what an own class of errors must say -/
structure ErrC (K : PySem.W.Frag) (C : Addr) : Prop where
  ga : PySem.W.findIn K (.ref C) "__getattribute__" = some (some (.builtin "BaseException.__getattribute__"))
  gg : PySem.W.findIn K (.ref C) "__getattr__" = some none
  ex : PySem.W.subIn K (.ref C) (.type "BaseException") = some true
  hd : PySem.W.hasDictIn K C = true
  cl : PySem.W.findIn K (.ref C) "__class__" = some (some (.builtin "object.__class__"))
  gt : PySem.W.specialIn K (.builtin "object.__class__") "__get__" = some (some (.builtin "getset_descriptor.__get__"))
  tk : PySem.W.takesIn K (.builtin "object.__class__") = some true
  ob : PySem.W.mroIn K C (.type "object") = some true
  f1 : PySem.W.findIn K (.ref C) "given" = some none
  f2 : PySem.W.findIn K (.ref C) "index" = some none
structure ErrK (K : PySem.W.Frag) (ca : Cax) (An : XN) : Prop where
  cls : ∀ p ∈ An, ErrC K (ca p.1)
  one : ∀ p ∈ An, ∀ q ∈ An, PySem.W.exmOne K (.ref (ca p.1)) (.ref (ca q.1)) = some (p.2.contains q.1)
  kit : ∀ p ∈ An, ∀ q ∈ An, PySem.W.kitOne K (.ref (ca p.1)) (.ref (ca q.1)) = some (p.2.contains q.1)
theorem ErrK.any {K : PySem.W.Frag} {ca : Cax} {An : XN} (ek : ErrK K ca An) {p : Str × List Str} (hp : p ∈ An) : ∀ {cs : List Str}, (cs.all fun x => (An.map (·.1)).contains x) = true → PySem.W.exmAny K (.ref (ca p.1)) (cs.map fun x => .ref (ca x)) = some (cs.any p.2.contains)
  | [], _ => rfl
  | x :: cs, h => by
    obtain ⟨h1, h2⟩ := Bool.and_eq_true_iff.mp h
    obtain ⟨q, hq, rfl⟩ := List.mem_map.mp (List.contains_iff_mem.mp h1)
    show (match PySem.W.exmOne K (.ref (ca p.1)) (.ref (ca q.1)), PySem.W.exmAny K (.ref (ca p.1)) (cs.map fun x => .ref (ca x)) with
      | some b, some d => some (b || d)
      | _, _ => none) = _
    rw [ek.one p hp q hq, ErrK.any ek hp h2]
    rfl

/-- the same def, from a later state on -/
abbrev Gc.reb (G : Gc) (F0 : Addr → Prop) (H0 : Hp) (fp0 : List Addr) (t : LamX.Tabs G.ca.tb H0) : Gc := ⟨G.K, G.ca, G.pm, F0, H0, fp0, t⟩
def EndD.at_ (D : EndD) : Option Nat → EndD
  | none => D
  | some i => { nx := fun ρ => D.nx (ρ.set i none), rt := D.rt, bk := fun ρ => D.bk (ρ.set i none), ct := fun ρ => D.ct (ρ.set i none) }
def setO (ρ : Sl) : Option Nat → D → Sl
  | none, _ => ρ
  | some i, d => ρ.set i (some d)
/-- try: wb / except cs (as i): ws -/
def wTry (An : XN) (cs : List Str) (oi : Option Nat) (wb : DXs → WS) (ws : WS) (Ex : DXs) : WS := fun Dd ρ =>
  wb (fun c fs xs ρ1 => ∃ b, caughtB An cs c = some b ∧ (b = true → ws (Dd.at_ oi) (setO ρ1 oi (.exc c fs xs))) ∧ (b = false → Ex c fs xs ρ1)) Dd ρ

section
variable {G : Gc} {X : Cx} {F F' : Addr → Prop} {H H' : Hp} {σ σ' : L2.St} {ρ ρ' : Sl} {fp fp' : List Addr} {Dd : EndD} {De : Ends} {t0 : LamX.Tabs G.ca.tb H}
theorem Ok.rebase (ok : Ok G F H σ ρ fp) (t : LamX.Tabs G.ca.tb H) : Ok (G.reb F H fp t) F H σ ρ fp := ⟨ok.rs, ok.nd, ok.dom, ok.pm, .refl⟩
theorem Ok.unreb (ok : Ok G F H σ ρ fp) (k : Ok (G.reb F H fp t0) F' H' σ' ρ' fp') : Ok G F' H' σ' ρ' fp' := ⟨k.rs, k.nd, k.dom, k.pm, ok.rch.trans k.rch⟩
theorem EnS.rebase (ok : Ok G F H σ ρ fp) (e : EnS G F H fp Dd De) : EnS (G.reb F H fp t0) F H fp Dd De :=
  ⟨fun σ' H' F' ρ' fp' s k q => e.nx σ' H' F' ρ' fp' s (ok.unreb k) q, fun v σ' H' F' ρ' fp' r fr s k nd rr q => e.rt v σ' H' F' ρ' fp' r fr s (ok.unreb k) nd rr q, fun σ' H' F' ρ' fp' s k q => e.bk σ' H' F' ρ' fp' s (ok.unreb k) q, fun σ' H' F' ρ' fp' s k q => e.ct σ' H' F' ρ' fp' s (ok.unreb k) q⟩
theorem Ok.clear {i : Nat} (ok : Ok G F H σ ρ fp) (hpm : ∀ p ∈ G.pm, p.1 ≠ i) : ∃ fp', Ok G F H (σ.set i none) (ρ.set i none) fp' ∧ ∀ a ∈ fp', a ∈ fp := by
  by_cases hi : i < ρ.length
  · obtain ⟨l, fr, r, e, _, _, h3, _⟩ := ok.rs.at_ hi
    refine ⟨l ++ r, ⟨h3 none, ?_, ok.dom, fun p hp => ?_, ok.rch.less fun a z => ?_⟩, fun a z => ?_⟩
    · have := ok.nd
      rw [e] at this
      exact this.sublist (by rw [List.append_assoc]; exact (List.Sublist.refl l).append (List.sublist_append_right _ _))
    · rw [List.getElem?_set_ne (Ne.symm (hpm p hp))]; exact ok.pm p hp
    · rw [e]; rcases List.mem_append.mp z with z | z <;> simp [z]
    · rw [e]; rcases List.mem_append.mp z with z | z <;> simp [z]
  · have h1 : ρ.set i none = ρ := List.set_eq_of_length_le (by omega)
    have h2 : σ.set i none = σ := List.set_eq_of_length_le (by rw [ok.rs.length]; omega)
    exact ⟨fp, by rw [h1, h2]; exact ok, fun _ z => z⟩
/-- the ends of a suite whose name goes -/
theorem EnS.named {i : Nat} (hpm : ∀ p ∈ G.pm, p.1 ≠ i) (e : EnS G F H fp Dd De) : EnS G F H fp (Dd.at_ (some i)) { nx := fun σ H => De.nx (σ.set i none) H, rt := De.rt, bk := fun σ H => De.bk (σ.set i none) H, ct := fun σ H => De.ct (σ.set i none) H } := by
  refine ⟨fun σ' H' F' ρ' fp' s k q => ?_, e.rt, fun σ' H' F' ρ' fp' s k q => ?_, fun σ' H' F' ρ' fp' s k q => ?_⟩
  all_goals obtain ⟨fq, k2, sub⟩ := k.clear hpm
  · exact e.nx _ _ _ _ _ (s.less sub) k2 q
  · exact e.bk _ _ _ _ _ (s.less sub) k2 q
  · exact e.ct _ _ _ _ _ (s.less sub) k2 q
/-- caught: it is data -/
theorem Ok.caught {a x : Addr} {c : Str} {fs : List Str} {us : List V} {xs : List D} (ok : Ok G F H σ ρ fp) (na : H a = none) (hx : H x = some (.xd (fs.zip us))) (hl : fs.length = us.length) (rx : RpL G.K G.ca F H us xs []) :
    Ok G F (upd H a (exO a (G.ca c) (some x))) σ ρ fp ∧ Step G.ca.tb F H fp F (upd H a (exO a (G.ca c) (some x))) fp ∧ Rp G.K G.ca F (upd H a (exO a (G.ca c) (some x))) (.ref a) (.exc c fs xs) [] := by
  have en := En.tup (o := exO a (G.ca c) (some x)) ok na
  have st : Step G.ca.tb F H fp F (upd H a (exO a (G.ca c) (some x))) fp := en.st
  refine ⟨en.ok, st, .exc (d := some x) upd_same ?_ hl (rx.step st ok.nf fun _ z => nomatch z)⟩
  show upd H a _ x = _
  rw [upd_ne (ne_of_none hx na)]
  exact hx
end

section
variable {G : Gc} {X : Cx} {An : XN} {cs : List Str} {t : Expr} {body suite : List Stmt} {b₀ : Stmt} {pos pos' : Pos} {wb : DXs → WS} {ws : WS} {Ex : DXs} {W : WX}
theorem ds_try (ek : ErrK X.K G.ca An) (hcs : (cs.all fun x => (An.map (·.1)).contains x) = true) (hs : X.stack = X.env :: X.outer) (hf : X.env.frame = some X.env.locals) (hex : X.ex = []) (T : ETest X t (cs.map fun x => .ref (G.ca x))) (tk : Takes X W) (lk : XLk G Ex W)
    (hb : ∀ F0 H0 fp0 (t0 : LamX.Tabs G.ca.tb H0) (Ex' : DXs) (W' : WX) (pn : List (Addr × Obj)) (xe : Value → Shared → Prop), Takes (X.tr pn xe) W' → XLk (G.reb F0 H0 fp0 t0) Ex' W' → PassesOwn (model X.prog X.w) X.A X.env xe → PSs (X.tr pn xe) body (LS (G.reb F0 H0 fp0 t0) (wb Ex')))
    (hsu : ∀ (a : Addr) (pn : List (Addr × Obj)), PSs (X.suite a pn) (b₀ :: suite) (LS G ws)) :
    PS X (.Try body [.ExceptHandler (some t) none (b₀ :: suite) pos'] [] [] pos) (LS G (wTry An cs none wb ws Ex)) := by
  refine imS (ps_try_hot (tb := fun W' D σ H => ∃ F ρ fp t0 Ex' Dd, Ok G F H σ ρ fp ∧ XLk (G.reb F H fp t0) Ex' W' ∧ wb Ex' Dd ρ ∧ EnS G F H fp Dd D) hs hf hex T tk (fun W' pn xe tk' po => ⟨fun pins s σ H D I ⟨F, ρ, fp, t0, Ex', Dd, ok, lk', h, e⟩ => ?_⟩) hsu) fun D σ H q => ?_
  · exact (hb F H fp t0 Ex' W' pn xe tk' lk' po).run pins s σ H D I ⟨F, ρ, fp, Dd, ok.rebase t0, h, e.rebase ok⟩
  · obtain ⟨F, ρ, fp, Dd, ok, h, e⟩ := q
    refine ⟨F, ρ, fp, ok.rch.tab G.tb0, _, Dd, ok, fun c x σ' H' F' ρ' fp' fs us xs k hx hl rx ⟨b, eb, hit, mis⟩ => ?_, h, e⟩
    have k2 := ok.unreb k
    obtain ⟨as, ea, rfl⟩ := Option.map_eq_some_iff.mp eb
    refine ⟨_, ek.any (p := (c, as)) (PySem.mem_of_lookup ea) hcs, fun hb => ⟨G.ca c, rfl, fun a na _ => ?_⟩, fun hb => lk c x σ' H' F' ρ' fp' fs us xs k2 hx hl rx (mis hb)⟩
    obtain ⟨k3, st, rp⟩ := k2.caught (c := c) na hx hl rx
    exact ⟨F', ρ', fp', Dd, k3, hit hb, e.after (G := G) ((show Step G.ca.tb F H fp F' H' fp' from k.rch).trans st)⟩
theorem ds_tryAs {n : Str} {i : Nat} (hN : X.N.Nodup) (hi : X.N[i]? = some n) (hln : X.env.kindOf n = some .local) (hpm : ∀ p ∈ G.pm, p.1 ≠ i) (ek : ErrK X.K G.ca An) (hcs : (cs.all fun x => (An.map (·.1)).contains x) = true) (hs : X.stack = X.env :: X.outer) (hf : X.env.frame = some X.env.locals) (hex : X.ex = []) (T : ETest X t (cs.map fun x => .ref (G.ca x))) (tk : Takes X W) (lk : XLk G Ex W)
    (hb : ∀ F0 H0 fp0 (t0 : LamX.Tabs G.ca.tb H0) (Ex' : DXs) (W' : WX) (pn : List (Addr × Obj)) (xe : Value → Shared → Prop), Takes (X.tr pn xe) W' → XLk (G.reb F0 H0 fp0 t0) Ex' W' → PassesOwn (model X.prog X.w) X.A X.env xe → PSs (X.tr pn xe) body (LS (G.reb F0 H0 fp0 t0) (wb Ex')))
    (hsu : ∀ (a : Addr) (pn : List (Addr × Obj)), PSs (X.suite a pn) (b₀ :: suite) (LS G ws)) :
    PS X (.Try body [.ExceptHandler (some t) (some n) (b₀ :: suite) pos'] [] [] pos) (LS G (wTry An cs (some i) wb ws Ex)) := by
  refine imS (ps_try_hotAs (tb := fun W' D σ H => ∃ F ρ fp t0 Ex' Dd, Ok G F H σ ρ fp ∧ XLk (G.reb F H fp t0) Ex' W' ∧ wb Ex' Dd ρ ∧ EnS G F H fp Dd D) hN hi hln hs hf hex T tk (fun W' pn xe tk' po => ⟨fun pins s σ H D I ⟨F, ρ, fp, t0, Ex', Dd, ok, lk', h, e⟩ => ?_⟩) hsu) fun D σ H q => ?_
  · exact (hb F H fp t0 Ex' W' pn xe tk' lk' po).run pins s σ H D I ⟨F, ρ, fp, Dd, ok.rebase t0, h, e.rebase ok⟩
  · obtain ⟨F, ρ, fp, Dd, ok, h, e⟩ := q
    refine ⟨F, ρ, fp, ok.rch.tab G.tb0, _, Dd, ok, fun c x σ' H' F' ρ' fp' fs us xs k hx hl rx ⟨b, eb, hit, mis⟩ => ?_, h, e⟩
    have k2 := ok.unreb k
    obtain ⟨as, ea, rfl⟩ := Option.map_eq_some_iff.mp eb
    refine ⟨_, ek.any (p := (c, as)) (PySem.mem_of_lookup ea) hcs, fun hb => ⟨G.ca c, rfl, fun a na _ => ?_⟩, fun hb => lk c x σ' H' F' ρ' fp' fs us xs k2 hx hl rx (mis hb)⟩
    obtain ⟨k3, st, rp⟩ := k2.caught (c := c) na hx hl rx
    by_cases hlt : i < ρ'.length
    · obtain ⟨fq, k4, sub⟩ := k3.setV hlt hpm rp (fun _ z => nomatch z) List.nodup_nil fun _ z => nomatch z
      exact ⟨F', _, fq, Dd.at_ (some i), k4, hit hb, (e.after (G := G) (((show Step G.ca.tb F H fp F' H' fp' from k.rch).trans st).less fun a z => by simpa using sub a z)).named hpm⟩
    · have h1 : ρ'.set i (some (.exc c fs xs)) = ρ' := List.set_eq_of_length_le (by omega)
      have h2 : σ'.set i (some (.ref a)) = σ' := List.set_eq_of_length_le (by rw [k2.rs.length]; omega)
      have h4 : ws (Dd.at_ (some i)) (ρ'.set i (some (.exc c fs xs))) := hit hb
      rw [h1] at h4
      rw [h2]
      exact ⟨F', ρ', fp', Dd.at_ (some i), k3, h4, (e.after (G := G) ((show Step G.ca.tb F H fp F' H' fp' from k.rch).trans st)).named hpm⟩
end
end M
/-! M43: isinstance(e, C), e.f of a caught exception. -/
namespace M
open PySem PySem.Spec PyProof.Rows L2

section
variable {X : Cx} {pins : List (Addr × Obj)} {σ : L2.St} {H : Hp} {s : Shared} {a C : Addr} {d : Option Addr} {kvs : List (Str × V)}
theorem exc_inst (I : Inv X pins σ H s) (e : H a = some (exO a C d)) (x : XdAt H d kvs) : ∃ oe od, PySem.W.InstAt s.heap a oe C od := by
  have q : ObjOk X.prog X.w H s.heap a (exO a C d) := I.hok a _ e
  obtain ⟨⟨oe, e1, z, vs, v⟩, _⟩ := q
  have nc : PySem.W.notCls oe = true := by unfold PySem.W.notCls; rw [v]
  cases d with
  | none => exact ⟨oe, none, e1, z.1, nc, by rw [z.2]; trivial⟩
  | some dx =>
    have hx : ObjOk X.prog X.w H s.heap dx (.xd kvs) := I.hok dx _ x
    obtain ⟨mA, hns, _⟩ := hx
    obtain ⟨od, ho, _⟩ := lookIn_ns hns
    exact ⟨oe, some od, e1, z.1, nc, by rw [z.2]; exact ho⟩
/-- isinstance(e, c) of exceptions -/
def rIsE (K : PySem.W.Frag) : List V → Hp → VK → Prop := fun xs H Q => ∃ (a C D : Addr) (d : Option Addr) (kvs : List (Str × V)) (b : Bool), xs = [.ref a, .ref D] ∧ H a = some (exO a C d) ∧ XdAt H d kvs ∧ ErrC K C ∧ PySem.W.kitOne K (.ref C) (.ref D) = some b ∧ Q (.bl b) H
theorem call_isErr : CallR X (.builtin "isinstance") (rIsE X.K) := by
  intro pins s σ H xs us Q I r h
  obtain ⟨a, C, D, d, kvs, b, rfl, e, x, c, k, q⟩ := h
  match us, r with
  | [u, v], .cons ru (.cons rv .nil) =>
    have eu : u = Value.ref a := ru
    have ev : v = Value.ref D := rv
    subst eu ev
    obtain ⟨oe, od, J⟩ := exc_inst I e x
    obtain ⟨cd, hc, _⟩ := PySem.W.any_some c.hd
    exact PySem.W.kia_one (PySem.W.kitx_exc (by rw [hc]; rfl) c.ga c.gg c.ex c.cl c.gt c.tk c.ob) I.kIn J k (fun z => nomatch z) fun tk => ⟨.bl b, H, I.kept (t' := tk) fun _ _ z => z, rfl, q⟩
/-- e.f -/
def tXfd (K : PySem.W.Frag) (f : Str) (te : TE) : TE := fun σ H Q => te σ H fun x H1 => ∃ (a C dd : Addr) (fs : List (Str × V)) (v : V), x = .ref a ∧ H1 a = some (exO a C (some dd)) ∧ H1 dd = some (.xd fs) ∧ ErrC K C ∧ PySem.W.findIn K (.ref C) f = some none ∧ fs.lookup f = some v ∧ Q v H1
theorem pe_xfd {e : Expr} {te : TE} {f : Str} {pos : Pos} (he : PE X e te) (hb : attributeBase e f X.env (eval e X.env) = eval e X.env := by rfl) : PE X (.Attribute e f pos) (tXfd X.K f te) := by
  refine ⟨fun pins s σ H Q I h => attr_of hb (thn (he.run pins s σ H _ I h) fun u s1 ⟨x, H1, I1, rx, a, C, dd, fs, v, ex, ea, ed, c, no, l, q⟩ => ?_)⟩
  subst ex
  have eu : u = Value.ref a := rx
  subst eu
  have qa : ObjOk X.prog X.w H1 s1.heap a (exO a C (some dd)) := I1.hok a _ ea
  obtain ⟨⟨oe, e1, z, vs, hv⟩, _⟩ := qa
  have hx : ObjOk X.prog X.w H1 s1.heap dd (.xd fs) := I1.hok dd _ ed
  obtain ⟨mA, hns, hr⟩ := hx
  obtain ⟨od, ho, hl⟩ := lookIn_ns hns
  obtain ⟨u, hu, ru⟩ := RelO.some_of (v := v) (o := mA f) (by rw [← l]; exact hr f)
  have J : PySem.W.InstAt s1.heap a oe C (some od) := ⟨e1, z.1, by unfold PySem.W.notCls; rw [hv], by rw [z.2]; exact ho⟩
  exact HandSPX.exc_get I1.kIn J c.ga c.gg c.ex (PySem.W.findObj_own c.hd no rfl (by rw [hl, hu])) (handed_of ru) ⟨v, H1, I1.tok _, ru, q⟩
end

section
variable {G : Gc} {X : Cx} {K : PySem.W.Frag} {ca : Cax} {F : Addr → Prop} {H : Hp} {v : V} {fr : List Addr} {An : XN} {we : WE} {e : Expr} {pos : Pos}
theorem Rp.exc_ {c : Str} {fs : List Str} {xs : List D} (h : Rp K ca F H v (.exc c fs xs) fr) : ∃ a d vs, v = .ref a ∧ H a = some (exO a (ca c) d) ∧ XdAt H d (fs.zip vs) ∧ fs.length = vs.length ∧ RpL K ca F H vs xs [] := by
  cases h with
  | exc e x l r => exact ⟨_, _, _, rfl, e, x, l, r⟩
/-- isinstance(e, c) -/
def wIsE (An : XN) (c : Str) (we : WE) : WE := fun ρ Q => we ρ fun x ρ1 => ∃ c0 fs xs b, pk ρ1 x = some (.exc c0 fs xs) ∧ caughtB An [c] c0 = some b ∧ Q (.bl b) ρ1
theorem d_isE {c : Str} {p1 p2 : Pos} (ek : ErrK X.K G.ca An) (hc : (An.map (·.1)).contains c = true) (hmC : X.mg c = some (.ref (G.ca c))) (hg : Gl X "isinstance") (hm : X.mg "isinstance" = none) (he : PE X e (LE G we)) (hgC : Gl X c := by rfl) (hd : (c == ("__debug__" : Str)) = false := by decide)
    (h1 : starEach [e, .Name c p2] X.env = (false, eval e X.env) :: starEach [.Name c p2] X.env := by rfl) (h2 : starEach [.Name c p2] X.env = (false, eval (.Name c p2) X.env) :: starEach [] X.env := by rfl) (hpl : (backTo pos (starEach [.Name c p2] X.env)).any (·.1) = false := by rfl) :
    PE X (.Call (.Name "isinstance" p1) [e, .Name c p2] [] pos) (LE G (wIsE An c we)) :=
  imE (pe_callB (t := tCons (LE G we) (tCons (tC (.ref (G.ca c))) tNil)) call_isErr hg hm (by decide +kernel) (pa_cons he (pa_cons (pe_glob (v := .ref (G.ca c)) hgC hmC rfl hd) pa_nil h2) h1) (by decide) (by decide) h1 hpl) fun σ H Q q => by
    obtain ⟨F, ρ, fp, Qd, ok, h, k⟩ := q
    refine ⟨F, ρ, fp, _, ok, h, fun v H1 F1 ρ1 fp1 x f1 en rr q => ?_⟩
    obtain ⟨c0, fs, xs, b, e1, eb, q⟩ := q
    obtain ⟨_, rp, _⟩ := rr.see en.ok e1
    obtain ⟨a, d, vs, rfl, ea, xd, _, _⟩ := rp.exc_
    obtain ⟨as, el, rfl⟩ := Option.map_eq_some_iff.mp eb
    have mem := PySem.mem_of_lookup el
    obtain ⟨p, hp, rfl⟩ := List.mem_map.mp (List.contains_iff_mem.mp hc)
    have kk := ek.kit (c0, as) mem p hp
    refine ⟨a, G.ca c0, G.ca p.1, d, _, _, rfl, ea, xd, ek.cls _ mem, kk, ?_⟩
    have e2 : ([p.1].any as.contains) = as.contains p.1 := by simp
    rw [e2] at q
    exact k _ H1 F1 ρ1 fp1 _ [] (en.drop (En.refl en.ok)) (.inl (.bl _)) q
/-- e.given, e.index -/
def wXf (An : XN) (f : Str) (we : WE) : WE := fun ρ Q => we ρ fun x ρ1 => ∃ c fs xs d, pk ρ1 x = some (.exc c fs xs) ∧ (An.lookup c).isSome = true ∧ getX f fs xs = some d ∧ Q d ρ1
theorem d_xf {f : Str} (ek : ErrK X.K G.ca An) (hf : f = "given" ∨ f = "index") (he : PE X e (LE G we)) (hb : attributeBase e f X.env (eval e X.env) = eval e X.env := by rfl) : PE X (.Attribute e f pos) (LE G (wXf An f we)) := imE (pe_xfd he hb) fun σ H Q q => by
  obtain ⟨F, ρ, fp, Qd, ok, h, k⟩ := q
  refine ⟨F, ρ, fp, _, ok, h, fun v1 H1 F1 ρ1 fp1 x f1 en rr q => ?_⟩
  obtain ⟨c, fs, xs, d, e1, es, e2, q⟩ := q
  obtain ⟨_, rp, _⟩ := rr.see en.ok e1
  obtain ⟨a, dx, vs, rfl, ea, xd, l, rl⟩ := rp.exc_
  obtain ⟨as, el⟩ := Option.isSome_iff_exists.mp es
  have c' := ek.cls _ (PySem.mem_of_lookup el)
  obtain ⟨u, eu, ru⟩ := rl.getX e2
  cases dx with
  | none =>
    have z : fs.zip vs = [] := xd
    rw [← getX_lookup, z] at eu
    cases eu
  | some dx => exact ⟨a, G.ca c, dx, _, u, rfl, ea, xd, c', hf.elim (fun z => z ▸ c'.f1) fun z => z ▸ c'.f2, by rw [getX_lookup]; exact eu, k u H1 F1 ρ1 fp1 d [] (en.drop (En.refl en.ok)) (.inl ru) q⟩
end
end M
/-! M44: raise C(e), C an own exception class whose __init__ keeps e in one field. -/
namespace M
open PySem PySem.Spec PyProof.Rows L2

/-- __init__(self, y): self.f = y, while the exception is being made -/
def spXi (K : PySem.W.Frag) (C : Addr) (f : Str) : Sp := fun vs H Q _ => ∃ (a : Addr) (y : V), vs = [.ref a, y] ∧ OexC K C ∧ PySem.W.findIn K (.ref C) f = some none ∧ H a = some (exo a C none) ∧
  ∀ dx, H dx = none → dx ≠ a → Q .non (upd (upd H dx (exd dx [(f, y)])) a (exo a C (some dx)))
/-- the body of such an __init__ -/
def isXi (N : List Str) (f : Str) (body : List Stmt) : Prop := ∃ (s p : Str) (a b c d : Pos), N = [s, p] ∧ body = [.Assign [.Attribute (.Name s a) f b] (.Name p c) d]
/-- an own exception class with one field -/
structure Xcl (P : Program) (w : World) (K : PySem.W.Frag) (ca : Cax) (mg : Str → Option Value) (base : Heap) (c f : Str) : Prop where
  ex : ∃ (fI : Addr) (fd : FuncData) (ps : List Str) (k : Nat), k ≤ 1 ∧ FnOk P w K mg base L2.CX0 k fI fd ps (spXi K (ca c) f) ∧ PySem.W.findIn K (.ref (ca c)) "__init__" = some (some (.ref fI)) ∧ PySem.W.typeIn K (.ref fI) = some (.type "function") ∧ Binds K fd ps []
  oex : OexC K (ca c)
  no : PySem.W.findIn K (.ref (ca c)) f = some none
  gl : mg c = some (.ref (ca c))
def wRaise (c f : Str) (Ex : DXs) (we : WE) : WS := fun Dd ρ => we ρ fun x ρ1 => ∃ d ρ2, fzR ρ1 x = some (d, ρ2) ∧ Ex c [f] [d] ρ2
section
variable {G : Gc} {X : Cx} {c f : Str} {e : Expr} {we : WE} {p pos pos' : Pos} {k : Nat} {Ex : DXs} {W : WX}
theorem upd_del {H : Hp} {a d : Addr} {o u v : HO} (hd : d ≠ a) (ha : H a = none) : upd (del (upd (upd (upd H a o) d u) a v) a) d w = upd H d w := by
  funext b
  by_cases h1 : b = d
  · rw [h1, upd_same, upd_same]
  · rw [upd_ne h1, upd_ne h1]
    by_cases h2 : b = a
    · rw [h2, del_same, ha]
    · rw [del_ne h2, upd_ne h2, upd_ne h1, upd_ne h2]
theorem ds_raise (xc : Xcl X.prog X.w X.K G.ca X.mg X.base c f) (hr : RoomG k X.A) (hc : X.calm = true) (tk : Takes X W) (lk : XLk G Ex W) (he : PE X e (LE G we)) (hK : X.K = G.K := by rfl) (hk : 2 ≤ k := by decide) (hg : Gl X c := by rfl)
    (hdb : (c == ("__debug__" : Str)) = false := by decide) (hs : starEach [e] X.env = (false, eval e X.env) :: starEach [] X.env := by rfl) (hpl : (backTo pos (starEach [] X.env)).any (·.1) = false := by rfl) :
    PS X (.Raise (some (.Call (.Name c p) [e] [] pos)) none pos') (LS G (wRaise c f Ex we)) := by
  obtain ⟨fI, fd, ps, j, hj, F, iC, tI, bd⟩ := xc.ex
  refine imS (ps_raise hc tk (pmk_oex xc.oex iC tI F (hr.rm.mono (show j + 1 ≤ k by omega)) bd .nil (fun _ _ _ _ _ _ _ z => z.elim) hg xc.gl (da_cons he da_nil hs) hdb hs hpl)) fun D σ H q => ?_
  obtain ⟨F0, ρ, fp, Dd, ok, h, _⟩ := q
  refine ⟨F0, ρ, fp, fun rs ρ1 => (match rs with
    | [x] => ∃ d ρ2, fzR ρ1 x = some (d, ρ2) ∧ Ex c [f] [d] ρ2
    | _ => False), ok, h, fun vs H1 F1 ρ1 fp1 rs fr en rr q => ?_⟩
  match rs, q, rr with
  | [x], q, rr =>
    obtain ⟨d, ρ2, ef, hx⟩ := q
    obtain ⟨v, rfl, r1⟩ := rr.one
    obtain ⟨F2, fp2, sh, rp⟩ := r1.share en.ok en.nd (en.hr ok) ef
    refine ⟨by simp, fun a ha => ⟨a, v, rfl, xc.oex, xc.no, upd_same, fun dx hdx hne => ?_⟩⟩
    have hdx : H1 dx = none := by rw [upd_ne hne] at hdx; exact hdx
    refine ⟨rfl, dx, [(f, v)], upd_same, by rw [upd_ne hne, upd_same], hdx, ?_⟩
    rw [upd_del hne ha]
    exact lk c dx σ _ F2 ρ2 fp2 [f] [v] [d] (sh.ok.new hdx) upd_same rfl (.cons (fp := []) (fq := []) (rp.new hdx) .nil) hx
end
/-- an __init__ that keeps its one argument in a field -/
theorem xinit_ok {P : Program} {w : World} {K : PySem.W.Frag} {mg : Str → Option Value} {base : Heap} {qual f : Str} {params : Arguments} {scope : Scope} {dvs : List V} {kws : List (Str × V)} {fI C : Addr} {fd : FuncData} {a b c d : Pos}
    (F : FunD K "__init__" qual params [.Assign [.Attribute (.Name "self" a) f b] (.Name f c) d] scope dvs kws fI fd) (S : FnScope ["self", f] ["self", f] scope) (hs : scope.names.lookup ("self" : Str) = some .local) (hf : scope.names.lookup f = some .local) (hd : (f == ("__debug__" : Str)) = false) (hcd : (f == ("__classdict__" : Str)) = false) :
    FnOk P w K mg base L2.CX0 1 fI fd ["self", f] (spXi K C f) := by
  refine F.ok S (fun vs H Q E ⟨a, y, e, _⟩ => by rw [e]; rfl) fun cdv A outer s H vs Q E hr ⟨e, y, ev, oc, no, he, q⟩ => ?_
  subst ev
  refine ⟨_, pss_one (ps_ost (pe_var (i := 0) rfl (.inl hs) (by decide) (by decide)) (pe_var (i := 1) rfl (.inl hf) hd hcd)), ?_⟩
  exact ⟨y, rfl, .ref e, rfl, e, C, rfl, oc, no, .inl ⟨he, fun dx h1 h2 => q dx h1 h2⟩⟩
end M
/-! M64: an own exception made with keywords. -/
namespace PySem
namespace HandSPX
open Builtin Builtin.ObjectAttr
section
variable {M : Model} {A : Around} {E : Value → Shared → Prop} {h : Heap} {g : Array GenState} {d : Drawn} {t : Nat} {os : OsState} {prog : Program} {w : World} {R : Result → Shared → Prop}
variable {nm q : Str} {C N : Addr} {bs bm bmB : List Value} {hdct : Bool} {sn : List Str} {sub : List Value} {ab : Bool} {col : Option Bool} {dd : Option Addr} {k0 k1 k2 k3 k5 : Option Value} {B newId initId : String} {kw : List (Str × Value)}
theorem check_new_ownK (F : ExcBaseFacts B newId initId bmB) (hT : ∀ X : String, bm.contains (.type X) = bmB.contains (.type X)) {rest : List Value} {Q : Unit → Shared → Prop}
    (hC : h.get? C = some (excClassObj nm q C N bs bm hdct sn sub ab col dd k0 k1 k2 k3 k5 newId)) (hq : Q () ⟨h, g, d, t, os⟩) : wpAny M A (checkBuiltinCall newId ⟨.ref C :: rest, kw⟩) Q E ⟨h, g, d, t, os⟩ := by
  have hcont : (Value.ref C :: bm).contains (.type B) = true := by rw [List.contains_cons, hT, F.hasB, Bool.or_true]
  have hstar := F.noStar
  simp only [checkBuiltinCall, F.newKind, F.newSplit, F.newRow]
  repeat (first | refine wpAny_loadPart_at hC ?_ | (refine wpAny_isSubtype_exc hC ?_; rw [hcont]) | refine wpAny_staticBase_exc hC ?_ | refine wpAny_madeBy_exc hC ?_ | simp only [bne_self_eq_false, Bool.false_eq_true, if_false] | wp_step)
  exact hq
theorem new_ownK (F : ExcBaseFacts B newId initId bmB) (hT : ∀ X : String, bm.contains (.type X) = bmB.contains (.type X)) {rest : List Value}
    (hC : h.get? C = some (excClassObj nm q C N bs bm hdct sn sub ab col dd k0 k1 k2 k3 k5 newId))
    (hq : R (.ok (.ret (.ref (h.objs.size + 1)))) ⟨(h.push { cls := .type "tuple", data := .seq rest.toArray }).push
      { cls := .ref C, data := .fields #[.ref h.objs.size, .none, .none, .none, .bool false, .none] }, g, d, t, os⟩) (hrest : rest.length ≤ sizeLine) :
    codeAny (model prog w) A (.builtin newId ⟨.ref C :: rest, kw⟩) R ⟨h, g, d, t, os⟩ := by
  have hends := F.ends
  have hcB : (Value.ref C :: bm).contains (.type B) = true := by rw [List.contains_cons, hT, F.hasB, Bool.or_true]
  have hcA : (Value.ref C :: bm).contains (.type "AttributeError") = false := by rw [List.contains_cons, hT, F.noAttr]; rfl
  have hcN : (Value.ref C :: bm).contains (.type "NameError") = false := by rw [List.contains_cons, hT, F.noName]; rfl
  refine codeAny_builtinAt F.entry ?_
  unfold Builtin.«BaseException.__new__»
  refine wpAt_bind ?_
  show wpAt _ _ _ (stack >>= _) _ _ _
  refine wpAt_bind (wpAt_stack fun p below => wpAt_of_wpAny ?_)
  wp_walk
  refine wpAt_of_wpAny ?_
  rw [F.owner]
  repeat (first | with_reducible refine wpAny_madeHere_exc F.canon hC ?_ | with_reducible refine wpAny_loadPart_at hC ?_ | (with_reducible refine wpAny_isSubtype_exc hC ?_; first | rw [hcB] | rw [hcA] | rw [hcN]) | wp_step)
  show R _ _
  rw [Heap.size_push]
  exact hq
theorem type_call_ownK (F : ExcBaseFacts B newId initId bmB) (hT : ∀ X : String, bm.contains (.type X) = bmB.contains (.type X)) {rest : List Value} {fI : Addr} {Q : Fin → Shared → Prop}
    (hC : h.get? C = some (excClassObj nm q C N bs bm hdct sn sub ab col dd k0 k1 k2 k3 k5 newId))
    (hi : W.Looks (model prog w) h (typeLookup (.ref C) "__init__") (some (.ref fI))) (hb : ∀ self, W.Looks (model prog w) h (bindSpecial (.ref fI) self) (.ref fI, [self])) (hrest : rest.length ≤ sizeLine)
    (hq : codeAny (model prog w) A (.call (.ref fI) ⟨.ref (h.objs.size + 1) :: rest, kw⟩)
      (fun r s' => match r with | .ok (.ret v) => v = .none ∧ Q (.done (.ret (.ref (h.objs.size + 1)))) s' | .ok _ => False | .error e => E e s')
      ⟨(h.push (W.kdv_tup rest)).push (excO C h.objs.size), g, d, t, os⟩) :
    wpAny (model prog w) A (Builtin.«type.__call__» ⟨.ref C :: rest, kw⟩) Q E ⟨h, g, d, t, os⟩ := by
  repeat (first | with_reducible refine wpAny_loadPart_at hC ?_ | with_reducible refine wpAny_madeBy_exc hC ?_ | wp_step)
  refine codeAny_call_builtin_code (Code.quiet_builtin _ F.quiet) (check_new_ownK F hT hC ?_)
  refine new_ownK F hT hC ?_ hrest
  show wpAny _ _ _ _ _ _
  have k : ∀ b o, h.get? b = some o → ((h.push (W.kdv_tup rest)).push (excO C h.objs.size)).get? b = some o := fun b o e => Heap.get?_push_of_some _ (Heap.get?_push_of_some _ e)
  have hC₁ := k _ _ hC
  have hget : ((h.push (W.kdv_tup rest)).push (excO C h.objs.size)).get? (h.objs.size + 1) = some (excO C h.objs.size) := by heap_get
  have hcC : (Value.ref C :: bm).contains (.ref C) = true := by simp
  have i1 := hi.keeps k
  have b1 := (hb (.ref (h.objs.size + 1))).keeps k
  unfold isInstance
  repeat (first | with_reducible refine wpAny_loadPart_at hget ?_ | (with_reducible refine wpAny_isSubtype_exc hC₁ ?_; rw [hcC]) | wp_step)
  show wpAny _ _ (typeLookup (.ref C) _) _ _ _
  refine i1.at ?_
  refine wpAny_holding (wpAny_bind (b1.at ?_))
  refine wpAny_bind (wpAny_call (codeAny_mono hq fun r s' z => ?_))
  rcases r with e | (v | _ | _ | _) <;> first | exact z | exact z.elim | skip
  obtain ⟨rfl, z⟩ := z
  first
    | exact wpAny_pure (wpAny_pure z)
    | (wp_walk; exact z)
theorem call_ownK (F : ExcBaseFacts B newId initId bmB) (hT : ∀ X : String, bm.contains (.type X) = bmB.contains (.type X)) {rest : List Value} {fI : Addr}
    (hC : h.get? C = some (excClassObj nm q C N bs bm hdct sn sub ab col dd k0 k1 k2 k3 k5 newId))
    (hi : W.Looks (model prog w) h (typeLookup (.ref C) "__init__") (some (.ref fI))) (hb : ∀ self, W.Looks (model prog w) h (bindSpecial (.ref fI) self) (.ref fI, [self])) (hrest : rest.length ≤ sizeLine)
    (hq : codeAny (model prog w) (A.under (.builtin "type.__call__" ⟨.ref C :: rest, kw⟩)) (.call (.ref fI) ⟨.ref (h.objs.size + 1) :: rest, kw⟩) (W.InitBack (h.objs.size + 1) R)
      ⟨(h.push (W.kdv_tup rest)).push (excO C h.objs.size), g, d, t, os⟩) :
    codeAny (model prog w) A (.call (.ref C) ⟨rest, kw⟩) R ⟨h, g, d, t, os⟩ := by
  have f1 := tc_lookup
  have f2 := tc_bind (.ref C)
  have hTy : (⟨h, g, d, t, os⟩ : Shared).TypeIs (.ref C) "type" := ⟨_, hC, rfl⟩
  refine codeAny_of_tree ?_
  show wpAny _ _ (callAny (.ref C) _) _ _ _
  repeat (any_goals (first | assumption | with_reducible refine wpAny_loadPart_at hC ?_ | wp_step))
  refine ⟨rfl, ?_⟩
  refine codeAny_call_builtin_at (Code.quiet_builtin _ (by decide +kernel)) entry_typeCall (wpAny_check_type_call_sub hC (type_call_ownK F hT hC hi hb hrest ?_))
  refine codeAny_mono hq fun r s' z => ?_
  rcases r with e | (v | _ | _ | _) <;> exact z
end
end HandSPX
end PySem
/-! M65: own exceptions with one field over any of Python's classes of errors (a Side): made by position, by keyword; as values. -/
namespace L2
open PySem PySem.Spec PyProof.Rows PySem.SdX
/-- an own class over it, what the written part says of it -/
structure OexS (newId : String) (tl : List Value) (K : PySem.W.Frag) (C : Addr) : Prop where
  cls : ∃ nm q N bs bm sn sub ab col dd k0 k1 k2 k3 k5, K.lookup C = some (excClassObj nm q C N bs bm true sn sub ab col dd k0 k1 k2 k3 k5 newId) ∧ overS tl bm = true
  st : PySem.W.findIn K (.ref C) "__setattr__" = some (some (.builtin "object.__setattr__"))
  bx : PySem.W.subIn K (.ref C) (.type "BaseException") = some true
  ty : PySem.W.typeIn K (.ref C) = some (.type "type")
  kp : PySem.W.keepIn K (.ref C) = true
section
variable {X : Cx} {pins : List (Addr × Obj)} {σ : St} {H : Hp} {s : Shared} {e C dx : Addr} {f : Str} {y : V} {u : Value} {Q : Unit → Shared → Prop} {E : Value → Shared → Prop} {A : Around} {B newId initId : String} {tl : List Value}
theorem keepS (S : Side B newId initId tl) (T : OexS newId tl X.K C) (I : Inv X pins σ H s) (he : H e = some (exo e C none)) (hno : PySem.W.findIn X.K (.ref C) f = some none) (ry : RelV y u)
    (fin : ∀ dx s', H dx = none → dx ≠ e → Inv X pins σ (upd (upd H dx (exd dx [(f, y)])) e (exo e C (some dx))) s' → Q () s') : wpAny (model X.prog X.w) A (setAttr (.ref e) f u) Q E s := by
  obtain ⟨n1, q1, N, bs, bm, sn, sub, ab, col, dd, k0, k1, k2, k3, k5, lC, mr⟩ := T.cls
  have cl : PySem.W.clsIn X.K C = some ⟨n1, bs, .ref C :: bm, N, q1, true, sn, sub, ab, col, false⟩ := by
    unfold PySem.W.clsIn
    rw [lC]
  obtain ⟨t1, ho⟩ := exo_at I.hok he
  obtain ⟨hp, g, d, t, os⟩ := s
  refine PySem.W.set_plain I.kIn (ox := ⟨.ref C, none, .fields #[.ref t1, .none, .none, .none, .bool false, .none], #[]⟩) (od := none) ⟨ho, rfl, rfl, trivial⟩ T.st ?_
  refine keep_firstS S I.kIn ho cl (.own (overS_ok mr)) rfl hno fun h1 tk1 dx kp ge ne hx ns => ?_
  have fd : H dx = none := I.hok.fresh ge
  have ne1 : ∀ {b : Addr} {o : Obj}, hp.get? b = some o → b ≠ dx := fun {b o} q => Nat.ne_of_lt (Nat.lt_of_lt_of_le (Heap.lt_size q) ge)
  have ne2 : ∀ {b : Addr}, H b = none → b ≠ e := fun {b} n z => by
    subst z
    rw [he] at n
    cases n
  have U : Un X.fs [] H (upd (upd H dx (exd dx [(f, y)])) e (exo e C (some dx))) hp h1 := ⟨
    fun b o q n _ _ => kp b o (ne2 n) q,
    fun b o q n _ _ => ⟨o.slots, kp b o (ne2 n) q⟩,
    fun b o q n _ => by rw [upd_ne (ne2 n), upd_ne (ne1 q)]; exact n,
    fun b o q _ => by
      by_cases hb : b = e
      · subst hb; exact ⟨_, hx⟩
      · exact ⟨o, kp b o hb q⟩,
    fun b xs q => by rw [upd_ne (at_ne he q exo_tup), upd_ne (ne_of_none q fd)]; exact q,
    fun b o v q => by rw [upd_ne (at_ne he q exo_frz), upd_ne (ne_of_none q fd)]; exact q,
    fun b ps q => ⟨#[], by rw [upd_ne (at_ne he q exo_tbl), upd_ne (ne_of_none q fd), q]; simp⟩⟩
  refine fin dx _ fd ne (I.un (t' := tk1) U fun b o q => ?_)
  by_cases hb : b = e
  · subst hb
    rw [upd_same] at q
    cases q
    exact exo_ok hx
  · rw [upd_ne hb] at q
    by_cases h2 : b = dx
    · subst h2
      rw [upd_same] at q
      cases q
      exact exd_ok ns (relO_put (fs := []) ry fun g => True.intro)
    · rw [upd_ne h2] at q
      refine (I.hok b o q).stay (fun c v hc z => kp c v ?_ z) (fun c hc => ?_) (fun c xs hc => ?_)
      · rcases hc with rfl | hc
        · exact hb
        · exact at_ne he hc exo_own
      · rw [upd_ne (at_ne he hc exo_own), upd_ne (ne_of_none hc fd)]; exact hc
      · rw [upd_ne (at_ne he hc exo_tup), upd_ne (ne_of_none hc fd)]; exact hc
end
/-- self.f = y, the first field of such an exception -/
def tOstS (newId : String) (tl : List Value) (K : PySem.W.Frag) (f : Str) (to te : TE) : TS := fun D σ H => te σ H fun y H1 => to σ H1 fun x H2 => ∃ a C : Addr, x = .ref a ∧ OexS newId tl K C ∧ PySem.W.findIn K (.ref C) f = some none ∧
  H2 a = some (exo a C none) ∧ ∀ dx, H2 dx = none → dx ≠ a → D.nx σ (upd (upd H2 dx (exd dx [(f, y)])) a (exo a C (some dx)))
/-- C(k = ..) -/
def tMkOK (C : Addr) (sp : Sp) (gV : List V → List V → List V) (m : Nat) (tk : TA) : St → Hp → XK → Prop := fun σ H Q => tk σ H fun zs H1 => zs.length = m ∧ ∀ a, H1 a = none → sp (gV [.ref a] zs) (upd H1 a (exo a C none))
  (fun v H2 => v = .non ∧ ∃ (d : Addr) (fs : List (Str × V)), H2 a = some (exo a C (some d)) ∧ H2 d = some (exd d fs) ∧ H1 d = none ∧ Q (.ref C) (some d) (upd (del H2 a) d (.xd fs))) (fun _ _ _ => False)
section
variable {X : Cx} {o e : Expr} {es : List Expr} {to te : TE} {ta tk : TA} {f : Str} {p p' p1 p2 pos : Pos} {B newId initId : String} {tl : List Value} {kws : List Keyword}
theorem ps_ostS (S : Side B newId initId tl) (ho : PE X o to) (he : PE X e te) (hs : swapsWith e (some (.Attribute o f p')) pos.line X.env = pure false := by rfl) : PS X (.Assign [.Attribute o f p'] e pos) (tOstS newId tl X.K f to te) := by
  refine ⟨fun pins s σ H D I h => plainObj_wpAny_Assign_Attribute (thn (he.run pins s σ H _ I h) fun v s1 hv => ?_) hs⟩
  obtain ⟨y, H1, I1, r1, q1⟩ := hv
  refine thn (ho.run pins s1 σ H1 _ I1 q1) fun u s2 hu => ?_
  obtain ⟨x, H2, I2, r2, a, C, rfl, T, hno, ea, q⟩ := hu
  obtain rfl : u = Value.ref a := r2
  exact keepS S T I2 ea hno r1 fun dx s' n ne J => ⟨σ, _, J, q dx n ne⟩
theorem pmk_oexS (S : Side B newId initId tl) {CX : CXT} {x : Str} {C fI : Addr} {k : Nat} {fd : FuncData} {ps : List Str} {sp : Sp} {ds : List Value} {dvs : List V} (T : OexS newId tl X.K C) (hi : PySem.W.findIn X.K (.ref C) "__init__" = some (some (.ref fI))) (hf : PySem.W.typeIn X.K (.ref fI) = some (.type "function"))
    (F1 : FnOk X.prog X.w X.K X.mg X.base CX k fI fd ps sp) (hr : Room (k + 1) X.A) (hb : Binds X.K fd ps ds) (hd : Vals dvs ds) (hx : Passes CX X (fun _ _ _ => False)) (hg : Gl X x) (hm : X.mg x = some (.ref C)) (ha : PA X (e :: es) ta)
    (hdb : (x == ("__debug__" : Str)) = false := by decide) (he : starEach (e :: es) X.env = (false, eval e X.env) :: starEach es X.env := by rfl) (hpl : (backTo pos (starEach es X.env)).any (·.1) = false := by rfl) :
    PMk X (.Call (.Name x p) (e :: es) [] pos) (tMkO C sp dvs ta) := by
  intro pins s σ H Q I0 h
  obtain ⟨n1, q1, N, bs, bm, sn, sub, ab, col, dd, k0, k1, k2, k3, k5, lC, mr⟩ := T.cls
  refine wpAny_Call_Name_kw (ld_glob I0 hg hm ?_ hdb)
  refine PySem.W.callWith_K (h₀ := X.base) I0.ok.mod.kin T.kp (thn (ha.run pos pins s σ H _ I0 h) fun us s1 hv => ?_) he hpl
  obtain ⟨vs, H1, J1, rv, hz, qv⟩ := hv
  refine ⟨J1.kIn, ?_⟩
  show wpAny _ _ (call (.ref C) us) _ _ _
  obtain ⟨hp, g, dr, tk, os⟩ := s1
  have up : hp.objs.size ≤ hp.objs.size + 1 := Nat.le_succ _
  have fr : H1 (hp.objs.size + 1) = none := J1.hok.fresh up
  have qa := qv (hp.objs.size + 1) fr
  have kp : ∀ b o, hp.get? b = some o → ((hp.push (PySem.W.kdv_tup us)).push (PySem.HandSPX.excO C hp.objs.size)).get? b = some o := fun b o z => Heap.get?_push_of_some _ (Heap.get?_push_of_some _ z)
  have ge : ((hp.push (PySem.W.kdv_tup us)).push (PySem.HandSPX.excO C hp.objs.size)).get? (hp.objs.size + 1) = some (PySem.HandSPX.excO C hp.objs.size) := by heap_get
  have J2 : Inv X pins σ (upd H1 (hp.objs.size + 1) (exo (hp.objs.size + 1) C none)) ⟨(hp.push (PySem.W.kdv_tup us)).push (PySem.HandSPX.excO C hp.objs.size), g, dr, tk, os⟩ :=
    J1.laid (t' := tk) (a := hp.objs.size + 1) (o := exo (hp.objs.size + 1) C none) kp up (exo_ok ge)
  have ra : Vals (V.ref (hp.objs.size + 1) :: (vs ++ dvs)) (Value.ref (hp.objs.size + 1) :: (us ++ ds)) := .cons rfl (rv.append hd)
  have ln : (Value.ref (hp.objs.size + 1) :: us ++ ds).length = ps.length := (show (Value.ref (hp.objs.size + 1) :: (us ++ ds)).length = ps.length from ra.length.symm.trans (F1.len _ _ _ _ qa))
  have lu : us.length ≤ sizeLine := by
    rw [sizeLine_eq, ← Paired.length rv]
    omega
  refine wpAny_call (PySem.HandSPX.call_own S.ex (fun Y => (overS_ok mr).has Y) (J1.kIn _ _ lC) (PySem.W.looks_findIn J1.kIn hi) (fun self => PySem.W.bind_fn J1.kIn self hf) lu ?_)
  refine codeAny_mono (F1.run _ X.stack _ _ ⟨Value.ref (hp.objs.size + 1) :: us, []⟩ (Value.ref (hp.objs.size + 1) :: (us ++ ds)) _ _ (fun _ _ _ => False) (hr.make C us []) (J2.env0.make C us []) (hb _ (Value.ref (hp.objs.size + 1) :: us) J2.kIn ln) ra qa) fun r s' hq => ?_
  rcases r with er | fl
  · exact hx pins σ _ _ er s' J2 hq
  · cases fl with
    | ret u =>
      obtain ⟨v, H2, o2, b2, u2, k2', w2, ev, d, fs, ea, ed, h1, q2⟩ := hq
      subst ev
      obtain ⟨hh, gg, dd', tt, oo⟩ := s'
      exact ⟨w2, mk_end (raises_own T.bx T.ty) J1 up kp u2 k2' o2 b2 ea ed h1 q2⟩
    | next => exact False.elim hq
    | brk => exact False.elim hq
    | cont => exact False.elim hq
theorem pmk_oexSK (S : Side B newId initId tl) {CX : CXT} {x : Str} {C fI : Addr} {k : Nat} {fd : FuncData} {ps ks : List Str} {sp : Sp} {gv : List Value → List Value → List Value} {gV : List V → List V → List V} (T : OexS newId tl X.K C) (hi : PySem.W.findIn X.K (.ref C) "__init__" = some (some (.ref fI))) (hf : PySem.W.typeIn X.K (.ref fI) = some (.type "function"))
    (F1 : FnOk X.prog X.w X.K X.mg X.base CX k fI fd ps sp) (hr : Room (k + 1) X.A) (hb : KBn X.K fd ps 1 ks gv gV) (hx : Passes CX X (fun _ _ _ => False)) (hg : Gl X x) (hm : X.mg x = some (.ref C)) (hkw : PK X kws tk)
    (hall : (backToKw pos (keywordEach kws X.env)).all (·.1.isSome) = true := by rfl) (hks : (backToKw pos (keywordEach kws X.env)).filterMap (·.1) = ks := by rfl) (hdb : (x == ("__debug__" : Str)) = false := by decide)
    (hpl : ((backTo pos (starEach [] X.env)).any (·.1) || (backToKw pos (keywordEach kws X.env)).any (·.1.isNone)) = false := by rfl) :
    PMk X (.Call (.Name x p) [] kws pos) (tMkOK C sp gV ks.length tk) := by
  intro pins s σ H Q I0 h
  obtain ⟨n1, q1, N, bs, bm, sn, sub, ab, col, dd, k0, k1, k2, k3, k5, lC, mr⟩ := T.cls
  refine wpAny_Call_Name_kw (ld_glob I0 hg hm ?_ hdb)
  refine PySem.W.callWith_KW0 (h₀ := X.base) I0.ok.mod.kin T.kp hall (thn (hkw.run pos pins s σ H _ I0 h) fun ws s1 hv => ?_) hpl
  obtain ⟨zs, H1, J1, rv, hz, qv⟩ := hv
  refine ⟨J1.kIn, ?_⟩
  rw [hks]
  show wpAny _ _ (call (.ref C) [] (ks.zip ws)) _ _ _
  obtain ⟨hp, g, dr, tk, os⟩ := s1
  have up : hp.objs.size ≤ hp.objs.size + 1 := Nat.le_succ _
  have fr : H1 (hp.objs.size + 1) = none := J1.hok.fresh up
  have qa := qv (hp.objs.size + 1) fr
  have kp : ∀ b o, hp.get? b = some o → ((hp.push (PySem.W.kdv_tup [])).push (PySem.HandSPX.excO C hp.objs.size)).get? b = some o := fun b o z => Heap.get?_push_of_some _ (Heap.get?_push_of_some _ z)
  have ge : ((hp.push (PySem.W.kdv_tup [])).push (PySem.HandSPX.excO C hp.objs.size)).get? (hp.objs.size + 1) = some (PySem.HandSPX.excO C hp.objs.size) := by heap_get
  have J2 : Inv X pins σ (upd H1 (hp.objs.size + 1) (exo (hp.objs.size + 1) C none)) ⟨(hp.push (PySem.W.kdv_tup [])).push (PySem.HandSPX.excO C hp.objs.size), g, dr, tk, os⟩ :=
    J1.laid (t' := tk) (a := hp.objs.size + 1) (o := exo (hp.objs.size + 1) C none) kp up (exo_ok ge)
  have ra : Vals [V.ref (hp.objs.size + 1)] [Value.ref (hp.objs.size + 1)] := .cons rfl .nil
  refine wpAny_call (PySem.HandSPX.call_ownK S.ex (fun Y => (overS_ok mr).has Y) (J1.kIn _ _ lC) (PySem.W.looks_findIn J1.kIn hi) (fun self => PySem.W.bind_fn J1.kIn self hf) (Nat.zero_le _) ?_)
  refine codeAny_mono (F1.run _ X.stack _ _ ⟨[Value.ref (hp.objs.size + 1)], ks.zip ws⟩ (gv [Value.ref (hp.objs.size + 1)] ws) _ _ (fun _ _ _ => False) (hr.make C [] (ks.zip ws)) (J2.env0.make C [] (ks.zip ws)) (hb.to _ [Value.ref (hp.objs.size + 1)] ws J2.kIn rfl ((Paired.length rv).symm.trans hz)) (hb.rel ra rv) qa) fun r s' hq => ?_
  rcases r with er | fl
  · exact hx pins σ _ _ er s' J2 hq
  · cases fl with
    | ret u =>
      obtain ⟨v, H2, o2, b2, u2, k2', w2, ev, d, fs, ea, ed, h1, q2⟩ := hq
      subst ev
      obtain ⟨hh, gg, dd', tt, oo⟩ := s'
      exact ⟨w2, mk_end (raises_own T.bx T.ty) J1 up kp u2 k2' o2 b2 ea ed h1 q2⟩
    | next => exact False.elim hq
    | brk => exact False.elim hq
    | cont => exact False.elim hq
end
end L2
/-! M66: own exceptions as values: C(e), C(f = e). -/
namespace M
open PySem PySem.Spec PyProof.Rows L2 PySem.SdX

/-- an exception that was made is a value -/
theorem ep_of_mk {X : Cx} {pins : List (Addr × Obj)} {σ : L2.St} {Q : VK} {u : Value} {s' : Shared} (h : L2.MkP X pins σ (fun cls d H' => ∃ C : Addr, cls = .ref C ∧ ∀ a, H' a = none → Q (.ref a) (upd H' a (exO a C d))) u s') : EP X pins σ Q u s' := by
  obtain ⟨a, oe, vs, sI, H', cls, d, rfl, J, k, hne, ha, hz, hd, h1, na, os, ag, r, C, rfl, q⟩ := h
  have ne : ∀ {b : Addr} {o : Obj}, sI.heap.get? b = some o → b ≠ a := fun {b o} z e => by rw [e, hne] at z; cases z
  have nH : ∀ {b : Addr} {o : HO}, H' b = some o → b ≠ a := fun {b o} z e => by rw [e, na] at z; cases z
  have U : Un (frs X.stack) [] H' (upd H' a (exO a C d)) sI.heap s'.heap := ⟨
    fun b o z _ _ _ => k b o z, fun b o z _ _ _ => ⟨o.slots, k b o z⟩,
    fun b o z n _ => by rw [upd_ne (ne z)]; exact n,
    fun b o z _ => ⟨o, k b o z⟩,
    fun b xs z => by rw [upd_ne (nH z)]; exact z,
    fun b o v z => by rw [upd_ne (nH z)]; exact z,
    fun b ps z => ⟨#[], by rw [upd_ne (nH z), z]; simp⟩⟩
  refine ⟨.ref a, upd H' a (exO a C d), J.call' (ch := []) os U (fun b o z => ?_) ag (fun _ z => nomatch z), rfl, q a na⟩
  by_cases hb : b = a
  · subst hb
    rw [upd_same] at z
    cases z
    exact ⟨⟨oe, ha, hz, vs, hd⟩, ⟨oe, ha⟩, fun h1 h2 ⟨o, e, r⟩ k => ⟨o, k o e, r⟩⟩
  · rw [upd_ne hb] at z
    exact (J.hok b o z).stay (fun c v _ y => k c v y) (fun c hc => by rw [upd_ne (nH hc)]; exact hc) fun c xs hc => by rw [upd_ne (nH hc)]; exact hc
theorem pe_of_mk {X : Cx} {e : Expr} {t : L2.St → Hp → XK → Prop} (h : L2.PMk X e t) : PE X e (fun σ H Q => t σ H fun cls d H' => ∃ C : Addr, cls = .ref C ∧ ∀ a, H' a = none → Q (.ref a) (upd H' a (exO a C d))) :=
  ⟨fun pins s σ H Q I q => thn (h pins s σ H _ I q) fun _ _ x => ep_of_mk x⟩
end M
/-! M67: errors as values over data: C(e), C(f = e), C(), isinstance(e, T). -/
namespace M
open PySem PySem.Spec PyProof.Rows L2 PySem.SdX

/-- an own class of errors, on any side -/
def OexA (K : PySem.W.Frag) (C : Addr) : Prop := ∃ B newId initId tl, Side B newId initId tl ∧ OexS newId tl K C
/-- __init__(self, y): self.f = y, while the exception is being made -/
def spXiA (K : PySem.W.Frag) (C : Addr) (f : Str) : Sp := fun vs H Q _ => ∃ (a : Addr) (y : V), vs = [.ref a, y] ∧ OexA K C ∧ PySem.W.findIn K (.ref C) f = some none ∧ H a = some (exo a C none) ∧
  ∀ dx, H dx = none → dx ≠ a → Q .non (upd (upd H dx (exd dx [(f, y)])) a (exo a C (some dx)))
/-- __init__(self): nothing -/
def spXi0 (C : Addr) : Sp := fun vs H Q _ => ∃ a : Addr, vs = [.ref a] ∧ H a = some (exo a C none) ∧ Q .non H
def tOstA (K : PySem.W.Frag) (f : Str) (to te : TE) : TS := fun D σ H => te σ H fun y H1 => to σ H1 fun x H2 => ∃ a C : Addr, x = .ref a ∧ OexA K C ∧ PySem.W.findIn K (.ref C) f = some none ∧
  H2 a = some (exo a C none) ∧ ∀ dx, H2 dx = none → dx ≠ a → D.nx σ (upd (upd H2 dx (exd dx [(f, y)])) a (exo a C (some dx)))
section
variable {X : Cx} {o e : Expr} {to te : TE} {f : Str} {p' pos : Pos}
theorem ps_ostA (ho : PE X o to) (he : PE X e te) (hs : swapsWith e (some (.Attribute o f p')) pos.line X.env = pure false := by rfl) : PS X (.Assign [.Attribute o f p'] e pos) (tOstA X.K f to te) := by
  refine ⟨fun pins s σ H D I h => plainObj_wpAny_Assign_Attribute (thn (he.run pins s σ H _ I h) fun v s1 hv => ?_) hs⟩
  obtain ⟨y, H1, I1, r1, q1⟩ := hv
  refine thn (ho.run pins s1 σ H1 _ I1 q1) fun u s2 hu => ?_
  obtain ⟨x, H2, I2, r2, a, C, rfl, ⟨B, newId, initId, tl, S, T⟩, hno, ea, q⟩ := hu
  obtain rfl : u = Value.ref a := r2
  exact keepS S T I2 ea hno r1 fun dx s' n ne J => ⟨σ, _, J, q dx n ne⟩
end
theorem xinitA_ok {P : Program} {w : World} {K : PySem.W.Frag} {mg : Str → Option Value} {base : Heap} {qual f : Str} {params : Arguments} {scope : Scope} {dvs : List V} {kws : List (Str × V)} {fI C : Addr} {fd : FuncData} {a b c d : Pos}
    (F : FunD K "__init__" qual params [.Assign [.Attribute (.Name "self" a) f b] (.Name f c) d] scope dvs kws fI fd) (S : FnScope ["self", f] ["self", f] scope) (hs : scope.names.lookup ("self" : Str) = some .local) (hf : scope.names.lookup f = some .local) (hd : (f == ("__debug__" : Str)) = false) (hcd : (f == ("__classdict__" : Str)) = false) :
    FnOk P w K mg base L2.CX0 1 fI fd ["self", f] (spXiA K C f) := by
  refine F.ok S (fun vs H Q E ⟨a, y, e, _⟩ => by rw [e]; rfl) fun cdv A outer s H vs Q E hr ⟨e, y, ev, oc, no, he, q⟩ => ?_
  subst ev
  refine ⟨_, pss_one (ps_ostA (pe_var (i := 0) rfl (.inl hs) (by decide) (by decide)) (pe_var (i := 1) rfl (.inl hf) hd hcd)), ?_⟩
  exact ⟨y, rfl, .ref e, rfl, e, C, rfl, oc, no, he, fun dx h1 h2 => q dx h1 h2⟩
theorem xinit0_ok {P : Program} {w : World} {K : PySem.W.Frag} {mg : Str → Option Value} {base : Heap} {qual : Str} {params : Arguments} {scope : Scope} {dvs : List V} {kws : List (Str × V)} {fI C : Addr} {fd : FuncData} {d : Pos}
    (F : FunD K "__init__" qual params [.Pass d] scope dvs kws fI fd) (S : FnScope ["self"] ["self"] scope) :
    FnOk P w K mg base L2.CX0 1 fI fd ["self"] (spXi0 C) := by
  refine F.ok S (fun vs H Q E ⟨a, e, _⟩ => by rw [e]; rfl) fun cdv A outer s H vs Q E hr ⟨e, ev, he, q⟩ => ?_
  subst ev
  refine ⟨_, pss_one ps_pass, ?_⟩
  exact q
/-- an own exception class with one field, on any side -/
structure XclA (P : Program) (w : World) (K : PySem.W.Frag) (ca : Cax) (mg : Str → Option Value) (base : Heap) (c f : Str) : Prop where
  ex : ∃ (fI : Addr) (fd : FuncData) (ps : List Str), FnOk P w K mg base L2.CX0 1 fI fd ps (spXiA K (ca c) f) ∧ PySem.W.findIn K (.ref (ca c)) "__init__" = some (some (.ref fI)) ∧ PySem.W.typeIn K (.ref fI) = some (.type "function") ∧ Binds K fd ps [] ∧
    KBn K fd ps 1 [f] (fun us ws => permL [0, 1] (us ++ ws ++ [])) (fun vs zs => permL [0, 1] (vs ++ zs ++ []))
  oex : OexA K (ca c)
  no : PySem.W.findIn K (.ref (ca c)) f = some none
  gl : mg c = some (.ref (ca c))
/-- an own exception class with none -/
structure Xcl0 (P : Program) (w : World) (K : PySem.W.Frag) (ca : Cax) (mg : Str → Option Value) (base : Heap) (c : Str) : Prop where
  ex : ∃ (fI : Addr) (fd : FuncData), FnOk P w K mg base L2.CX0 1 fI fd ["self"] (spXi0 (ca c)) ∧ PySem.W.findIn K (.ref (ca c)) "__init__" = some (some (.ref fI)) ∧ PySem.W.typeIn K (.ref fI) = some (.type "function") ∧ Binds K fd ["self"] []
  oex : OexA K (ca c)
  gl : mg c = some (.ref (ca c))
def wMkE (c f : Str) (we : WE) : WE := fun ρ Q => we ρ fun x ρ1 => ∃ d ρ2, fzR ρ1 x = some (d, ρ2) ∧ Q (.exc c [f] [d]) ρ2
def wMkE0 (c : Str) : WE := fun ρ Q => Q (.exc c [] []) ρ
section
variable {G : Gc} {X : Cx} {c f : Str} {e : Expr} {we : WE} {p pos pos' : Pos} {k : Nat}
theorem upd_del3 {H : Hp} {a d b : Addr} {o u v w z : HO} (hd : d ≠ a) (ha : H a = none) : upd (upd (del (upd (upd (upd H a o) d u) a v) a) d w) b z = upd (upd H d w) b z := by
  have q : upd (del (upd (upd (upd H a o) d u) a v) a) d w = upd H d w := by
    funext b
    by_cases h1 : b = d
    · rw [h1, upd_same, upd_same]
    · rw [upd_ne h1, upd_ne h1]
      by_cases h2 : b = a
      · rw [h2, del_same, ha]
      · rw [del_ne h2, upd_ne h2, upd_ne h1, upd_ne h2]
  rw [q]
/-- what the making of an exception with one field asks, over data -/
theorem mkE_core {F0 F1 : Addr → Prop} {H0 H1 : Hp} {σ : L2.St} {ρ0 ρ1 : Sl} {fp0 fp1 fr : List Addr} {v : V} {x : D} {Qd : D → Sl → Prop} {Q : VK} (oc : OexA X.K (G.ca c)) (no : PySem.W.findIn X.K (.ref (G.ca c)) f = some none)
    (ok : Ok G F0 H0 σ ρ0 fp0) (kk : ∀ v H' F' ρ' fp' r fr, En G F0 H0 fp0 σ F' H' ρ' fp' fr → Rr G F' H' σ v r fr → Qd r ρ' → Q v H') (en : En G F0 H0 fp0 σ F1 H1 ρ1 fp1 fr) (rr : Rr G F1 H1 σ v x fr)
    (q : ∃ d ρ2, fzR ρ1 x = some (d, ρ2) ∧ Qd (.exc c [f] [d]) ρ2) : ∀ a, H1 a = none → spXiA X.K (G.ca c) f [.ref a, v] (upd H1 a (exo a (G.ca c) none))
      (fun v' H2 => v' = .non ∧ ∃ (d : Addr) (fs : List (Str × V)), H2 a = some (exo a (G.ca c) (some d)) ∧ H2 d = some (exd d fs) ∧ H1 d = none ∧ ∃ C : Addr, Value.ref (G.ca c) = .ref C ∧ ∀ b, (upd (del H2 a) d (.xd fs)) b = none → Q (.ref b) (upd (upd (del H2 a) d (.xd fs)) b (exO b C (some d)))) (fun _ _ _ => False) := by
  obtain ⟨d, ρ2, ef, hx⟩ := q
  obtain ⟨F2, fp2, sh, rp⟩ := rr.share en.ok en.nd (en.hr ok) ef
  have en2 := en.share sh
  refine fun a ha => ⟨a, v, rfl, oc, no, upd_same, fun dx hdx hne => ?_⟩
  have hdx : H1 dx = none := by rw [upd_ne hne] at hdx; exact hdx
  refine ⟨rfl, dx, [(f, v)], upd_same, by rw [upd_ne hne, upd_same], hdx, _, rfl, fun b hb => ?_⟩
  rw [upd_del3 hne ha]
  rw [upd_del hne ha] at hb
  have en3 := en2.trans0 (En.tup (o := .xd [(f, v)]) en2.ok hdx)
  have en4 := en3.trans0 (En.tup (o := exO b (G.ca c) (some dx)) en3.ok hb)
  refine kk _ _ _ ρ2 fp2 _ [] en4 (.inl ?_) hx
  refine .exc (d := some dx) (vs := [v]) upd_same ?_ rfl (.cons (fp := []) (fq := []) ((rp.new hdx).new hb) .nil)
  show upd _ b _ dx = _
  have nb : dx ≠ b := fun z => by rw [← z, upd_same] at hb; cases hb
  rw [upd_ne nb, upd_same]
  rfl
theorem d_mkE (xc : XclA X.prog X.w X.K G.ca X.mg X.base c f) (hr : RoomG k X.A) (he : PE X e (LE G we)) (hk : 2 ≤ k := by decide) (hg : Gl X c := by rfl)
    (hdb : (c == ("__debug__" : Str)) = false := by decide) (hs : starEach [e] X.env = (false, eval e X.env) :: starEach [] X.env := by rfl) (hpl : (backTo pos (starEach [] X.env)).any (·.1) = false := by rfl) :
    PE X (.Call (.Name c p) [e] [] pos) (LE G (wMkE c f we)) := by
  obtain ⟨fI, fd, ps, F, iC, tI, bd, _⟩ := xc.ex
  obtain ⟨B, newId, initId, tl, S, T⟩ := id xc.oex
  refine imE (pe_of_mk (pmk_oexS S T iC tI F (hr.rm.mono (show 1 + 1 ≤ k by omega)) bd .nil (fun _ _ _ _ _ _ _ z => z.elim) hg xc.gl (da_cons he da_nil hs) hdb hs hpl)) fun σ H Q q => ?_
  obtain ⟨F0, ρ, fp, Qd, ok, h, kk⟩ := q
  refine ⟨F0, ρ, fp, fun rs ρ1 => (match rs with
    | [x] => ∃ d ρ2, fzR ρ1 x = some (d, ρ2) ∧ Qd (.exc c [f] [d]) ρ2
    | _ => False), ok, h, fun vs H1 F1 ρ1 fp1 rs fr en rr q => ?_⟩
  match rs, q, rr with
  | [x], q, rr =>
    obtain ⟨v, rfl, r1⟩ := rr.one
    exact ⟨by simp, mkE_core xc.oex xc.no ok kk en r1 q⟩
theorem d_mkEK {kpos : Pos} (xc : XclA X.prog X.w X.K G.ca X.mg X.base c f) (hr : RoomG k X.A) (he : PE X e (LE G we)) (hk : 2 ≤ k := by decide) (hg : Gl X c := by rfl)
    (hall : (backToKw pos (keywordEach [⟨some f, e, kpos⟩] X.env)).all (·.1.isSome) = true := by rfl) (hks : (backToKw pos (keywordEach [⟨some f, e, kpos⟩] X.env)).filterMap (·.1) = [f] := by rfl) (hdb : (c == ("__debug__" : Str)) = false := by decide)
    (hpl : ((backTo pos (starEach [] X.env)).any (·.1) || (backToKw pos (keywordEach [⟨some f, e, kpos⟩] X.env)).any (·.1.isNone)) = false := by rfl) :
    PE X (.Call (.Name c p) [] [⟨some f, e, kpos⟩] pos) (LE G (wMkE c f we)) := by
  obtain ⟨fI, fd, ps, F, iC, tI, _, kb⟩ := xc.ex
  obtain ⟨B, newId, initId, tl, S, T⟩ := id xc.oex
  refine imE (pe_of_mk (pmk_oexSK S T iC tI F (hr.rm.mono (show 1 + 1 ≤ k by omega)) kb (fun _ _ _ _ _ _ _ z => z.elim) hg xc.gl (dk_cons he dk_nil) hall hks hdb hpl)) fun σ H Q q => ?_
  obtain ⟨F0, ρ, fp, Qd, ok, h, kk⟩ := q
  refine ⟨F0, ρ, fp, fun rs ρ1 => (match rs with
    | [x] => ∃ d ρ2, fzR ρ1 x = some (d, ρ2) ∧ Qd (.exc c [f] [d]) ρ2
    | _ => False), ok, h, fun vs H1 F1 ρ1 fp1 rs fr en rr q => ?_⟩
  match rs, q, rr with
  | [x], q, rr =>
    obtain ⟨v, rfl, r1⟩ := rr.one
    exact ⟨rfl, mkE_core xc.oex xc.no ok kk en r1 q⟩
end
end M
/-! M68: C() of an own exception without fields; isinstance(e, T), T one of Python's classes of errors. -/
namespace M
open PySem PySem.Spec PyProof.Rows L2 PySem.SdX

/-- an exception that was made, its __init__ having done nothing, is known -/
theorem un_made0 {fs : List Addr} {H1 : Hp} {a C : Addr} {hp hp2 h2 : Heap} (u : Un fs [] (upd H1 a (exo a C none)) (upd H1 a (exo a C none)) hp2 h2) (kp : ∀ b o, hp.get? b = some o → hp2.get? b = some o) (na : H1 a = none) (ha : hp.get? a = none) :
    Un fs [] H1 (upd H1 a (exO a C none)) hp h2 := by
  have ne : ∀ {b : Addr} {o : Obj}, hp.get? b = some o → b ≠ a := fun {b o} z e => by rw [e, ha] at z; cases z
  have nH : ∀ {b : Addr} {o : HO}, H1 b = some o → b ≠ a := fun {b o} z e => by rw [e, na] at z; cases z
  refine ⟨fun b o z n hf hx => u.keep b o (kp b o z) (by rw [upd_ne (ne z)]; exact n) hf hx, fun b o z n hf hx => u.slot b o (kp b o z) (by rw [upd_ne (ne z)]; exact n) hf hx,
    fun b o z n hx => by rw [upd_ne (ne z)]; exact n, fun b o z hx => u.there b o (kp b o z) hx, fun b xs z => by rw [upd_ne (nH z)]; exact z, fun b o v z => by rw [upd_ne (nH z)]; exact z, fun b ps z => ⟨#[], by rw [upd_ne (nH z), z]; simp⟩⟩
theorem ok_made0 {P : Program} {w : World} {H1 : Hp} {a C : Addr} {h : Heap} (k : HOk P w (upd H1 a (exo a C none)) h) (na : H1 a = none) : HOk P w (upd H1 a (exO a C none)) h := fun b o z => by
  have nH : ∀ {b : Addr} {o : HO}, upd H1 a (exo a C none) b = some o → (∀ d, o ≠ exo a C d) → b ≠ a := fun {b o} z n e => by
    rw [e, upd_same] at z
    exact n none (Option.some.inj z).symm
  by_cases hb : b = a
  · subst hb
    rw [upd_same] at z
    cases z
    obtain ⟨t1, ho⟩ := exo_at (e := b) (C := C) (d := none) k upd_same
    exact ⟨⟨_, ho, ⟨rfl, rfl⟩, _, rfl⟩, ⟨_, ho⟩, fun h1 h2 ⟨o, e, r⟩ k => ⟨o, k o e, r⟩⟩
  · rw [upd_ne hb] at z
    refine (k b o (by rw [upd_ne hb]; exact z)).stay (fun c v _ y => y) (fun c hc => ?_) fun c xs hc => ?_
    · have := nH hc fun d z => exo_own z.symm
      rw [upd_ne this] at hc ⊢
      exact hc
    · have := nH hc fun d z => exo_tup z.symm
      rw [upd_ne this] at hc ⊢
      exact hc
section
variable {X : Cx} {x : Str} {p pos : Pos} {C fI : Addr} {fd : FuncData} {k : Nat}
theorem pe_mk0 (oc : OexA X.K C) (hi : PySem.W.findIn X.K (.ref C) "__init__" = some (some (.ref fI))) (hf : PySem.W.typeIn X.K (.ref fI) = some (.type "function"))
    (F1 : FnOk X.prog X.w X.K X.mg X.base L2.CX0 1 fI fd ["self"] (spXi0 C)) (hr : Room 2 X.A) (hb : Binds X.K fd ["self"] []) (hg : Gl X x) (hm : X.mg x = some (.ref C))
    (hdb : (x == ("__debug__" : Str)) = false := by decide) :
    PE X (.Call (.Name x p) [] [] pos) (fun σ H Q => ∀ a, H a = none → Q (.ref a) (upd H a (exO a C none))) := by
  obtain ⟨B, newId, initId, tl, S, T⟩ := oc
  refine ⟨fun pins s σ H Q I0 h => ?_⟩
  obtain ⟨n1, q1, N, bs, bm, sn, sub, ab, col, dd, k0, k1, k2, k3, k5, lC, mr⟩ := T.cls
  refine wpAny_Call_Name_kw (ld_glob I0 hg hm ?_ hdb)
  refine PySem.W.callWith_KW0 (h₀ := X.base) I0.ok.mod.kin T.kp rfl (thn ((pk_nil (X := X)).run pos pins s σ H (fun vs H1 => vs = [] ∧ H1 = H) I0 ⟨rfl, rfl⟩) fun ws s1 hv => ?_) rfl
  obtain ⟨zs, H1, J1, rv, rfl, rfl⟩ := hv
  refine ⟨J1.kIn, ?_⟩
  show wpAny _ _ (call (.ref C) [] []) _ _ _
  obtain ⟨hp, g, dr, tk, os⟩ := s1
  have up : hp.objs.size ≤ hp.objs.size + 1 := Nat.le_succ _
  have fr : H1 (hp.objs.size + 1) = none := J1.hok.fresh up
  have kp : ∀ b o, hp.get? b = some o → ((hp.push (PySem.W.kdv_tup [])).push (PySem.HandSPX.excO C hp.objs.size)).get? b = some o := fun b o z => Heap.get?_push_of_some _ (Heap.get?_push_of_some _ z)
  have ge : ((hp.push (PySem.W.kdv_tup [])).push (PySem.HandSPX.excO C hp.objs.size)).get? (hp.objs.size + 1) = some (PySem.HandSPX.excO C hp.objs.size) := by heap_get
  have J2 : Inv X pins σ (upd H1 (hp.objs.size + 1) (exo (hp.objs.size + 1) C none)) ⟨(hp.push (PySem.W.kdv_tup [])).push (PySem.HandSPX.excO C hp.objs.size), g, dr, tk, os⟩ :=
    J1.laid (t' := tk) (a := hp.objs.size + 1) (o := exo (hp.objs.size + 1) C none) kp up (exo_ok ge)
  have na : hp.get? (hp.objs.size + 1) = none := by
    cases e : hp.get? (hp.objs.size + 1) with
    | none => rfl
    | some o => exact absurd (Heap.lt_size e) (Nat.not_lt.mpr up)
  have ra : Vals [V.ref (hp.objs.size + 1)] [Value.ref (hp.objs.size + 1)] := .cons rfl .nil
  refine wpAny_call (PySem.HandSPX.call_ownK S.ex (fun Y => (overS_ok mr).has Y) (J1.kIn _ _ lC) (PySem.W.looks_findIn J1.kIn hi) (fun self => PySem.W.bind_fn J1.kIn self hf) (Nat.zero_le _) ?_)
  refine codeAny_mono (F1.run _ X.stack _ _ ⟨[Value.ref (hp.objs.size + 1)], []⟩ [Value.ref (hp.objs.size + 1)] _ (fun v H2 => v = .non ∧ H2 = upd H1 (hp.objs.size + 1) (exo (hp.objs.size + 1) C none)) (fun _ _ _ => False) (hr.make C [] []) (J2.env0.make C [] []) (hb _ [Value.ref (hp.objs.size + 1)] J2.kIn rfl) ra ⟨_, rfl, upd_same, rfl, rfl⟩) fun r s' hq => ?_
  rcases r with er | fl
  · exact False.elim hq
  · cases fl with
    | ret u =>
      obtain ⟨v, H2, o2, b2, u2, k2', w2, ev, rfl⟩ := hq
      subst ev
      obtain ⟨hh, gg, dd', tt, oo⟩ := s'
      exact ⟨w2, .ref (hp.objs.size + 1), _, J1.call' (ch := []) o2 (un_made0 u2 kp fr na) (ok_made0 k2' fr) b2 (fun _ z => nomatch z), rfl, h _ fr⟩
    | next => exact False.elim hq
    | brk => exact False.elim hq
    | cont => exact False.elim hq
end
section
variable {G : Gc} {X : Cx} {An : XN} {c : Str} {e : Expr} {we : WE} {p p1 p2 pos pos' : Pos} {k : Nat}
theorem d_mkE0 (xc : Xcl0 X.prog X.w X.K G.ca X.mg X.base c) (hr : RoomG k X.A) (hk : 2 ≤ k := by decide) (hg : Gl X c := by rfl) (hdb : (c == ("__debug__" : Str)) = false := by decide) : PE X (.Call (.Name c p) [] [] pos) (LE G (wMkE0 c)) := by
  obtain ⟨fI, fd, F, iC, tI, bd⟩ := xc.ex
  refine imE (pe_mk0 xc.oex iC tI F (hr.rm.mono hk) bd hg xc.gl hdb) fun σ H Q q a ha => ?_
  obtain ⟨F0, ρ, fp, Qd, ok, h, kk⟩ := q
  refine kk _ _ _ ρ fp _ [] (En.tup (o := exO a (G.ca c) none) ok ha) (.inl ?_) h
  exact .exc (d := none) (vs := []) upd_same rfl rfl .nil
theorem rd_ex0 {k : Nat} {c : Str} {fs : List Str} {xs : List D} : rd k (.exc c fs xs) = .exc c fs xs := rfl
/-- Python's own classes of errors that are listed -/
def sidesT : List String := ["ValueError", "LookupError", "ArithmeticError"]
/-- Bn: each class with Python's own class above it -/
abbrev XT := List (Str × String)
structure ErrT (K : PySem.W.Frag) (ca : Cax) (An : XN) (Bn : XT) : Prop where
  kit : ∀ p ∈ An, ∀ T ∈ sidesT, PySem.W.kitOne K (.ref (ca p.1)) (.type T) = some (Bn.lookup p.1 == some T)
theorem call_isErrT {X : Cx} : CallR X (.builtin "isinstance") (fun xs H Q => ∃ (a C : Addr) (T : String) (d : Option Addr) (kvs : List (Str × V)) (b : Bool), xs = [.ref a, .ty T] ∧ H a = some (exO a C d) ∧ XdAt H d kvs ∧ ErrC X.K C ∧ PySem.W.kitOne X.K (.ref C) (.type T) = some b ∧ Q (.bl b) H) := by
  intro pins s σ H xs us Q I r h
  obtain ⟨a, C, T, d, kvs, b, rfl, e, x, c, k, q⟩ := h
  match us, r with
  | [u, v], .cons ru (.cons rv .nil) =>
    have eu : u = Value.ref a := ru
    have ev : v = Value.type T := rv
    subst eu ev
    obtain ⟨oe, od, J⟩ := exc_inst I e x
    obtain ⟨cd, hc, _⟩ := PySem.W.any_some c.hd
    exact PySem.W.kia_one (PySem.W.kitx_exc (by rw [hc]; rfl) c.ga c.gg c.ex c.cl c.gt c.tk c.ob) I.kIn J k (fun z => nomatch z) fun tk => ⟨.bl b, H, I.kept (t' := tk) fun _ _ z => z, rfl, q⟩
/-- isinstance(e, T) -/
def sideB (An : XN) (Bn : XT) (T : String) (c : Str) : Option Bool := (An.lookup c).map fun _ => Bn.lookup c == some T
def wIsET (An : XN) (Bn : XT) (T : String) (we : WE) : WE := fun ρ Q => we ρ fun x ρ1 => ∃ c0 fs xs b, pk ρ1 x = some (.exc c0 fs xs) ∧ sideB An Bn T c0 = some b ∧ Q (.bl b) ρ1
theorem d_isET {Bn : XT} {T : String} {x : Str} (ek : ErrK X.K G.ca An) (et : ErrT X.K G.ca An Bn) (hT : sidesT.contains T = true) (hg : Gl X "isinstance") (hm : X.mg "isinstance" = none) (hgT : Gl X x) (hmT : X.mg x = none) (hv : bootBuiltins x = some (.type T)) (he : PE X e (LE G we)) (hn : x ≠ "__name__" := by decide) (hd : (x == ("__debug__" : Str)) = false := by decide)
    (h1 : starEach [e, .Name x p2] X.env = (false, eval e X.env) :: starEach [.Name x p2] X.env := by rfl) (h2 : starEach [.Name x p2] X.env = (false, eval (.Name x p2) X.env) :: starEach [] X.env := by rfl) (hpl : (backTo pos (starEach [.Name x p2] X.env)).any (·.1) = false := by rfl) :
    PE X (.Call (.Name "isinstance" p1) [e, .Name x p2] [] pos) (LE G (wIsET An Bn T we)) :=
  imE (pe_callB (t := tCons (LE G we) (tCons (tC (.ty T)) tNil)) call_isErrT hg hm (by decide +kernel) (pa_cons he (pa_cons (pe_bltn (v := .ty T) hgT hmT hv rfl hn hd) pa_nil h2) h1) (by decide) (by decide) h1 hpl) fun σ H Q q => by
    obtain ⟨F, ρ, fp, Qd, ok, h, k⟩ := q
    refine ⟨F, ρ, fp, _, ok, h, fun v H1 F1 ρ1 fp1 x f1 en rr q => ?_⟩
    obtain ⟨c0, fs, xs, b, e1, eb, q⟩ := q
    obtain ⟨_, rp, _⟩ := rr.see en.ok e1
    obtain ⟨a, d, vs, rfl, ea, xd, _, _⟩ := rp.exc_
    obtain ⟨as, el, rfl⟩ := Option.map_eq_some_iff.mp eb
    have mem := PySem.mem_of_lookup el
    exact ⟨a, G.ca c0, T, d, _, _, rfl, ea, xd, ek.cls _ mem, et.kit (c0, as) mem T (List.contains_iff_mem.mp hT), k _ H1 F1 ρ1 fp1 _ [] (en.drop (En.refl en.ok)) (.inl (.bl _)) q⟩
end
end M
/-! M45: defs called while an exception is handled. -/
namespace M
open PySem PySem.Spec PyProof.Rows L2

structure RoomQ (k : Nat) (A : Around) : Prop where
  dp : A.depth + 3 * k + 5 < recursionLimit
  un : A.units + 16 * k + 200 < cLine
  gd : A.guards = some []
theorem RoomG.q {k : Nat} {A : Around} (r : RoomG k A) : RoomQ k A := ⟨r.rm.dp, r.rm.un, r.gd⟩
theorem RoomG.hot {k : Nat} {A : Around} (r : RoomG k A) (a : Value) : RoomQ k (A.mark (some a)) := ⟨r.rm.dp, r.rm.un, r.gd⟩
theorem RoomQ.mono {j k : Nat} {A : Around} (r : RoomQ k A) (h : j ≤ k) : RoomQ j A := ⟨by have := r.dp; omega, by have := r.un; omega, r.gd⟩
theorem RoomQ.deeper {k : Nat} {A : Around} (r : RoomQ (k + 1) A) (env : Env) : RoomQ k (A.deeper env) :=
  ⟨by have := r.dp; show A.depth + 1 + 3 * k + 5 < _; omega, by have := r.un; show A.units + 3 + 16 * k + 200 < _; omega, r.gd⟩
structure FnQ (P : Program) (w : World) (K : PySem.W.Frag) (mg : Str → Option Value) (base : Heap) (CX : CXT) (k : Nat) (f : Addr) (fd : FuncData) (ps : List Str) (sp : Sp) : Prop where
  len : ∀ vs H Q E, sp vs H Q E → vs.length = ps.length
  run : ∀ (A : Around) (outer : List Env) (s : Shared) (H : Hp) (args : Args) (us : List Value) (vs : List V) (Q : VK) (E : XK), RoomQ k A → Env0 P w K mg base A outer s H → BindsTo s fd args (ps.zip us) → Vals vs us → sp vs H Q E → codeAny (model P w) A (.call (.ref f) args) (CR CX outer P w H s Q E) s
/-- the context of such a def's body -/
abbrev cxQ (CX : CXT) (P : Program) (w : World) (K : PySem.W.Frag) (mg : Str → Option Value) (base : Heap) (N : List Str) (qual : Str) (scope : Scope) (f : Addr) (cd : Value) (A : Around) (outer : List Env) (s : Shared) (H : Hp) (E : XK) : Cx :=
  { cxOf CX P w K mg base N qual scope f cd A outer s H E with calm := false }
/-- the same without a handled exception -/
abbrev cold (A : Around) : Around := { A with handled := none }
theorem env0_cold {P : Program} {w : World} {K : PySem.W.Frag} {mg : Str → Option Value} {base : Heap} {A : Around} {outer : List Env} {s : Shared} {H : Hp} (e : Env0 P w K mg base A outer s H) : Env0 P w K mg base (cold A) outer s H :=
  ⟨e.frames, e.mod, e.bs, e.bsz, e.funs, e.frf, e.hok, e.bare⟩
theorem inv_uncalm {X : Cx} {A : Around} {pins : List (Addr × Obj)} {σ : L2.St} {H : Hp} {s : Shared} {xe : Value → Shared → Prop} (I : Inv X pins σ H s) (hA : A.frames = X.A.frames) : Inv { X with A := A, calm := false, xe := xe } pins σ H s :=
  ⟨⟨I.ok.mod, I.ok.kind, I.ok.glob, I.ok.blt, I.ok.above, I.ok.inj, I.ok.has, I.ok.cab, (fun z => nomatch (show false = true from z)), hA.trans I.ok.frames, I.ok.stk, I.ok.exf, I.ok.bs, I.ok.bsz, I.ok.noex, I.ok.exfs, I.ok.funs, I.ok.frf⟩, I.os, I.bare, I.base, I.loc, I.cell, I.free, I.freeC, I.pin, I.hok, I.len⟩
theorem fnQ_of {CX : CXT} {P : Program} {w : World} {K : PySem.W.Frag} {mg : Str → Option Value} {base : Heap} {k : Nat} {x qual : Str} {params : Arguments} {body : List Stmt} {scope : Scope} {dvs : List V} {kws : List (Str × V)} {f : Addr} {fd : FuncData} {N ps : List Str} {sp : Sp}
    (FD : FunD K x qual params body scope dvs kws f fd) (S : FnScope N ps scope) (len : ∀ vs H Q E, sp vs H Q E → vs.length = ps.length)
    (hbody : ∀ (cdv : Value) (A : Around) (outer : List Env) (s : Shared) (H : Hp) (vs : List V) (Q : VK) (E : XK), RoomQ k (A.deeper (envOfC qual scope s.heap.objs.size f cdv)) → sp vs H Q E → ∃ t, PSs (cxQ CX P w K mg base N qual scope f cdv A outer s H E) body t ∧ t { nx := fun _ H' => Q .non H', rt := Q } (L2.start N vs) H) :
    FnQ P w K mg base CX (k + 1) f fd ps sp := by
  obtain ⟨oc, od, dV, kV, doc, pm, an, cdv, ct, osl, rfl, lk, hcd, _, _⟩ := FD.ex
  refine ⟨len, fun A outer s H args us vs Q E hr e0 hb rv hsp => ?_⟩
  have stays : ∀ b o, base.get? b = some o → s.heap.get? b = some o := fun b o e => (e0.bs b o e).1
  have inK : K.In s.heap := e0.mod.kin.keeps stays
  have deep : A.depth < recursionLimit := by have := hr.dp; omega
  have kinds : ∀ y ∈ ps.zip us, scope.names.lookup y.1 = some .local ∨ (scope.names.lookup y.1 = some .cell ∧ ((cellsFrom (s.heap.objs.size + 1) scope.names []).lookup y.1).isSome = true) := fun y hy => by
    obtain ⟨n, v⟩ := y
    rcases S.par n (List.of_mem_zip hy).1 with q | q
    · exact .inl q
    · exact .inr ⟨q, PySem.W.cellsFrom_some _ _ _ (.inl q)⟩
  refine codeAny_call_function deep (inK _ _ lk) rfl S.co S.gen rfl (PySem.W.codeRec_of inK hcd) (hb _ _ _ _ (wpAny_newFunctionEnv_cells S.kind kinds fun env he s1 y => ?_))
  subst he
  refine ⟨(e0.mod.nolimit.keeps stays).keeps y.toInCall.keep, codeAny_func ?_⟩
  obtain ⟨t, ht, hq⟩ := hbody cdv A outer s H vs Q E (hr.deeper _) hsp
  have I0 := inv_start (E := E) (CX := CX) (cd := cdv) (A := cold A) S rfl (env0_cold e0) (len _ _ _ _ hsp) rv y
  have I1 : Inv (cxQ CX P w K mg base N qual scope f cdv A outer s H E) [] (L2.start N vs) H s1 := inv_uncalm (X := cxOf CX P w K mg base N qual scope f cdv (cold A) outer s H E) (A := A.deeper (envOfC qual scope s.heap.objs.size f cdv)) I0 rfl
  refine wpAny_mono (ht.run [] s1 (L2.start N vs) H _ I1 hq) (fun fl s' hs => ?_) fun e s' hs => hs
  match fl, hs with
  | .ret u, ⟨v, σ', H', J, ru, q⟩ => exact ⟨v, H', J.os, J.bare, J.base, J.hok, ru, q⟩
  | .next, ⟨σ', H', J, q⟩ => exact ⟨V.non, H', J.os, J.bare, J.base, J.hok, rfl, q⟩
  | .brk, ⟨_, _, _, q⟩ => exact q.elim
  | .cont, ⟨_, _, _, q⟩ => exact q.elim
section
variable {K : PySem.W.Frag} {ca : Cax} {own : List Nat} {sp : Spd} {N ps : List Str} {X : Cx} {body : List Stmt}
/-- a body over data keeps a promise over data -/
theorem lift_body {vs : List V} {H : Hp} {Q : VK} {E : XK} (ho : ownOk own ps.length = true) (hlen : ∀ ds Qd Ed, sp ds Qd Ed → ds.length = ps.length) (wf : DXs → WS)
    (hbody : ∀ (G : Gc) (Ex : DXs), G.K = K → G.ca = ca → G.pm.map (·.1) = own → XLk G Ex (fun cls d _ H => E cls d H) → PSs X body (LS G (wf Ex)))
    (hw : ∀ ds Qd Ed, sp ds Qd Ed → wf (fun c fs xs _ => Ed c fs xs) (endD own Qd) (startD N ds)) (h : lift K ca own sp vs H Q E) : ∃ t, PSs X body t ∧ t { nx := fun _ H' => Q .non H', rt := Q } (L2.start N vs) H := by
  obtain ⟨F, ds, fp, Qd, Ed, rl, nd, dm, tb, hpl, hs, hQ, hE⟩ := h
  have hl := hlen ds Qd Ed hs
  have ho1 := Bool.and_eq_true_iff.mp ho
  have asc : own.Pairwise (· < ·) := of_decide_eq_true ho1.1
  have lt : ∀ i ∈ own, i < vs.length := fun i hi => by rw [rl.length, hl]; exact of_decide_eq_true (List.all_eq_true.mp ho1.2 i hi)
  -- the owned parameters' values
  obtain ⟨pm, ep, hpm⟩ : ∃ pm : List (Nat × V), pm.map (·.1) = own ∧ ∀ p ∈ pm, vs[p.1]? = some p.2 := by
    refine ⟨own.filterMap fun i => (vs[i]?).map fun v => (i, v), ?_, fun p hp => ?_⟩
    · have : ∀ is : List Nat, (∀ i ∈ is, i < vs.length) → (is.filterMap fun i => (vs[i]?).map fun v => (i, v)).map (·.1) = is := by
        intro is
        induction is with
        | nil => intro _; rfl
        | cons i is ih =>
          intro h
          have hi := h i List.mem_cons_self
          rw [List.filterMap_cons, List.getElem?_eq_getElem hi]
          simp only [Option.map_some, List.map_cons]
          rw [ih fun j hj => h j (List.mem_cons_of_mem _ hj)]
      exact this own lt
    · obtain ⟨i, _, e⟩ := List.mem_filterMap.mp hp
      cases q : vs[i]? with
      | none => rw [q] at e; cases e
      | some v => rw [q] at e; cases e; exact q
  have hst : ∀ {i : Nat} {v : V}, vs[i]? = some v → (L2.start N vs)[i]? = some (some v) := fun {i v} e => by
    unfold L2.start
    rw [List.getElem?_append_left (by simpa using (List.getElem?_eq_some_iff.mp e).1), List.getElem?_map, e]; rfl
  let G : Gc := ⟨K, ca, pm, F, H, fp, tb⟩
  have ok : Ok G F H (L2.start N vs) (startD N ds) fp := by
    refine ⟨?_, nd, dm, fun p hp => hst (hpm p hp), .refl⟩
    unfold L2.start startD
    rw [rl.length]
    exact rl.start (N := N) _
  refine ⟨_, hbody G (fun c fs xs _ => Ed c fs xs) rfl rfl ep fun c x σ' H' F' ρ' fp' fs us xs ok' ex l rx q => hE c x H' F' fs us xs (ok'.rch.less fun _ z => nomatch z) ok'.dom ex l rx q, F, startD N ds, fp, endD own Qd, ok, hw ds Qd Ed hs, ⟨?_, ?_, fun _ _ _ _ _ _ _ z => z.elim, fun _ _ _ _ _ _ _ z => z.elim⟩⟩
  · rintro σ' H' F' ρ' fp' st ok' ⟨os, eo, q⟩
    obtain ⟨fo, ro, ndo, subo⟩ := ok'.outs (vs := vs) asc eo fun i hi => by
      rw [← ep] at hi
      obtain ⟨p, hp, e⟩ := List.mem_map.mp hi
      subst e
      exact ⟨p.2, hpm p hp, ok'.pm p hp⟩
    exact hQ .non H' F' .non [] os fo (st.less subo) (by simpa using ndo) ok'.dom .non ro q
  · rintro v σ' H' F' ρ' fp' r fr st ok' nd' rr ⟨d, ρ2, os, er, eo, q⟩
    obtain ⟨fs, fp2, rp, ok2, nd2, sub1, sub2⟩ := ret_ok ok' rr nd' er
    obtain ⟨fo, ro, ndo, subo⟩ := ok2.outs (vs := vs) asc eo fun i hi => by
      rw [← ep] at hi
      obtain ⟨p, hp, e⟩ := List.mem_map.mp hi
      subst e
      exact ⟨p.2, hpm p hp, ok2.pm p hp⟩
    refine hQ v H' F' d fs os fo (st.less fun a z => ?_) (nodup_of (nodup_l nd2) ndo fun a z y => nodup_d nd2 a z (subo a y)) ok2.dom rp ro q
    rcases List.mem_append.mp z with z | z
    · exact sub1 a z
    · exact List.mem_append_right _ (sub2 a (subo a z))
end
theorem fnQ_lift {P : Program} {w : World} {K : PySem.W.Frag} {ca : Cax} {mg : Str → Option Value} {base : Heap} {k : Nat} {x qual : Str} {params : Arguments} {body : List Stmt} {scope : Scope} {dvs0 : List V} {kws : List (Str × V)} {f : Addr} {fd : FuncData} {N ps : List Str} {own : List Nat} {sp : Spd} (FD : FunD K x qual params body scope dvs0 kws f fd) (S : FnScope N ps scope) (ho : ownOk own ps.length = true)
    (hlen : ∀ ds Qd Ed, sp ds Qd Ed → ds.length = ps.length) (wf : DXs → WS)
    (hbody : ∀ (cdv : Value) (A : Around) (outer : List Env) (s : Shared) (H : Hp) (E : XK), RoomQ k (A.deeper (envOfC qual scope s.heap.objs.size f cdv)) → ∀ (G : Gc) (Ex : DXs), G.K = K → G.ca = ca → G.pm.map (·.1) = own → XLk G Ex (fun cls d _ H => E cls d H) →
      PSs (cxQ (L2.CX P w) P w K mg base N qual scope f cdv A outer s H E) body (LS G (wf Ex)))
    (hw : ∀ ds Qd Ed, sp ds Qd Ed → wf (fun c fs xs _ => Ed c fs xs) (endD own Qd) (startD N ds)) : FnQ P w K mg base (L2.CX P w) (k + 1) f fd ps (lift K ca own sp) :=
  fnQ_of FD S (fun vs H Q E h => by
    obtain ⟨F, ds, fp, Qd, Ed, rl, _, _, _, _, hs, _⟩ := h
    rw [rl.length]
    exact hlen ds Qd Ed hs) fun cdv A outer s H vs Q E hr h => lift_body ho hlen wf (hbody cdv A outer s H E hr) hw h
section
variable {X : Cx} {G : Gc} {k j n : Nat} {f : Addr} {fd : FuncData} {ps : List Str} {sp : Sp} {x : Str} {p pos : Pos} {e : Expr} {es : List Expr} {t : TA} {dvs : List V} {ds : List Value}
theorem run_posQ {CX : CXT} {E : L2.St → XK} {pins : List (Addr × Obj)} {σ : L2.St} {H : Hp} {s : Shared} {Q : VK} {us : List Value} {vs : List V} (F : FnQ X.prog X.w X.K X.mg X.base CX k f fd ps sp) (hr : RoomQ k X.A) (hb : Binds X.K fd ps ds) (hd : Vals dvs ds) (hx : PassesAt CX X σ (E σ))
    (I : Inv X pins σ H s) (rv : Vals vs us) (h : sp (vs ++ dvs) H Q (E σ)) : wpAny (model X.prog X.w) X.A (call (.ref f) us) (EP X pins σ Q) X.xe s :=
  wpAny_call (codeAny_mono (F.run X.A X.stack s H ⟨us, []⟩ _ _ Q (E σ) hr I.env0 (hb s us I.kIn ((rv.append hd).length.symm.trans (F.len _ _ _ _ h))) (rv.append hd) h) fun q s' hq => by
    rcases cr_ends hq with ⟨u, rfl, z⟩ | ⟨er, rfl, z⟩
    · exact I.after z
    · exact hx pins H s er s' I z)
theorem pe_callQ {CX : CXT} {E : L2.St → XK} (F : FnQ X.prog X.w X.K X.mg X.base CX k f fd ps sp) (hr : RoomQ k X.A) (hg : Gl X x) (hm : X.mg x = some (.ref f)) (hk : PySem.W.keepIn X.K (.ref f) = true) (hb : Binds X.K fd ps ds) (hd : Vals dvs ds) (hx : ∀ σ, PassesAt CX X σ (E σ)) (ha : PA X (e :: es) t)
    (hdb : (x == ("__debug__" : Str)) = false := by decide) (he : starEach (e :: es) X.env = (false, eval e X.env) :: starEach es X.env := by rfl) (hpl : (backTo pos (starEach es X.env)).any (·.1) = false := by rfl) : PE X (.Call (.Name x p) (e :: es) [] pos) (tCallSD sp dvs E t) :=
  ⟨fun pins s σ H Q I h => wpAny_Call_Name_kw (ld_glob I hg hm (PySem.W.callWith_K (h₀ := X.base) I.ok.mod.kin hk (thn (ha.run pos pins s σ H _ I h) fun us s1 ⟨vs, H1, I1, r, q⟩ => ⟨I1.kIn, run_posQ F hr hb hd (hx σ) I1 r q⟩) he hpl) hdb)⟩
end
/-- a def that may be called while an exception is handled -/
structure CalQ (P : Program) (w : World) (K : PySem.W.Frag) (ca : Cax) (mg : Str → Option Value) (base : Heap) (k : Nat) (x : Str) (own : List Nat) (sp : Spd) : Prop where
  ex : ∃ (f : Addr) (fd : FuncData) (ps : List Str), FnQ P w K mg base (L2.CX P w) k f fd ps (lift K ca own sp) ∧ mg x = some (.ref f) ∧ PySem.W.keepIn K (.ref f) = true ∧ Binds K fd ps []
section
variable {X : Cx} {G : Gc} {k j n : Nat} {sp : Spd} {own bor : List Nat} {x : Str} {p pos : Pos} {e : Expr} {es : List Expr} {wa : WA}
theorem d_cq (c : CalQ X.prog X.w X.K G.ca X.mg X.base k x own sp) (hr : RoomQ j X.A) (ha : PA X (e :: es) (LA G wa)) (hK : X.K = G.K := by rfl) (hk : k ≤ j := by decide) (ho : ownOk own n = true := by decide) (hg : Gl X x := by rfl) (hdb : (x == ("__debug__" : Str)) = false := by decide) (he : starEach (e :: es) X.env = (false, eval e X.env) :: starEach es X.env := by rfl) (hpl : (backTo pos (starEach es X.env)).any (·.1) = false := by rfl) :
    PE X (.Call (.Name x p) (e :: es) [] pos) (LE G (wCall own bor n sp [] exF wa)) := by
  obtain ⟨f, fd, ps, F, hm, kp, b⟩ := c.ex
  rw [hK] at F
  exact imE (pe_callQ (dvs := []) (by rw [hK]; exact F) (hr.mono hk) hg hm kp b .nil (fun σ => passAt (takes0 (X := X)) σ) ha hdb he hpl) (ls_call (dvs := []) xlk0 (fun _ _ => .nil) ho)
end
end M
/-! M46: f(lambda: e), where f is: try: told = act() / except cs as e: ws / wr. -/
namespace M
open PySem PySem.Spec PyProof.Rows L2

/-- a statement list over data, from any state of its def -/
def lsE (K : PySem.W.Frag) (ca : Cax) (w : WS) : TS := fun D σ H => ∃ G : Gc, G.K = K ∧ G.ca = ca ∧ G.pm = [] ∧ LS G w D σ H
theorem pss_lsE {X : Cx} {K : PySem.W.Frag} {ca : Cax} {w : WS} {sts : List Stmt} (h : ∀ G : Gc, G.K = K → G.ca = ca → G.pm = [] → PSs X sts (LS G w)) : PSs X sts (lsE K ca w) := ⟨fun pins s σ H D I ⟨G, e1, e2, e3, q⟩ => (h G e1 e2 e3).run pins s σ H D I q⟩
/-- what the def makes of the lambda's reading -/
def TTc (K : PySem.W.Frag) (ca : Cax) (cs : List Value) (n it ie : Nat) (ws wr : WS) : (XK → Hp → VK → Prop) → Hp → VK → Prop := fun tl H Q => ∃ (Ech : XK) (Qch : VK), (∀ Qn : VK, (∀ v H', Qch v H' → Qn v H') → tl Ech H Qn) ∧
  (∀ cls d H', Ech cls d H' → PySem.W.exmAny K cls cs = some true ∧ ∃ C, cls = .ref C ∧ ∀ (a : Addr) (σ : L2.St) (D : Ends), H' a = none → σ.length = n → D.rt = Q → lsE K ca ws D (σ.set ie (some (.ref a))) (upd H' a (exO a C d))) ∧
  ∀ v H' (σ : L2.St) (D : Ends), Qch v H' → σ.length = n → D.rt = Q → (∀ σ' H', D.nx σ' H' = Q .non H') → lsE K ca wr D (σ.set it (some v)) H'

section
variable {X : Cx} {K : PySem.W.Frag} {ca : Cax} {Ng : List Str} {x a q en tn : Str} {sg : Scope} {g : Addr} {cdg : Value} {cs : List Str} {t : Expr} {b₀ r₀ : Stmt} {suite rest : List Stmt} {ws wr : WS} {it ie : Nat} {p1 p2 p3 p4 p5 p6 : Pos}
/-- the context of f's body -/
abbrev gCx (X : Cx) (Ng : List Str) (x : Str) (sg : Scope) (g : Addr) (cdg : Value) (s : Shared) (H : Hp) : Cx := (cxOf C8.CX0 X.prog X.w X.K X.mg X.base Ng x sg g cdg X.A X.stack s H C8.E0).nox
theorem caught_gives (h0 : ∀ f : Addr, (L2.start Ng [V.ref f])[0]? = some (some (V.ref f))) (hlen : ∀ f : Addr, (L2.start Ng [V.ref f]).length = Ng.length)
    (hN : Ng.Nodup) (hit : Ng[it]? = some tn) (hie : Ng[ie]? = some en) (hlt : sg.names.lookup tn = some .local) (hle : sg.names.lookup en = some .local)
    (T : ∀ s H, ETest (gCx X Ng x sg g cdg s H) t (cs.map fun y => .ref (ca y)))
    (hsu : ∀ s H (e : Addr) (pn : List (Addr × Obj)) (G : Gc), G.K = K → G.ca = ca → G.pm = [] → PSs ((gCx X Ng x sg g cdg s H).suite e pn) (b₀ :: suite) (LS G ws))
    (hre : ∀ s H (G : Gc), G.K = K → G.ca = ca → G.pm = [] → PSs (gCx X Ng x sg g cdg s H) (r₀ :: rest) (LS G wr)) (hK : X.K = K)
    (hsw : ∀ s H pn xe, swapsWithSole [.Name tn p1] (.Call (.Name a p2) [] [] p3) p4.line ((gCx X Ng x sg g cdg s H).tr pn xe).env = pure false) (hss : ∀ s H pn xe, swappedStores [.Name tn p1] (.Call (.Name a p2) [] [] p3) ((gCx X Ng x sg g cdg s H).tr pn xe).env = pure none)
    (has : ∀ s H pn xe, (assignEach [.Name tn p1] ((gCx X Ng x sg g cdg s H).tr pn xe).env).map (·.2) = [assign (.Name tn p1) ((gCx X Ng x sg g cdg s H).tr pn xe).env]) :
    LamX.GivesTo X Ng x sg g cdg (.Try [.Assign [.Name tn p1] (.Call (.Name a p2) [] [] p3) p4] [.ExceptHandler (some t) (some en) (b₀ :: suite) p5] [] [] p6 :: r₀ :: rest) a q (TTc K ca (cs.map fun y => .ref (ca y)) Ng.length it ie ws wr) := by
  intro f c' s H Q tl act hc h
  obtain ⟨Ech, Qch, h1, h2, h3⟩ := h
  have hbody : ∀ (W : WX) (pn : List (Addr × Obj)) (xe : Value → Shared → Prop), Takes ((gCx X Ng x sg g cdg s H).tr pn xe) W → PassesOwn (model X.prog X.w) (gCx X Ng x sg g cdg s H).A (gCx X Ng x sg g cdg s H).env xe →
      PSs ((gCx X Ng x sg g cdg s H).tr pn xe) [.Assign [.Name tn p1] (.Call (.Name a p2) [] [] p3) p4] (fun D σ H2 => (∀ cls d σ' H', Ech cls d H' → W cls d σ' H') ∧ σ[0]? = some (some (.ref f)) ∧ H2 c' = some (LamX.CodeO c' q) ∧ tl Ech H2 fun v H' => D.nx (σ.set it (some v)) H') := fun W pn xe tk po => by
    refine ⟨fun pins s' σ H2 D I ⟨e1, e2, e3, e4⟩ => ?_⟩
    have pa := act W pn xe Ech p2 p3 tk e1
    have pg : PG ((gCx X Ng x sg g cdg s H).tr pn xe) (.Name tn p1) (gName it) := pg_name hN hit (.inl hlt) (.inr hlt)
    exact (pss_one (ps_asg (pos := p4) pa pg (hsw s H pn xe) (hss s H pn xe) (has s H pn xe))).run pins s' σ H2 D I ⟨e2, e3, e4⟩
  subst hK
  refine ⟨_, pss_cons (ps_try_hotAs (X := gCx X Ng x sg g cdg s H) (Wout := fun _ _ _ _ => False) hN hie hle rfl rfl rfl (T s H) takes0 hbody fun e pn => pss_lsE (hsu s H e pn)) (pss_lsE (hre s H)), ?_⟩
  refine ⟨fun cls d σ' H' hE => ?_, h0 f, hc, h1 _ fun v H' hv => ?_⟩
  · obtain ⟨e1, C, e2, e3⟩ := h2 cls d H' hE
    exact ⟨true, e1, fun _ => ⟨C, e2, fun e he hl => e3 e σ' _ he hl rfl⟩, fun z => nomatch z⟩
  · exact h3 v H' _ _ hv (hlen f) rfl fun _ _ => rfl
end
end M
/-! M47: f(lambda: e) where no repr is under way. -/
namespace M
open PySem PySem.Spec PyProof.Rows L2 LamX

section
variable {X : Cx} {pins : List (Addr × Obj)} {σ : L2.St} {H : Hp} {s : Shared}
/-- the lambda is made: what stands, stands on, the tables may have grown -/
theorem lam_mk {T : List (Addr × Str)} {c P : Addr} {params : Arguments} {body : Expr} {scope : Scope} {pos : Pos} {E : Value → Shared → Prop} {Q : Value → Shared → Prop} (I : Inv X pins σ H s) (TB : TabB X.base X.mg c P) (hcode : X.env.code = .ref c)
    (hm : (P, X.env.qual ++ "<lambda>") ∈ T) (hu : ∀ p ∈ T, p.1 = P → p.2 = X.env.qual ++ "<lambda>") (hT : Tabs T H) (hdef : defaultsOf params X.env = ([], [])) (hfree : ∀ y ∈ scope.names, y.2 = .free → ∃ c, X.env.cells.lookup y.1 = some c)
    (h : ∀ (f c' : Addr) (pm ctv : Value) (H1 : Hp) (s' : Shared), Inv X pins σ H1 s' → ExtN H H1 → (∀ b o, H b = some o → ∃ o', H1 b = some o') → Tabs T H1 →
      s'.heap.get? f = some (PySem.W.kla_obj "<lambda>" (X.env.qual ++ "<lambda>") params body scope (cloFrom X.env.cells scope.names []) pm c' ctv) → H1 f = none → f ∉ frs X.stack → H1 c' = some (CodeO c' (X.env.qual ++ "<lambda>")) → Q (.ref f) s') :
    wpAny (model X.prog X.w) X.A (eval (.Lambda params body scope pos) X.env) Q E s := by
  have hT0 := hT
  obtain ⟨ps, tP, tr, am⟩ := hT _ hm
  have oP : s.heap.get? P = some { cls := .none, data := .fields ps } := I.hok P _ tP
  have blt : s.heap.BuiltinsAt X.mg P := TB.bm.keeps I.bk
  have out : ∀ f, s.heap.objs.size ≤ f → f ∉ frs X.stack := fun f hf z => (List.mem_cons.mp (I.stkSub _ z)).elim (fun e => by have := I.lt; rw [← e] at this; exact Nat.lt_irrefl _ (Nat.lt_of_lt_of_le this hf)) (I.nofs hf)
  refine PySem.W.kla_eval hdef ?_
  cases hc : codeAmong pos ps.toList with
  | some cv =>
    obtain ⟨c', rfl, co⟩ := am pos cv hc
    refine PySem.W.kla_makeFunctionHit (mg := X.mg) (c := c) (P := P) (ps := ps) (closure_ok hfree) I.ok.glob (I.mod.glob.keeps I.bk) hcode (TB.code.keeps I.bk) oP tr hc blt fun ctv h' tk grow hsz => ?_
    exact h _ c' _ ctv H _ (I.kept (h' := h'.push (PySem.W.kla_obj "<lambda>" (X.env.qual ++ "<lambda>") params body scope (cloFrom X.env.cells scope.names []) ((X.mg "__name__").getD .none) c' ctv)) (t' := tk) fun b o e => Heap.get?_push_of_some _ (grow b o e)) (ExtN.refl H) (fun b o e => ⟨o, e⟩) hT0 (Heap.get?_push_size _ rfl) (I.hok.fresh hsz) (out _ hsz) co
  | none =>
    refine PySem.W.kla_makeFunction (mg := X.mg) (c := c) (P := P) (ps := ps) (closure_ok hfree) I.ok.glob (I.mod.glob.keeps I.bk) hcode (TB.code.keeps I.bk) oP tr hc TB.gP blt fun c' ctv h' tk grow hge hlt hrec htb => ?_
    obtain ⟨c2, oc, vs, t, e2, hoc, hd, hv⟩ := hrec
    cases e2
    have big : s.heap.objs.size ≤ h'.objs.size := Nat.le_trans hge (Nat.le_of_lt hlt)
    have nc : H c' = none := I.hok.fresh hge
    have J := inv_table (q := X.env.qual ++ "<lambda>") (t' := tk) (more := #[rawInt pos.line, rawInt pos.col, .ref c']) (h' := h'.push (PySem.W.kla_obj "<lambda>" (X.env.qual ++ "<lambda>") params body scope (cloFrom X.env.cells scope.names []) ((X.mg "__name__").getD .none) c' ctv)) I tP
      (fun b o hb e => Heap.get?_push_of_some _ (grow b o hb e)) (Heap.get?_push_of_some _ htb) hge ⟨oc, vs, t, Heap.get?_push_of_some _ hoc, hd, hv⟩
    have ex : ExtN H (upd (upd H P (.tbl (ps ++ #[rawInt pos.line, rawInt pos.col, .ref c']))) c' (CodeO c' (X.env.qual ++ "<lambda>"))) := fun b o e n => by
      have n1 : b ≠ c' := ne_of_none e nc
      have n2 : b ≠ P := fun z => by
        rw [z, tP] at e
        exact n ps (Option.some.inj e).symm
      rw [upd_ne n1, upd_ne n2]
      exact e
    have th : ∀ b o, H b = some o → ∃ o', upd (upd H P (.tbl (ps ++ #[rawInt pos.line, rawInt pos.col, .ref c']))) c' (CodeO c' (X.env.qual ++ "<lambda>")) b = some o' := fun b o e => by
      by_cases z : b = P
      · exact ⟨_, by rw [z, upd_ne (ne_of_none tP nc), upd_same]⟩
      · exact ⟨o, by rw [upd_ne (ne_of_none e nc), upd_ne z]; exact e⟩
    have app : (ps ++ #[rawInt pos.line, rawInt pos.col, .ref c']).toList = ps.toList ++ [rawInt pos.line, rawInt pos.col, .ref c'] := by simp
    have tabs : Tabs T (upd (upd H P (.tbl (ps ++ #[rawInt pos.line, rawInt pos.col, .ref c']))) c' (CodeO c' (X.env.qual ++ "<lambda>"))) := fun p hp => by
      by_cases z : p.1 = P
      · rw [hu p hp z, z]
        refine ⟨_, by rw [upd_ne (ne_of_none tP nc), upd_same], by rw [app]; exact PySem.TriplesOk_snoc _ _ _ _ tr, fun p' cv e => ?_⟩
        rw [app] at e
        rcases among_app _ tr e with w | w
        · obtain ⟨c0, k1, k2⟩ := am p' cv w
          exact ⟨c0, k1, ex _ _ k2 codeO_ne⟩
        · exact ⟨c', w, upd_same⟩
      · obtain ⟨ps2, k1, k2, k3⟩ := hT0 p hp
        refine ⟨ps2, by rw [upd_ne (ne_of_none k1 nc), upd_ne z]; exact k1, k2, fun p' cv e => ?_⟩
        obtain ⟨c0, w1, w2⟩ := k3 p' cv e
        exact ⟨c0, w1, ex _ _ w2 codeO_ne⟩
    refine h h'.objs.size c' _ ctv _ _ J ex th tabs (Heap.get?_push_size _ rfl) ?_ (out _ big) upd_same
    have lP := Heap.lt_size oP
    rw [upd_ne (Nat.ne_of_gt hlt), upd_ne (Nat.ne_of_gt (Nat.lt_of_lt_of_le lP big))]
    exact I.hok.fresh big
end
/-- the reading of f(lambda: e) -/
def tLamX (T : List (Addr × Str)) (TT : (XK → Hp → VK → Prop) → Hp → VK → Prop) (t : XK → TE) : TE := fun σ H Q => Tabs T H ∧ ∀ H1, ExtN H H1 → (∀ b o, H b = some o → ∃ o', H1 b = some o') → Tabs T H1 → TT (fun E H' Q' => t E σ H' Q') H1 Q
section
variable {X : Cx} {pins : List (Addr × Obj)} {σ : L2.St} {H : Hp} {s : Shared}
/-- act(), in the def that got the lambda -/
theorem pe_actG {Ng : List Str} {qg : Str} {sg : Scope} {g f c' : Addr} {cdg pm ctv : Value} {params : Arguments} {body : Expr} {scope : Scope} {k i : Nat} {a : Str} {pn : List (Addr × Obj)} {xe : Value → Shared → Prop} {W : WX} {E : XK} {tb : TE} {p1 p2 : Pos}
    (I : Inv X pins σ H s) (L : LamS X.env.scope scope) (hf : s.heap.get? f = some (PySem.W.kla_obj "<lambda>" (X.env.qual ++ "<lambda>") params body scope (cloFrom X.env.cells scope.names []) pm c' ctv)) (hfn : H f = none) (hfr : f ∉ frs X.stack)
    (hbind : bindArgs (PySem.W.kla_fn "<lambda>" (X.env.qual ++ "<lambda>") params body scope (cloFrom X.env.cells scope.names []) pm (.ref c') ctv) ⟨[], []⟩ = pure [])
    (tk : Takes ((cxOf C8.CX0 X.prog X.w X.K X.mg X.base Ng qg sg g cdg X.A X.stack s H C8.E0).tr pn xe) W) (hW : ∀ cls d σ' H', E cls d H' → W cls d σ' H') (hr : Room (k + 1) (X.A.deeper (envOfC qg sg s.heap.objs.size g cdg)))
    (hbody : ∀ (s1 : Shared) (H1 : Hp), Room k ((X.A.deeper (envOfC qg sg s.heap.objs.size g cdg)).deeper (lamEnv X scope s1.heap.objs.size f c')) → PE (lamCx X (X.A.deeper (envOfC qg sg s.heap.objs.size g cdg)) (envOfC qg sg s.heap.objs.size g cdg :: X.stack) s1 H1 E scope f c') body tb)
    (hN : Ng[i]? = some a) (hv : Vis sg a) (hd : (a == ("__debug__" : Str)) = false) (hcd : (a == ("__classdict__" : Str)) = false) :
    PE ((cxOf C8.CX0 X.prog X.w X.K X.mg X.base Ng qg sg g cdg X.A X.stack s H C8.E0).tr pn xe) (.Call (.Name a p1) [] [] p2)
      (fun σZ HZ Q => σZ[i]? = some (some (.ref f)) ∧ HZ c' = some (CodeO c' (X.env.qual ++ "<lambda>")) ∧ tb σ HZ Q) := by
  refine ⟨fun pz sZ σZ HZ Q IZ ⟨q1, q2, q3⟩ => wpAny_Call_Name_kw (thn ((pe_var (pos := p1) (i := i) hN hv hd hcd).run pz sZ σZ HZ (fun v H1 => v = .ref f ∧ H1 = HZ) IZ ⟨.ref f, q1, rfl, rfl⟩) ?_)⟩
  rintro u s1 ⟨v, H1, I1, ru, rfl, rfl⟩
  have eu : u = Value.ref f := ru
  subst eu
  have lf : s1.heap.get? f = some (PySem.W.kla_obj "<lambda>" (X.env.qual ++ "<lambda>") params body scope (cloFrom X.env.cells scope.names []) pm c' ctv) := I1.base.keep f _ hf hfn hfr (fun z => nomatch (show f ∈ ([] : List Addr) from z))
  refine PySem.W.callWith_F0 ⟨_, _, _, _, lf⟩ ?_
  have un : Un (frs X.stack) [] H H1 s.heap s1.heap := I1.base
  have co : ObjOk X.prog X.w H1 s1.heap c' (CodeO c' (X.env.qual ++ "<lambda>")) := I1.hok c' _ q2
  obtain ⟨⟨oc, vs, t, co1, co2, co3⟩, _⟩ := co
  have run : codeAny (model X.prog X.w) (X.A.deeper (envOfC qg sg s.heap.objs.size g cdg)) (.call (.ref f) ⟨[], []⟩) (CR (L2.CX X.prog X.w) (envOfC qg sg s.heap.objs.size g cdg :: X.stack) X.prog X.w H1 s1 Q E) s1 := by
    refine PySem.W.kla_callFunE hr.depth lf rfl L.co L.gen rfl ⟨c', oc, vs, t, rfl, co1, co2, co3⟩ ?_
    rw [hbind]
    refine wpAny_pure (wpAny_newFunctionEnv (fun y hy => (L.own y hy).2) (fun y hy => nomatch hy) (fun h1 hns hsb => ⟨I1.nolimit.fresh _ hsb, ?_⟩) L.kind)
    have keep : ∀ b o, s1.heap.get? b = some o → h1.get? b = some o := fun b o e => hsb.extBut b o (Nat.ne_of_lt (Heap.lt_size e)) (Heap.get?_push_of_some _ e)
    have J := lam_start2 (f := f) (E := E) (tk := s1.toks + ([] : List (Str × Value)).length) (c' := c') I L I1.env0 hr.hd un hns keep
    show codeAny _ _ (.expr body (lamEnv X scope s1.heap.objs.size f c')) _ _
    refine PySem.W.kla_codeExpr (wpAny_mono ((hbody s1 H1 (hr.deeper _)).run [] _ _ H1 Q J q3) ?_ fun e s' z => z)
    rintro v s' ⟨w', H', J', rv, q⟩
    exact ⟨w', H', J'.os, J'.bare, J'.base, J'.hok, rv, q⟩
  have pass : Passes (L2.CX X.prog X.w) ((cxOf C8.CX0 X.prog X.w X.K X.mg X.base Ng qg sg g cdg X.A X.stack s H C8.E0).tr pn xe) E := passes_call tk hW
  refine wpAny_call (codeAny_mono run fun r s' hq => ?_)
  rcases cr_ends hq with ⟨u, rfl, z⟩ | ⟨er, rfl, z⟩
  · exact I1.after z
  · exact pass pz σZ H1 s1 er s' I1 z
/-- x(lambda: body) -/
theorem pe_lamG {T : List (Addr × Str)} {TT : (XK → Hp → VK → Prop) → Hp → VK → Prop} {x a : Str} {g c P : Addr} {k : Nat} {pg : Arguments} {bg : List Stmt} {sg : Scope} {dV kV doc pm cdv ct oc : Value} {an od : Option Addr} {osl : Array (Option Value)} {Ng : List Str}
    {params : Arguments} {body : Expr} {scope : Scope} {t : XK → TE} {p lpos pos : Pos} (hg : Gl X x) (hm : X.mg x = some (.ref g)) (hk : PySem.W.keepIn X.K (.ref g) = true)
    (lk : X.K.lookup g = some ⟨oc, od, .func (PySem.W.fnOf x x pg bg sg dV kV doc pm an cdv ct), osl⟩) (hcg : PySem.W.codeIn X.K cdv x = true) (hb : L2.Binds X.K (PySem.W.fnOf x x pg bg sg dV kV doc pm an cdv ct) [a] []) (Sg : FnScope Ng [a] sg) (hNg : Ng[0]? = some a) (hva : Vis sg a)
    (hG : GivesTo X Ng x sg g cdv bg a (X.env.qual ++ "<lambda>") TT)
    (TB : TabB X.base X.mg c P) (hcode : X.env.code = .ref c) (hmT : (P, X.env.qual ++ "<lambda>") ∈ T) (hu : ∀ p ∈ T, p.1 = P → p.2 = X.env.qual ++ "<lambda>") (hr : RoomG (k + 2) X.A) (L : LamS X.env.scope scope) (hdef : defaultsOf params X.env = ([], []))
    (hbind : ∀ (q : Str) (cl : List (Str × Addr)) (pm cv ctv : Value), bindArgs (PySem.W.kla_fn "<lambda>" q params body scope cl pm cv ctv) ⟨[], []⟩ = pure [])
    (hbody : ∀ (A : Around) (outer : List Env) (s : Shared) (H : Hp) (E : XK) (f c' : Addr), RoomG k (A.deeper (lamEnv X scope s.heap.objs.size f c')) → PE (lamCx X A outer s H E scope f c') body (t E))
    (hdb : (x == ("__debug__" : Str)) = false) (hd : (a == ("__debug__" : Str)) = false) (hcd : (a == ("__classdict__" : Str)) = false) :
    PE X (.Call (.Name x p) [.Lambda params body scope lpos] [] pos) (tLamX T TT t) := by
  refine ⟨fun pins s σ H Q I ⟨hT, h⟩ => wpAny_Call_Name_kw (ld_glob I hg hm (PySem.W.callWith_K (h₀ := X.base) I.ok.mod.kin hk ?_ (by rfl) (by rfl)) hdb)⟩
  show wpAny _ _ (spliced ((false, eval (.Lambda params body scope lpos) X.env) :: backTo pos (starEach [] X.env))) _ _ s
  refine Calls.spliced_cons (lam_mk I TB hcode hmT hu hT hdef (L.has I.ok) fun f c' pm' ctv H1 s' I1 eN th T1 hf hfn hfr hco => Calls.spliced_nil ⟨I1.kIn, ?_⟩)
  have gds : ∀ (env env' : Env), (((X.A.deeper env).deeper env').guards) = some [] := fun _ _ => hr.gd
  have run : codeAny (model X.prog X.w) X.A (.call (.ref g) ⟨[.ref f], []⟩) (CR C8.CX0 X.stack X.prog X.w H1 s' Q C8.E0) s' := by
    refine run_ofS (N := Ng) (ps := [a]) (us := [.ref f]) (vs := [.ref f]) lk hcg Sg hr.rm I1.env0 (hb s' [.ref f] I1.kIn rfl) (.cons rfl .nil) rfl fun hr1 => ?_
    obtain ⟨t1, ht, hq⟩ := hG f c' s' H1 Q (fun E H' Q' => t E σ H' Q') (fun W pn xe E p1 p2 tk hW => pe_actG (i := 0) I1 L hf hfn hfr (hbind _ _ _ _ _) tk hW hr1 (fun s1 H2 hr2 => hbody _ _ s1 H2 E f c' ⟨hr2, gds _ _⟩) hNg hva hd hcd) hco (h H1 eN th T1)
    exact ⟨t1, ht.nox, hq⟩
  refine wpAny_call (codeAny_mono run fun r s2 hq => ?_)
  rcases cr_ends hq with ⟨u, rfl, z⟩ | ⟨er, rfl, z⟩
  · exact I1.after z
  · exact (show False from z).elim
end
end M
/-! M48: f(lambda: e) over data. -/
namespace M
open PySem PySem.Spec PyProof.Rows L2 LamX

/-- what is filled behind was filled ahead -/
def subd : Sl → Sl → Bool
  | [], [] => true
  | none :: r, none :: r' => subd r r'
  | some _ :: r, _ :: r' => subd r r'
  | _, _ => false
def pmAll : Nat → L2.St → List (Nat × V)
  | _, [] => []
  | n, none :: σ => pmAll (n + 1) σ
  | n, some v :: σ => (n, v) :: pmAll (n + 1) σ
theorem pmAll_mem : ∀ {σ : L2.St} {n i : Nat} {v : V}, (i, v) ∈ pmAll n σ ↔ n ≤ i ∧ σ[i - n]? = some (some v)
  | [], n, i, v => by simp [pmAll]
  | none :: σ, n, i, v => by
    show (i, v) ∈ pmAll (n + 1) σ ↔ _
    rw [pmAll_mem]
    constructor
    · rintro ⟨h1, h2⟩
      refine ⟨by omega, ?_⟩
      rw [show i - n = (i - (n + 1)) + 1 by omega]
      exact h2
    · rintro ⟨h1, h2⟩
      by_cases e : i = n
      · subst e; simp at h2
      · refine ⟨by omega, ?_⟩
        rw [show i - n = (i - (n + 1)) + 1 by omega] at h2
        exact h2
  | some w :: σ, n, i, v => by
    show (i, v) ∈ (n, w) :: pmAll (n + 1) σ ↔ _
    rw [List.mem_cons, pmAll_mem]
    constructor
    · rintro (h | ⟨h1, h2⟩)
      · obtain ⟨rfl, rfl⟩ := Prod.mk.inj h
        exact ⟨Nat.le_refl _, by simp⟩
      · refine ⟨by omega, ?_⟩
        rw [show i - n = (i - (n + 1)) + 1 by omega]
        exact h2
    · rintro ⟨h1, h2⟩
      by_cases e : i = n
      · subst e
        simp at h2
        exact .inl (by rw [h2])
      · refine .inr ⟨by omega, ?_⟩
        rw [show i - n = (i - (n + 1)) + 1 by omega] at h2
        exact h2
/-- the ends of f's except suite, of what is behind -/
def endS (Q : D → Sl → Prop) (ρ' : Sl) : EndD := { nx := fun _ => False, rt := fun r ρg => ∃ d ρg', ret ρg r = some (d, ρg') ∧ Q d ρ' }
def endC (Q : D → Sl → Prop) (ρ' : Sl) : EndD := { nx := fun _ => Q .non ρ', rt := fun r ρg => ∃ d ρg', ret ρg r = some (d, ρg') ∧ Q d ρ' }
/-- f(lambda: e): what f does behind e's value, behind e's exception -/
def wCaught (An : XN) (cs : List Str) (n it ie : Nat) (ws wr : WS) (we : DXs → WE) : WE := fun ρ Q =>
  we (fun c fs xs ρ' => subd ρ ρ' = true ∧ caughtB An cs c = some true ∧ ws (endS Q ρ') ((List.replicate n none).set ie (some (.exc c fs xs)))) ρ
    fun r ρ' => ∃ d ρ'', fzR ρ' r = some (d, ρ'') ∧ wr (endC Q ρ'') ((List.replicate n none).set it (some d))

section
variable {G : Gc} {F F' : Addr → Prop} {H H' : Hp} {σ σ' : L2.St} {ρ ρ' : Sl} {fp fp' fr : List Addr} {K : PySem.W.Frag} {ca : Cax} {v : V} {d : D}
theorem RpS.undo : ∀ {σ σ' : L2.St} {ρ ρ' : Sl} {fp fp' : List Addr}, RpS K ca F H σ ρ fp → RpS K ca F' H' σ' ρ' fp' → subd ρ ρ' = true → (∀ (i : Nat) (v : V), σ[i]? = some (some v) → σ'[i]? = some (some v)) → RpS K ca F' H' σ ρ' fp'
  | _, _, _, _, _, _, .nil, .nil, _, _ => .nil
  | _, _, _, _, _, _, .nil, .no _, e, _ => nomatch e
  | _, _, _, _, _, _, .nil, .has _ _, e, _ => nomatch e
  | _, _, _, _, _, _, .no _, .nil, e, _ => nomatch e
  | _, _, _, _, _, _, .has _ _, .nil, e, _ => nomatch e
  | _, _, _, _, _, _, .no h, .no h', e, k => .no (RpS.undo h h' e fun i v q => k (i + 1) v q)
  | _, _, _, _, _, _, .no _, .has _ _, e, _ => nomatch e
  | _, _, _, _, _, _, .has _ h, .no h', e, k => .no (RpS.undo h h' e fun i v q => k (i + 1) v q)
  | _, _, _, _, _, _, .has r h, .has r' h', e, k => by
    have := k 0 _ rfl
    simp at this
    subst this
    exact .has r' (RpS.undo h h' e fun i v q => k (i + 1) v q)
abbrev Gc.lam (G : Gc) (σ : L2.St) (F0 : Addr → Prop) (H0 : Hp) (fp0 : List Addr) (t : Tabs G.ca.tb H0) : Gc := ⟨G.K, G.ca, pmAll 0 σ, F0, H0, fp0, t⟩
theorem Ok.toLam (ok : Ok G F H σ ρ fp) (t : Tabs G.ca.tb H) : Ok (G.lam σ F H fp t) F H σ ρ fp := ⟨ok.rs, ok.nd, ok.dom, fun p hp => (pmAll_mem.mp (show (p.1, p.2) ∈ pmAll 0 σ from hp)).2, .refl⟩
theorem Ok.ofLam {t : Tabs G.ca.tb H} (ok : Ok G F H σ ρ fp) (k : Ok (G.lam σ F H fp t) F' H' σ ρ' fp') : Ok G F' H' σ ρ' fp' := ⟨k.rs, k.nd, k.dom, ok.pm, ok.rch.trans k.rch⟩
theorem Ok.ofLam' {t : Tabs G.ca.tb H} (ok : Ok G F H σ ρ fp) (k : Ok (G.lam σ F H fp t) F' H' σ' ρ' fp') (e : subd ρ ρ' = true) : Ok G F' H' σ ρ' fp' :=
  ⟨RpS.undo ok.rs k.rs e fun i v q => k.pm (i, v) (pmAll_mem.mpr ⟨Nat.zero_le _, q⟩), k.nd, k.dom, ok.pm, ok.rch.trans k.rch⟩
/-- tables grown -/
theorem Ok.ext {H1 : Hp} (ok : Ok G F H σ ρ fp) (e : ExtN H H1) (dom : ∀ b o, H b = some o → ∃ o', H1 b = some o') (t : Tabs G.ca.tb H1) : Ok G F H1 σ ρ fp ∧ Step G.ca.tb F H fp F H1 fp := by
  have nt : ∀ {a : Addr} {o : HO}, H a = some o → NTb o → H1 a = some o := fun {a o} q n => e a o q fun ps z => by subst z; exact n
  have st : Step G.ca.tb F H fp F H1 fp := ⟨fun _ z => z, fun _ z => .inl z, fun a o q n _ => nt q n, dom, fun _ z => .inl z, fun _ => t⟩
  exact ⟨⟨ok.rs.keep (fun a o q n => nt q (ntb_n n)) (fun a o _ q n => nt q (ntb_li n)) (fun a u _ q n => rd_keep (fun o q n => nt q n) q n) (fun _ z => z) (fun a _ o q n => nt q n) (fun a z => ok.nf a z), ok.nd, fun a z => let ⟨o, q⟩ := ok.dom a z; dom a o q, ok.pm, ok.rch.trans st⟩, st⟩
theorem RpS.nones : ∀ {σ : L2.St} {n : Nat}, σ.length = n → RpS K ca F H σ (List.replicate n none) []
  | [], _, rfl => .nil
  | x :: σ, _, rfl => .no (RpS.nones rfl)
theorem RpS.one (r : Rp K ca F H v d []) : ∀ {σ : L2.St} {n i : Nat}, σ.length = n → i < n → RpS K ca F H (σ.set i (some v)) ((List.replicate n none).set i (some d)) []
  | [], _, _, rfl, h => absurd h (Nat.not_lt_zero _)
  | x :: σ, _, 0, rfl, h => .has (fr := []) r (RpS.nones rfl)
  | x :: σ, _, i + 1, rfl, h => .no (RpS.one r rfl (Nat.lt_of_succ_lt_succ h))
/-- a def's statements run beside: the maker's slots stand -/
theorem side {Qd : D → Sl → Prop} {Q : VK} {n i : Nat} {σZ : L2.St} {w : WS} {Dd : EndD} {De : Ends} (ok' : Ok G F' H' σ ρ' fp') (st : Step G.ca.tb F H fp F' H' fp') (rp : Rp G.K G.ca F' H' v d []) (hl : σZ.length = n) (hi : i < n)
    (hw : w Dd ((List.replicate n none).set i (some d))) (hD : Dd = endS Qd ρ' ∨ (Dd = endC Qd ρ' ∧ ∀ σ' H', De.nx σ' H' = Q .non H')) (k : ∀ v H'' F'' ρ'' fp'' r fr, En G F H fp σ F'' H'' ρ'' fp'' fr → Rr G F'' H'' σ v r fr → Qd r ρ'' → Q v H'') (hrt : De.rt = Q) :
    lsE G.K G.ca w De (σZ.set i (some v)) H' := by
  let Gz : Gc := ⟨G.K, G.ca, [], F', H', [], ok'.rch.tab G.tb0⟩
  have okz : Ok Gz F' H' (σZ.set i (some v)) ((List.replicate n none).set i (some d)) [] := ⟨RpS.one rp hl hi, List.nodup_nil, ok'.dom, (fun p hp => nomatch hp), .refl⟩
  have fin : ∀ {v : V} {H3 : Hp} {F3 : Addr → Prop} {fr : List Addr} {r : D}, Step G.ca.tb F' H' [] F3 H3 fr → (∀ a, F3 a → ∃ o, H3 a = some o) → fr.Nodup → Rp G.K G.ca F3 H3 v r fr → Qd r ρ' → Q v H3 := fun {v H3 F3 fr r} s dm nd rp q => by
    have sf : Step G.ca.tb F' H' fp' F3 H3 (fp' ++ fr) := by
      have := s.frame fp'
      rwa [List.append_nil] at this
    have s1 : Step G.ca.tb F' H' fp' F3 H3 fp' := sf.less fun a z => List.mem_append_left _ z
    have ok5 : Ok G F3 H3 σ ρ' fp' := ok'.step s (fun _ z => nomatch z) (fun _ _ z => nomatch z) dm (ok'.rch.trans s1)
    refine k v H3 F3 ρ' fp' r fr ⟨st.trans (sf.less fun a z => (List.mem_append.mp z).elim (List.mem_append_right _) (List.mem_append_left _)), ok5, nodup_of nd ok'.nd fun a z y => ?_⟩ (.inl rp) q
    rcases s.fps a z with w | w
    · cases w
    · obtain ⟨_, o, e, _⟩ := ok'.rs.own a y
      rw [w] at e
      cases e
  have rtn : ∀ v σ3 H3 F3 ρ3 fp3 r fr, Step G.ca.tb F' H' [] F3 H3 (fr ++ fp3) → Ok Gz F3 H3 σ3 ρ3 fp3 → (fr ++ fp3).Nodup → Rr Gz F3 H3 σ3 v r fr → (∃ d ρg', ret ρ3 r = some (d, ρg') ∧ Qd d ρ') → Q v H3 := fun v σ3 H3 F3 ρ3 fp3 r fr s ok3 nd rr ⟨d, ρg, er, q⟩ => by
    obtain ⟨fs, fp4, rp4, ok4, nd4, sub1, sub2⟩ := ret_ok ok3 rr nd er
    exact fin (s.less sub1) ok3.dom (nodup_l nd4) rp4 q
  refine ⟨Gz, rfl, rfl, rfl, F', _, [], Dd, okz, hw, ?_⟩
  rcases hD with e | ⟨e, hnx⟩
  · subst e
    exact ⟨fun _ _ _ _ _ _ _ z => z.elim, fun v σ3 H3 F3 ρ3 fp3 r fr s k3 nd rr q => hrt ▸ rtn v σ3 H3 F3 ρ3 fp3 r fr s k3 nd rr q, fun _ _ _ _ _ _ _ z => z.elim, fun _ _ _ _ _ _ _ z => z.elim⟩
  · subst e
    refine ⟨fun σ3 H3 F3 ρ3 fp3 s k3 q => ?_, fun v σ3 H3 F3 ρ3 fp3 r fr s k3 nd rr q => hrt ▸ rtn v σ3 H3 F3 ρ3 fp3 r fr s k3 nd rr q, fun _ _ _ _ _ _ _ z => z.elim, fun _ _ _ _ _ _ _ z => z.elim⟩
    rw [hnx]
    exact fin (v := .non) (r := .non) (fr := []) (s.less fun _ z => nomatch z) k3.dom List.nodup_nil .non q
end

/-- the lambda's body, from its maker's slots -/
def tLm (G : Gc) (we : DXs → WE) : XK → TE := fun E σ H Q => ∃ (F : Addr → Prop) (fp : List Addr) (t0 : Tabs G.ca.tb H) (Ex : DXs), XLk (G.lam σ F H fp t0) Ex (fun cls d _ H => E cls d H) ∧ LE (G.lam σ F H fp t0) (we Ex) σ H Q
section
variable {X : Cx} {G : Gc} {An : XN} {cs : List Str} {n it ie k : Nat} {ws wr : WS} {we : DXs → WE} {x a : Str} {g c P : Addr} {pg : Arguments} {bg : List Stmt} {sg : Scope} {dV kV doc pm cdv ct oc : Value} {an od : Option Addr} {osl : Array (Option Value)} {Ng : List Str} {params : Arguments} {body : Expr} {scope : Scope} {p lpos pos : Pos}
theorem d_caught (hK : X.K = G.K) (ek : ErrK X.K G.ca An) (hcs : (cs.all fun x => (An.map (·.1)).contains x) = true) (hit : it < n) (hie : ie < n) (hn : Ng.length = n)
    (hg : Gl X x) (hm : X.mg x = some (.ref g)) (hk : PySem.W.keepIn X.K (.ref g) = true)
    (lk : X.K.lookup g = some ⟨oc, od, .func (PySem.W.fnOf x x pg bg sg dV kV doc pm an cdv ct), osl⟩) (hcg : PySem.W.codeIn X.K cdv x = true) (hb : L2.Binds X.K (PySem.W.fnOf x x pg bg sg dV kV doc pm an cdv ct) [a] []) (Sg : FnScope Ng [a] sg) (hNg : Ng[0]? = some a) (hva : Vis sg a)
    (hG : GivesTo X Ng x sg g cdv bg a (X.env.qual ++ "<lambda>") (TTc X.K G.ca (cs.map fun y => .ref (G.ca y)) Ng.length it ie ws wr))
    (TB : TabB X.base X.mg c P) (hcode : X.env.code = .ref c) (hmT : (P, X.env.qual ++ "<lambda>") ∈ G.ca.tb) (hu : ∀ p ∈ G.ca.tb, p.1 = P → p.2 = X.env.qual ++ "<lambda>") (hr : RoomG (k + 2) X.A) (L : LamS X.env.scope scope) (hdef : defaultsOf params X.env = ([], []))
    (hbind : ∀ (q : Str) (cl : List (Str × Addr)) (pm cv ctv : Value), bindArgs (PySem.W.kla_fn "<lambda>" q params body scope cl pm cv ctv) ⟨[], []⟩ = pure [])
    (hbody : ∀ (A : Around) (outer : List Env) (s : Shared) (H : Hp) (E : XK) (f c' : Addr), RoomG k (A.deeper (lamEnv X scope s.heap.objs.size f c')) → ∀ (G' : Gc) (Ex : DXs), G'.K = G.K → G'.ca = G.ca → XLk G' Ex (fun cls d _ H => E cls d H) → PE (lamCx X A outer s H E scope f c') body (LE G' (we Ex)))
    (hdb : (x == ("__debug__" : Str)) = false) (hd : (a == ("__debug__" : Str)) = false) (hcd : (a == ("__classdict__" : Str)) = false) :
    PE X (.Call (.Name x p) [.Lambda params body scope lpos] [] pos) (LE G (wCaught An cs n it ie ws wr we)) := by
  refine imE (pe_lamG (T := G.ca.tb) (t := tLm G we) hg hm hk lk hcg hb Sg hNg hva hG TB hcode hmT hu hr L hdef hbind
    (fun A outer s H E f c' hr2 => ⟨fun pins s1 σ H1 Q I ⟨F, fp, t0, Ex, lk1, h⟩ => (hbody A outer s H E f c' hr2 (G.lam σ F H1 fp t0) Ex rfl rfl lk1).run pins s1 σ H1 Q I h⟩) hdb hd hcd) fun σ H Q q => ?_
  obtain ⟨F, ρ, fp, Qd, ok, h, kk⟩ := q
  refine ⟨ok.rch.tab G.tb0, fun H1 eN th T1 => ?_⟩
  obtain ⟨ok1, st1⟩ := ok.ext eN th T1
  have okL := ok1.toLam T1
  subst hn
  refine ⟨fun cls d H' => ∃ c x F' ρ' fp' fs us xs, cls = .ref (G.ca c) ∧ d = some x ∧ Ok G F' H' σ ρ' fp' ∧ Step G.ca.tb F H1 fp F' H' fp' ∧ H' x = some (.xd (fs.zip us)) ∧ fs.length = us.length ∧ RpL G.K G.ca F' H' us xs [] ∧ caughtB An cs c = some true ∧ ws (endS Qd ρ') ((List.replicate Ng.length none).set ie (some (.exc c fs xs))),
    fun v H' => ∃ F' ρ' fp' r fr d ρ'', En G F H1 fp σ F' H' ρ' fp' fr ∧ Rr G F' H' σ v r fr ∧ fzR ρ' r = some (d, ρ'') ∧ wr (endC Qd ρ'') ((List.replicate Ng.length none).set it (some d)), fun Qn hQn => ?_, ?_, ?_⟩
  · refine ⟨F, fp, T1, _, ?_, F, ρ, fp, _, okL, h, fun v H' F' ρ' fp' r fr en rr q => ?_⟩
    · rintro c x σ' H' F' ρ' fp' fs us xs k2 hx hl rx ⟨sd, ec, hws⟩
      have k3 := ok1.ofLam' k2 sd
      exact ⟨c, x, F', ρ', fp', fs, us, xs, rfl, rfl, k3, k2.rch, hx, hl, rx, ec, hws⟩
    · obtain ⟨d, ρ'', ef, hwr⟩ := q
      exact hQn v H' ⟨F', ρ', fp', r, fr, d, ρ'', ⟨en.st, ok1.ofLam en.ok, en.nd⟩, rr, ef, hwr⟩
  · rintro cls d H' ⟨c, x, F', ρ', fp', fs, us, xs, rfl, rfl, k2, st2, hx, hl, rx, ec, hws⟩
    obtain ⟨as, ea, eb⟩ := Option.map_eq_some_iff.mp ec
    refine ⟨by rw [← eb]; exact ek.any (p := (c, as)) (PySem.mem_of_lookup ea) hcs, G.ca c, rfl, fun e σZ De he hlz hrt => ?_⟩
    obtain ⟨k3, st3, rp⟩ := k2.caught (c := c) he hx hl rx
    have := side (G := G) (σ := σ) (F := F) (H := H) (fp := fp) (Qd := Qd) (Q := Q) (De := De) k3 ((st1.trans st2).trans st3) rp hlz hie hws (.inl rfl) kk hrt
    rw [hK]
    exact this
  · rintro v H' σZ De ⟨F', ρ', fp', r, fr, d, ρ'', en, rr, ef, hwr⟩ hlz hrt hnx
    obtain ⟨F2, fp2, sh, rp⟩ := rr.share en.ok en.nd (en.hr ok1) ef
    have en2 := en.share sh
    have := side (G := G) (σ := σ) (F := F) (H := H) (fp := fp) (Qd := Qd) (Q := Q) (De := De) en2.ok (st1.trans en2.st0) rp hlz hit hwr (.inr ⟨rfl, hnx⟩) kk hrt
    rw [hK]
    exact this
end
end M
/-! M49: defs that make lambdas, the def that gets them, over data. -/
namespace M
open PySem PySem.Spec PyProof.Rows L2 LamX

section
variable {P : Program} {w : World} {K : PySem.W.Frag} {ca : Cax} {mg : Str → Option Value} {base : Heap} {k : Nat} {x qual : Str} {params : Arguments} {body : List Stmt} {scope : Scope} {dvs0 : List V} {kws : List (Str × V)} {f : Addr} {fd : FuncData} {N ps : List Str} {own : List Nat} {sp : Spd}
/-- the def's code object and its table; nm: the name of the lambdas that it makes -/
structure TbK (K : PySem.W.Frag) (ca : Cax) (mg : Str → Option Value) (base : Heap) (f : Addr) (nm : Str) : Prop where
  ex : ∃ c T : Addr, (∀ (oc : Value) (od : Option Addr) (fd : FuncData) (osl : Array (Option Value)), K.lookup f = some ⟨oc, od, .func fd, osl⟩ → fd.code = .ref c) ∧ TabB base mg c T ∧ (T, nm) ∈ ca.tb ∧ ∀ p ∈ ca.tb, p.1 = T → p.2 = nm
/-- a def that makes lambdas -/
theorem fn_liftT {nm : Str} (FD : FunD K x qual params body scope dvs0 kws f fd) (S : FnScope N ps scope) (tb : TbK K ca mg base f nm) (ho : ownOk own ps.length = true)
    (hlen : ∀ ds Qd Ed, sp ds Qd Ed → ds.length = ps.length) (wf : DXs → WS)
    (hbody : ∀ (c T : Addr) (A : Around) (outer : List Env) (s : Shared) (H : Hp) (E : XK), TabB base mg c T → (T, nm) ∈ ca.tb → (∀ p ∈ ca.tb, p.1 = T → p.2 = nm) → RoomG k (A.deeper (envOfC qual scope s.heap.objs.size f (.ref c))) → ∀ (G : Gc) (Ex : DXs), G.K = K → G.ca = ca → G.pm.map (·.1) = own → XLk G Ex (fun cls d _ H => E cls d H) →
      PSs (cxOf (L2.CX P w) P w K mg base N qual scope f (.ref c) A outer s H E) body (LS G (wf Ex)))
    (hw : ∀ ds Qd Ed, sp ds Qd Ed → wf (fun c fs xs _ => Ed c fs xs) (endD own Qd) (startD N ds)) : FnG P w K mg base (L2.CX P w) (k + 1) f fd ps (lift K ca own sp) := by
  obtain ⟨c, T, hc, TB, m1, m2⟩ := tb.ex
  have F0 := FD
  obtain ⟨oc, od, dV, kV, doc, pm, an, cdv, ct, osl, rfl, lk, hcd, dflt, kwdf⟩ := FD.ex
  have ecd : cdv = .ref c := hc _ _ _ _ lk
  subst ecd
  have len : ∀ vs H Q E, lift K ca own sp vs H Q E → vs.length = ps.length := fun vs H Q E h => by
    obtain ⟨F, ds, fp, Qd, Ed, rl, _, _, _, _, hs, _⟩ := h
    rw [rl.length]
    exact hlen ds Qd Ed hs
  refine ⟨len, fun A outer s H args us vs Q E hr e0 hb rv hsp => ?_⟩
  have stays : ∀ b o, base.get? b = some o → s.heap.get? b = some o := fun b o e => (e0.bs b o e).1
  have inK : K.In s.heap := e0.mod.kin.keeps stays
  have kinds : ∀ y ∈ ps.zip us, scope.names.lookup y.1 = some .local ∨ (scope.names.lookup y.1 = some .cell ∧ ((cellsFrom (s.heap.objs.size + 1) scope.names []).lookup y.1).isSome = true) := fun y hy => by
    obtain ⟨n, v⟩ := y
    rcases S.par n (List.of_mem_zip hy).1 with q | q
    · exact .inl q
    · exact .inr ⟨q, PySem.W.cellsFrom_some _ _ _ (.inl q)⟩
  refine codeAny_call_function hr.rm.depth (inK _ _ lk) rfl S.co S.gen rfl (PySem.W.codeRec_of inK hcd) (hb _ _ _ _ (wpAny_newFunctionEnv_cells S.kind kinds fun env he s1 y => ?_))
  subst he
  refine ⟨(e0.mod.nolimit.keeps stays).keeps y.toInCall.keep, codeAny_func ?_⟩
  obtain ⟨t, ht, hq⟩ := lift_body (X := cxOf (L2.CX P w) P w K mg base N qual scope f (.ref c) A outer s H E) ho hlen wf (hbody c T A outer s H E TB m1 m2 (hr.deeper _)) hw hsp
  have I := inv_start (E := E) (CX := L2.CX P w) (cd := .ref c) S hr.rm.hd e0 (len _ _ _ _ hsp) rv y
  refine wpAny_mono (ht.run [] s1 (L2.start N vs) H _ I hq) (fun fl s' hs => ?_) fun e s' hs => hs
  match fl, hs with
  | .ret u, ⟨v, σ', H', J, ru, q⟩ => exact ⟨v, H', J.os, J.bare, J.base, J.hok, ru, q⟩
  | .next, ⟨σ', H', J, q⟩ => exact ⟨V.non, H', J.os, J.bare, J.base, J.hok, rfl, q⟩
  | .brk, ⟨_, _, _, q⟩ => exact q.elim
  | .cont, ⟨_, _, _, q⟩ => exact q.elim
/-- the def f of f(lambda: e): its frame has n slots, told at it, e at ie -/
structure CauK (P : Program) (w : World) (K : PySem.W.Frag) (ca : Cax) (mg : Str → Option Value) (base : Heap) (k : Nat) (x : Str) (cs : List Str) (n it ie : Nat) (ws wr : WS) : Prop where
  ex : ∃ (g : Addr) (a : Str) (pg : Arguments) (bg : List Stmt) (sg : Scope) (dV kV doc pm cdv ct oc : Value) (an od : Option Addr) (osl : Array (Option Value)) (Ng : List Str), mg x = some (.ref g) ∧ PySem.W.keepIn K (.ref g) = true ∧ K.lookup g = some ⟨oc, od, .func (PySem.W.fnOf x x pg bg sg dV kV doc pm an cdv ct), osl⟩ ∧ PySem.W.codeIn K cdv x = true ∧
    L2.Binds K (PySem.W.fnOf x x pg bg sg dV kV doc pm an cdv ct) [a] [] ∧ FnScope Ng [a] sg ∧ Ng[0]? = some a ∧ Vis sg a ∧ Ng.length = n ∧ (a == ("__debug__" : Str)) = false ∧ (a == ("__classdict__" : Str)) = false ∧
    ∀ X : Cx, X.prog = P → X.w = w → X.K = K → X.mg = mg → X.base = base → RoomG (k + 2) X.A → GivesTo X Ng x sg g cdv bg a (X.env.qual ++ "<lambda>") (TTc K ca (cs.map fun y => .ref (ca y)) Ng.length it ie ws wr)
end
section
variable {X : Cx} {G : Gc} {An : XN} {cs : List Str} {n it ie k j : Nat} {ws wr : WS} {we : DXs → WE} {x : Str} {c T : Addr} {params : Arguments} {body : Expr} {scope : Scope} {p lpos pos : Pos}
theorem d_cau (cau : CauK X.prog X.w X.K G.ca X.mg X.base k x cs n it ie ws wr) (ek : ErrK X.K G.ca An) (TB : TabB X.base X.mg c T) (hmT : (T, X.env.qual ++ "<lambda>") ∈ G.ca.tb) (hu : ∀ p ∈ G.ca.tb, p.1 = T → p.2 = X.env.qual ++ "<lambda>") (hr : RoomG j X.A)
    (hbody : ∀ (A : Around) (outer : List Env) (s : Shared) (H : Hp) (E : XK) (f c' : Addr), RoomG k (A.deeper (lamEnv X scope s.heap.objs.size f c')) → ∀ (G' : Gc) (Ex : DXs), G'.K = G.K → G'.ca = G.ca → XLk G' Ex (fun cls d _ H => E cls d H) → PE (lamCx X A outer s H E scope f c') body (LE G' (we Ex)))
    (hk : k + 2 ≤ j := by decide) (hK : X.K = G.K := by rfl) (hcs : (cs.all fun x => (An.map (·.1)).contains x) = true := by decide +kernel) (hit : it < n := by decide) (hie : ie < n := by decide) (hg : Gl X x := by rfl) (hcode : X.env.code = .ref c := by rfl)
    (L : lamSB X.env.scope scope = true := by kernel_rfl) (hdef : defaultsOf params X.env = ([], []) := by rfl) (hbind : ∀ (q : Str) (cl : List (Str × Addr)) (pm cv ctv : Value), bindArgs (PySem.W.kla_fn "<lambda>" q params body scope cl pm cv ctv) ⟨[], []⟩ = pure [] := by intros; rfl) (hdb : (x == ("__debug__" : Str)) = false := by decide) :
    PE X (.Call (.Name x p) [.Lambda params body scope lpos] [] pos) (LE G (wCaught An cs n it ie ws wr we)) := by
  obtain ⟨g, a, pg, bg, sg, dV, kV, doc, pm, cdv, ct, oc, an, od, osl, Ng, e1, e2, e3, e4, e5, e6, e7, e8, e9, e10, e11, gv⟩ := cau.ex
  exact d_caught hK ek hcs hit hie e9 hg e1 e2 e3 e4 e5 e6 e7 e8 (gv X rfl rfl rfl rfl rfl (hr.mono hk)) TB hcode hmT hu (hr.mono hk) (lamS_by L) hdef hbind hbody hdb e10 e11
end
end M
/-! M50: list.count(True) of truth values; repr while an exception is handled. -/
namespace M
open PySem PySem.Spec PyProof.Rows L2

theorem RoomG.u5 {k : Nat} {A : Around} (r : RoomG k A) : A.units + 65 < cLine := by have := r.rm.un; omega
section
variable {X : Cx} {G : Gc}
theorem bools_reads {h : Heap} : ∀ {bs : List Bool} {us : List Value}, Vals (bs.map V.bl) us → PySem.W.HoldAll h us bs
  | [], _, .nil => ⟨[], .nil⟩
  | b :: bs, _, .cons ru t => by
    obtain ⟨as, r⟩ := bools_reads (h := h) t
    have e : _ = Value.bool b := ru
    subst e
    exact ⟨[] ++ as, .cons (.bool b) r⟩
def rCntB (K : PySem.W.Frag) : V → List V → Hp → VK → Prop := fun x xs H Q => ∃ (p : Addr) (bs : List Bool) (b : Bool), x = .ref p ∧ xs = [.bl b] ∧ SqL K H p (bs.map V.bl) ∧ Q (.int (bs.countP fun y => decide (y = b) : Nat)) H
theorem mt_countB (hu : X.A.units + 65 < cLine) : MtR X "list.count" (rCntB X.K) := by
  intro pins s σ H x xs v us Q I rx rxs h
  obtain ⟨p, bs, b, rfl, rfl, hs, q⟩ := h
  cases rx
  obtain ⟨u, rfl, ru⟩ := rxs.one
  have eu : u = Value.bool b := ru
  subst eu
  obtain ⟨its, rv, pl, hz⟩ := I.list hs
  have hu2 : X.A.units + 1 + PySem.W.Datum.depth Bool < cLine := by
    have : PySem.W.Datum.depth Bool ≤ 5 := by decide
    omega
  refine PySem.W.count_list_datum (α := Bool) pl.isList (by simpa using bools_reads rv) ⟨[], .bool b⟩ hu2 ?_
  exact ⟨.int (bs.countP fun y => decide (y = b) : Nat), H, I.tok _, ⟨s.toks, rfl⟩, q⟩
/-- how many are b -/
def nCntB : ON := fun ρ rs K => ∃ r o xs bs b, rs = [r, .bl b] ∧ pk ρ r = some (.lst o xs) ∧ bls xs = some bs ∧ K (.int (bs.countP fun y => decide (y = b) : Nat)) ρ
theorem nCntB_ok : ONOk G (rM (rCntB G.K)) nCntB := fun F H σ ρ fp vs rs fr Kd Q ok rr nd h k => by
  obtain ⟨r, o, xs, bs, b, rfl, e, eb, q⟩ := h
  obtain ⟨v1, v2, f1, f2, rfl, rfl, r1, r2⟩ := rr.two
  obtain ⟨a, ws, rfl, ha, rl⟩ := r1.lst ok e
  obtain ⟨rfl, _⟩ := r2.sc (u := .bl b) rfl
  have := rl.bls eb
  subst this
  exact ⟨_, _, rfl, a, bs, b, rfl, rfl, .of ha, k _ H F ρ fp _ [] (En.stay ok) (.inl (.int _)) q⟩
variable {oe e : Expr} {we : WE} {wa : WA} {apos pos : Pos}
theorem d_count (hU5 : X.A.units + 65 < cLine) (hK : X.K = G.K) (he : PE X oe (LE G we)) (ha : PA X [e] (LA G wa)) (hbase : attributeBase oe "count" X.env (eval oe X.env) = eval oe X.env := by rfl)
    (hfew : ((backTo pos (starEach [e] X.env)).all (fun x => !x.1) && (backToKw pos (keywordEach [] X.env)).all (fun x => x.1.isSome) && decide ([e].length + ([] : List Keyword).length + (if ([] : List Keyword).isEmpty then 0 else 1) < 30)) = true := by rfl)
    (hline : (apos.endLine == pos.line) = true := by rfl) (hs : starEach [e] X.env = (false, eval e X.env) :: starEach [] X.env := by rfl) (hplain : (backTo pos (starEach [] X.env)).any (·.1) = false := by rfl) :
    PE X (.Call (.Attribute oe "count" apos) [e] [] pos) (LE G (wM "list" nCntB we wa)) := d_m hK PySem.F.plainAttrs_list PySem.F.slot_list_count PySem.F.type_list_count (mt_countB hU5) (hK ▸ nCntB_ok) he ha hbase hfew hline hs hplain
end
/-! ### repr while an exception is handled -/
section
variable {X : Cx} {G : Gc} {e : Expr} {es : List Expr} {wa : WA} {pos : Pos}
theorem call_reprQ {k : Nat} (hr : RoomQ k X.A) : CallR X (.builtin "repr") (rRepr X.K) := by
  intro pins s σ H xs us Q I rv h
  obtain ⟨v, d, rfl, hd, hs, hn, hdp, hz, q⟩ := h
  obtain ⟨u, rfl, ru⟩ := Vals.one rv
  have hu : X.A.units + (d.depth + 1) < cLine := by have := hr.un; omega
  have by_ref : ∀ {a : Addr}, u = .ref a → wpAny (model X.prog X.w) X.A (call (.builtin "repr") [u]) (EP X pins σ Q) X.xe s := fun {a} z => by
    subst z
    obtain ⟨as, rd⟩ := Dp.reads I d v _ hd ru
    exact repr_of_reads' rd hs (PyData.noDict_hsm hn) hr.gd hu (fun _ _ e => e) (fun h' u tk hk => ⟨.str d.shown, H, I.kept (t' := tk) hk, ⟨u, rfl⟩, q⟩) hz
  cases hd with
  | non =>
    obtain rfl : u = .none := ru
    exact PySem.P.repr_of_none ⟨.str (PyData.shown .none), H, I.tok _, ⟨_, rfl⟩, q⟩
  | bl b =>
    obtain rfl : u = .bool b := ru
    exact PySem.P.repr_of_bool ⟨.str (PyData.shown (.bool b)), H, I.tok _, ⟨s.toks, by simp [PyData.shown]⟩, q⟩
  | int i =>
    obtain ⟨t, rfl⟩ := ru
    exact PySem.P.repr_of_int (by simpa [PyData.showable] using hs) ⟨.str (PyData.shown (.int i)), H, I.tok _, ⟨s.toks, by simp [PyData.shown]⟩, q⟩
  | str x =>
    obtain ⟨t, rfl⟩ := ru
    exact PySem.P.repr_of_str ⟨.str (PyData.shown (.str x)), H, I.tok _, ⟨s.toks, by simp [PyData.shown]⟩, q⟩ (by simpa [PyData.shown] using hz)
  | lst _ _ => exact by_ref ru
  | tup _ _ => exact by_ref ru
theorem d_reprQ {k : Nat} {p1 : Pos} (hr : RoomQ k X.A) (hK : X.K = G.K) (hg : Gl X "repr") (hm : X.mg "repr" = none) (ha : PA X (e :: es) (LA G wa)) (he : starEach (e :: es) X.env = (false, eval e X.env) :: starEach es X.env := by rfl) (hpl : (backTo pos (starEach es X.env)).any (·.1) = false := by rfl) :
    PE X (.Call (.Name "repr" p1) (e :: es) [] pos) (LE G (wCB nRepr wa)) := d_cb (call_reprQ hr) (hK ▸ nRepr_ok) hg hm (by decide +kernel) ha (by decide) (by decide) he hpl
end
end M
/-! M51: == of two instances by the class's own __eq__. -/
namespace M
open PySem PySem.Spec PyProof.Rows L2

section
variable {G : Gc} {X : Cx} {F F' F1 F2 : Addr → Prop} {H H' H1 H2 : Hp} {σ σ' : L2.St} {ρ ρ' ρ1 ρ2 : Sl} {fp fp' fp1 fp2 fr fr1 fr2 fr' fo : List Addr} {v v1 v2 : V} {r r1 r2 d : D} {p : Addr} {o : HO}
  {a b : Expr} {pos : Pos} {k j : Nat} {cn : Str} {sp : Spd} {wa wb : WE}
def wEqI (c : Str) (sp : Spd) (wa wb : WE) : WE := fun ρ Q => wa ρ fun x ρ1 => wb ρ1 fun y ρ2 => isIn ρ2 x c ∧ isIn ρ2 y c ∧ callD [] [] 2 sp [] exF (fun r ρ3 => (∃ z, r = .bl z) ∧ Q r ρ3) [x, y] ρ2
theorem pc_eqO (me : Met X.prog X.w X.K G.ca X.mg X.base k cn "__eq__" [] sp) (hr : RoomG j X.A) (ha : PE X a (LE G wa)) (hb : PE X b (LE G wb)) (hK : X.K = G.K) (hk : k + 1 ≤ j) : PC X .Eq a b (LE G (wEqI cn sp wa wb)) := by
  obtain ⟨f, fd, ps, F, m, bi, fi⟩ := me.ex
  refine ⟨fun pins s σ H Q I q => ?_⟩
  obtain ⟨F0, ρ, fp, Qd, ok, h, kk⟩ := q
  have key := bin2 (R := fun v1 v2 H2 => ∃ x dx fs y dy gs, v1 = .ref x ∧ v2 = .ref y ∧ H2 x = some (.ins (G.ca cn) dx fs) ∧ H2 y = some (.ins (G.ca cn) dy gs) ∧ lift G.K G.ca [] sp [v1, v2] H2 (fun v H' => (∃ z, v = .bl z) ∧ Q v H') (fun _ _ _ => False))
    (k := fun x y ρ2 => isIn ρ2 x cn ∧ isIn ρ2 y cn ∧ callD [] [] 2 sp [] exF (fun r ρ3 => (∃ z, r = .bl z) ∧ Qd r ρ3) [x, y] ρ2) ok h fun v1 v2 H2 F2 ρ2 fp2 x y f1 f2 en r1 r2 ⟨hi, hj, q⟩ => by
    obtain ⟨z, dx, fs, rfl, hz⟩ := hi.at_ en.ok r1
    obtain ⟨z', dy, gs, rfl, hz'⟩ := hj.at_ en.ok r2
    have rl : RrL G F2 H2 σ [.ref z, .ref z'] [x, y] (f1 ++ (f2 ++ [])) := .cons r1 (.cons r2 .nil)
    refine ⟨z, dx, fs, z', dy, gs, rfl, rfl, hz, hz', call_core (W := fun _ _ _ _ => False) (dvs := []) (vs := [.ref z, .ref z']) xlk0 (fun _ _ => .nil) (by decide) ok.rch (by rw [List.append_nil]; exact en) rl q fun v H' F' ρ' fp' r fr' en' rr' q' => ?_⟩
    obtain ⟨⟨b, rfl⟩, q'⟩ := q'
    refine ⟨?_, kk v H' F' ρ' fp' (.bl b) fr' en' rr' q'⟩
    rcases rr' with rp | ⟨i, e, _⟩
    · cases rp; exact ⟨b, rfl⟩
    · cases e
  refine binT ha hb I key fun v u s2 x y H2 I2 rx ry q => ?_
  obtain ⟨z, dx, fs, z', dy, gs, rfl, rfl, hz, hz', q⟩ := q
  obtain rfl : v = Value.ref z := rx
  obtain rfl : u = Value.ref z' := ry
  obtain ⟨mA, O, _⟩ := ins_get I2.hok hz
  obtain ⟨od, J, _⟩ := O.look
  obtain ⟨mB, O', _⟩ := ins_get I2.hok hz'
  obtain ⟨od', J', _⟩ := O'.look
  obtain ⟨mm, fr⟩ := I2.fr
  rw [← hK] at q
  show wpAny (model X.prog X.w) X.A (richCompare .Eq (.ref z) (.ref z')) (EP X pins σ Q) X.xe s2
  refine PySem.W.cmp_K (op := .Eq) (tb := .ref (G.ca cn)) hr.rm.units0 fr I2.ok.mod.kin J J'.type (by simp [PySem.W.notFirst]) m.at_ m.fn ?_
  refine wpAny_mono (run_at (E := fun σ cls d H => False) F (hr.mono (show k ≤ j by omega)) I2.env0 bi (passAt takes0 σ) I2 (.cons (show RelV (.ref z) (.ref z) from rfl) (.cons (show RelV (.ref z') (.ref z') from rfl) .nil)) q) (fun w s' h => ?_) fun _ _ e => e
  obtain ⟨w', H', I', rw_, ⟨b, rfl⟩, q'⟩ := h
  cases rw_
  exact ⟨.bl b, H', I', rfl, q'⟩
theorem d_eqI (me : Met X.prog X.w X.K G.ca X.mg X.base k cn "__eq__" [] sp) (hr : RoomG j X.A) (ha : PE X a (LE G wa)) (hb : PE X b (LE G wb)) (hK : X.K = G.K := by rfl) (hk : k + 1 ≤ j := by decide) : PE X (.Compare a [.Eq] [b] pos) (LE G (wEqI cn sp wa wb)) := pe_cmp (pc_eqO me hr ha hb hK hk)
theorem dt_eqI (me : Met X.prog X.w X.K G.ca X.mg X.base k cn "__eq__" [] sp) (hr : RoomG j X.A) (ha : PE X a (LE G wa)) (hb : PE X b (LE G wb)) (hK : X.K = G.K := by rfl) (hk : k + 1 ≤ j := by decide) : PT X (.Compare a [.Eq] [b] pos) (LT G (wB (wEqI cn sp wa wb))) :=
  imT (pt_cmp (pc_eqO me hr ha hb hK hk)) fun σ H Q q => by
    obtain ⟨F, ρ, fp, Qd, ok, h, k⟩ := q
    refine ⟨F, ρ, fp, _, ok, h, fun v H1 F1 ρ1 fp1 r fr en rr q => ?_⟩
    obtain ⟨b, rfl, q⟩ := q
    rcases rr with rp | ⟨i, e, _⟩
    · cases rp; exact ⟨b, rfl, k b H1 F1 ρ1 fp1 (by simpa using en) q⟩
    · cases e
end
end M
/-! M52: repr of data in which dicts may stand. -/
namespace M
open PySem PySem.Spec PyProof.Rows L2

/-- where sys.modules stands something stands in the written part -/
def SysK (K : PySem.W.Frag) : Prop := (K.lookup sysModules).isSome = true
def keyP : Key → PyData
  | .inl i => .int i
  | .inr x => .str x
mutual
def toQ : D → PyData
  | .non => .none
  | .bl b => .bool b
  | .int i => .int i
  | .str x => .str x
  | .tup xs => .tuple (toQL xs)
  | .tpo xs => .tuple (toQL xs)
  | .lst _ xs => .list (toQL xs)
  | .lso xs => .list (toQL xs)
  | .dct _ ks xs => .dict ((ks.map keyP).zip (toQL xs))
  | _ => .none
def toQL : List D → List PyData
  | [] => []
  | x :: xs => toQ x :: toQL xs
end
mutual
def dq : D → Bool
  | .tup xs => dqL xs
  | .tpo xs => dqL xs
  | .lst _ xs => dqL xs
  | .lso xs => dqL xs
  | .dct _ ks xs => decide (ks.length = xs.length) && dqL xs
  | .non => true
  | .bl _ => true
  | .int _ => true
  | .str _ => true
  | _ => false
def dqL : List D → Bool
  | [] => true
  | x :: xs => dq x && dqL xs
end
mutual
inductive Dq (K : PySem.W.Frag) (H : Hp) : V → PyData → Prop
  | non : Dq K H .non .none
  | bl (b : Bool) : Dq K H (.bl b) (.bool b)
  | int (i : Int) : Dq K H (.int i) (.int i)
  | str (x : Str) : Dq K H (.str x) (.str x)
  | lst {a : Addr} {xs : List V} {ds : List PyData} : H a = some (.lst xs) → DqAll K H xs ds → Dq K H (.ref a) (.list ds)
  | tup {a : Addr} {xs : List V} {ds : List PyData} : SqT K H a xs → DqAll K H xs ds → Dq K H (.ref a) (.tuple ds)
  | dct {a : Addr} {ks : List Key} {xs : List V} {ds : List PyData} : Rd H a (.dK (ks.zip xs)) → ks.length = xs.length → DqAll K H xs ds → Dq K H (.ref a) (.dict ((ks.map keyP).zip ds))
inductive DqAll (K : PySem.W.Frag) (H : Hp) : List V → List PyData → Prop
  | nil : DqAll K H [] []
  | cons {v : V} {vs : List V} {d : PyData} {ds : List PyData} : Dq K H v d → DqAll K H vs ds → DqAll K H (v :: vs) (d :: ds)
end
section
variable {X : Cx} {pins : List (Addr × Obj)} {σ : L2.St} {H : Hp} {s : Shared}
theorem notSys (I : L2.Inv X pins σ H s) (hs : SysK X.K) {a : Addr} {o : HO} (e : H a = some o) : a ≠ sysModules := fun z => by
  subst z
  unfold SysK at hs
  obtain ⟨ob, hb⟩ := Option.isSome_iff_exists.mp hs
  have := (I.bs _ _ (I.ok.mod.kin _ _ hb)).2
  rw [e] at this
  cases this
theorem DqAll.length {K : PySem.W.Frag} {H : Hp} : ∀ {vs : List V} {ds : List PyData}, DqAll K H vs ds → vs.length = ds.length
  | _, _, .nil => rfl
  | _, _, .cons _ t => by simp [DqAll.length t]
theorem keys_reads {P : Program} {w : World} {h : Heap} : ∀ {es : List DictEntry} {kvs : List (Key × Value)}, Pairs (mixKind P w) es kvs → ReadsAll h (es.map (·.key)) (kvs.map fun p => keyP p.1) []
  | [], [], .nil => .nil
  | e :: es, (k, v) :: kvs, .cons h1 _ t => by
    have ih := keys_reads (h := h) t
    have one : Reads h e.key (keyP k) [] := by
      rcases keyIs_shape h1 with ⟨i, t, h3, h2⟩ | ⟨x, t, h3, h2⟩
      · have h2 : e.key = .int i t := h2
        have h3 : k = .inl i := h3
        rw [h2, h3]; exact .int i t
      · have h2 : e.key = .str x t := h2
        have h3 : k = .inr x := h3
        rw [h2, h3]; exact .str x t
    exact .cons (as := []) (bs := []) one ih
theorem vals_of_pairs {P : Program} {w : World} : ∀ {es : List DictEntry} {kvs : List (Key × Value)}, Pairs (mixKind P w) es kvs → es.map (·.val) = kvs.map (·.2)
  | [], [], .nil => rfl
  | e :: es, (k, v) :: kvs, .cons _ h t => by
    rw [List.map_cons, List.map_cons, vals_of_pairs t, h]
theorem kv_vals : ∀ {ks : List Key} {xs : List V} {vs : List (Key × Value)}, ks.length = xs.length → KV (ks.zip xs) vs → Vals xs (vs.map (·.2)) ∧ vs.map (fun p => keyP p.1) = ks.map keyP
  | [], [], [], _, .nil => ⟨.nil, rfl⟩
  | k :: ks, x :: xs, q :: vs, h, .cons hq t => by
    obtain ⟨h1, h2⟩ := kv_vals (by simpa using h) t
    refine ⟨.cons hq.2 h1, ?_⟩
    rw [List.map_cons, List.map_cons, h2]
    rw [show k = q.1 from hq.1]
mutual
theorem Dq.reads (I : L2.Inv X pins σ H s) (hs : SysK X.K) : ∀ {v : V} {d : PyData} {u : Value}, Dq X.K H v d → RelV v u → ∃ as, Reads s.heap u d as ∧ sysModules ∉ as
  | _, _, _, .non, r => by
    cases r
    exact ⟨_, .none, by simp⟩
  | _, _, _, .bl b, r => by
    cases r
    exact ⟨_, .bool b, by simp⟩
  | _, _, _, .int i, r => by
    obtain ⟨t, rfl⟩ := r
    exact ⟨_, .int i t, by simp⟩
  | _, _, _, .str x, r => by
    obtain ⟨t, rfl⟩ := r
    exact ⟨_, .str x t, by simp⟩
  | _, _, _, .lst e ha, r => by
    cases r
    obtain ⟨its, rv, ⟨o, n, ho, hc, _, hd⟩, _⟩ := I.list (.of e)
    obtain ⟨as, hr, hn⟩ := DqAll.reads I hs ha rv
    refine ⟨_, .list ho hc hd hr, fun z => ?_⟩
    rcases List.mem_cons.mp z with z | z
    · exact notSys I hs e z.symm
    · exact hn z
  | _, _, _, .tup e ha, r => by
    cases r
    obtain ⟨its, rv, ⟨o, ho, hc, n, hd⟩, _⟩ := I.tuple e
    obtain ⟨as, hr, hn⟩ := DqAll.reads I hs ha rv
    exact ⟨_, .tuple ho hc hd hr, hn⟩
  | _, _, _, .dct (ks := ks) (ds := ds) e hl ha, r => by
    cases r
    obtain ⟨z, hd, vs, rel, o, es, ep, ho, ex, hdat, hk, hp, nd⟩ := dk_rd I.hok e
    obtain ⟨rv, ek⟩ := kv_vals hl rel
    obtain ⟨as, hr, hn⟩ := DqAll.reads I hs ha rv
    have len : ks.length = ds.length := hl.trans ha.length
    have k1 := keys_reads (h := s.heap) hp
    rw [ek] at k1
    have e1 : (((ks.map keyP).zip ds).map (·.1)) = ks.map keyP := List.map_fst_zip (by rw [List.length_map]; omega)
    have e2 : (((ks.map keyP).zip ds).map (·.2)) = ds := List.map_snd_zip (by rw [List.length_map]; omega)
    refine ⟨_, .dict ho ex.1 hdat (e1 ▸ k1) (by rw [e2, vals_of_pairs hp]; exact hr), fun y => ?_⟩
    rcases List.mem_append.mp y with y | y
    · rcases List.mem_cons.mp y with y | y
      · rw [← y] at hd
        simp at hd
      · cases y
    · exact hn y
theorem DqAll.reads (I : L2.Inv X pins σ H s) (hs : SysK X.K) : ∀ {vs : List V} {ds : List PyData} {us : List Value}, DqAll X.K H vs ds → Vals vs us → ∃ as, ReadsAll s.heap us ds as ∧ sysModules ∉ as
  | _, _, _, .nil, .nil => ⟨_, .nil, by simp⟩
  | _, _, _, .cons h1 h2, .cons r1 r2 => by
    obtain ⟨as, q1, n1⟩ := Dq.reads I hs h1 r1
    obtain ⟨bs, q2, n2⟩ := DqAll.reads I hs h2 r2
    exact ⟨_, .cons q1 q2, fun z => (List.mem_append.mp z).elim n1 n2⟩
end
end
section
variable {K : PySem.W.Frag} {ca : Cax} {F : Addr → Prop} {H : Hp}
theorem toQL_len : ∀ {xs : List D}, (toQL xs).length = xs.length
  | [] => rfl
  | x :: xs => by simp [toQL, toQL_len (xs := xs)]
mutual
theorem Rp.dq : ∀ {d : D} {v : V} {fr : List Addr}, Rp K ca F H v d fr → M.dq d = true → Dq K H v (toQ d)
  | .non, _, _, .non, _ => .non
  | .bl _, _, _, .bl b, _ => .bl b
  | .int _, _, _, .int i, _ => .int i
  | .str _, _, _, .str x, _ => .str x
  | .tup ds, _, _, .tup s r, h => .tup s.sq (RpL.dq r (by simpa [M.dq] using h))
  | .tpo ds, _, _, .tpo s r, h => .tup s.sq (RpL.dq r (by simpa [M.dq] using h))
  | .lst false ds, _, _, .lfz s f r, h => .lst s (RpL.dq r (by simpa [M.dq] using h))
  | .lst true ds, _, _, .low s f r, h => .lst s (RpL.dq r (by simpa [M.dq] using h))
  | .lso ds, _, _, .lso s f r, h => .lst s (RpL.dq r (by simpa [M.dq] using h))
  | .dct false ks ds, _, _, .dfz s f l r, h => .dct s l (RpL.dq r (by simp [M.dq] at h; exact h.2))
  | .dct true ks ds, _, _, .dow s f l r, h => .dct (.inl s) l (RpL.dq r (by simp [M.dq] at h; exact h.2))
theorem RpL.dq : ∀ {ds : List D} {vs : List V} {fr : List Addr}, RpL K ca F H vs ds fr → M.dqL ds = true → DqAll K H vs (toQL ds)
  | [], _, _, .nil, _ => .nil
  | _ :: _, _, _, .cons r t, h => by
    have h' := Bool.and_eq_true_iff.mp (show (M.dq _ && M.dqL _) = true from h)
    exact .cons (Rp.dq r h'.1) (RpL.dq t h'.2)
end
end
section
variable {G : Gc} {X : Cx} {F F' : Addr → Prop} {H H' : Hp} {σ σ' : L2.St} {ρ ρ' : Sl} {fp fp' fr : List Addr} {v : V} {r d : D} {e : Expr} {es : List Expr} {wa : WA} {pos : Pos}
theorem Rr.dq (ok : Ok G F H σ ρ fp) (h : Rr G F H σ v r fr) (e : pk ρ r = some d) (hd : M.dq d = true) : Dq G.K H v (toQ d) := by
  obtain ⟨_, rp, _⟩ := h.see ok e
  exact rp.dq hd
def rReprX (K : PySem.W.Frag) : List V → Hp → VK → Prop := fun vs H Q => ∃ v d, vs = [v] ∧ Dq K H v d ∧ d.showable = true ∧ d.depth ≤ 50 ∧ d.shown.length ≤ sizeLine ∧ Q (.str d.shown) H
theorem call_reprB {g : Around → Prop} (hg : X.A.guards = some []) (hun : X.A.units + 60 < cLine) (hs : SysK X.K) : CallR X (.builtin "repr") (rReprX X.K) := by
  intro pins s σ H xs us Q I rv h
  obtain ⟨v, d, rfl, hd, hsh, hdp, hz, q⟩ := h
  obtain ⟨u, rfl, ru⟩ := Vals.one rv
  have hu : X.A.units + (d.depth + 1) < cLine := by omega
  have byref : ∀ {a : Addr}, u = .ref a → wpAny (model X.prog X.w) X.A (call (.builtin "repr") [u]) (EP X pins σ Q) X.xe s := fun {a} e => by
    subst e
    obtain ⟨as, rd, hn⟩ := Dq.reads I hs hd ru
    exact repr_of_reads' rd hsh (fun _ => hn) hg hu (fun _ _ e => e) (fun h' u tk hk => ⟨.str d.shown, H, I.kept (t' := tk) hk, ⟨u, rfl⟩, q⟩) hz
  cases hd with
  | non =>
    have : u = .none := ru
    subst this
    exact PySem.P.repr_of_none ⟨.str (PyData.shown .none), H, I.tok _, ⟨_, rfl⟩, q⟩
  | bl b =>
    have : u = .bool b := ru
    subst this
    exact PySem.P.repr_of_bool ⟨.str (PyData.shown (.bool b)), H, I.tok _, ⟨s.toks, by simp [PyData.shown]⟩, q⟩
  | int i =>
    obtain ⟨t, rfl⟩ := ru
    exact PySem.P.repr_of_int (by simpa [PyData.showable] using hsh) ⟨.str (PyData.shown (.int i)), H, I.tok _, ⟨s.toks, by simp [PyData.shown]⟩, q⟩
  | str x =>
    obtain ⟨t, rfl⟩ := ru
    have hz' : (reprText x).length ≤ sizeLine := by simpa [PyData.shown] using hz
    exact PySem.P.repr_of_str ⟨.str (PyData.shown (.str x)), H, I.tok _, ⟨s.toks, by simp [PyData.shown]⟩, q⟩ hz'
  | lst _ _ => exact byref ru
  | tup _ _ => exact byref ru
  | dct _ _ _ => exact byref ru
def nReprX : ON := fun ρ rs K => ∃ r d, rs = [r] ∧ pk ρ r = some d ∧ M.dq d = true ∧ (toQ d).showable = true ∧ (toQ d).depth ≤ 50 ∧ (toQ d).shown.length ≤ sizeLine ∧ K (.str (toQ d).shown) ρ
theorem nReprX_ok : ONOk G (rReprX G.K) nReprX := fun F H σ ρ fp vs rs fr Kd Q ok rr nd h k => by
  obtain ⟨r, d, rfl, e, h1, h2, h3, h4, q⟩ := h
  obtain ⟨v, rfl, r1⟩ := rr.one
  exact ⟨v, toQ d, rfl, r1.dq ok e h1, h2, h3, h4, k _ H F ρ fp _ [] (En.stay ok) (.inl (.str _)) q⟩
theorem d_reprX {k : Nat} {p1 : Pos} (hy : SysK X.K) (hr : RoomG k X.A) (hK : X.K = G.K) (hg : Gl X "repr") (hm : X.mg "repr" = none) (ha : PA X (e :: es) (LA G wa)) (he : starEach (e :: es) X.env = (false, eval e X.env) :: starEach es X.env := by rfl) (hpl : (backTo pos (starEach es X.env)).any (·.1) = false := by rfl) :
    PE X (.Call (.Name "repr" p1) (e :: es) [] pos) (LE G (wCB nReprX wa)) := d_cb (call_reprB (g := fun _ => True) hr.gd (by have := hr.rm.un; omega) hy) (hK ▸ nReprX_ok) hg hm (by decide +kernel) ha (by decide) (by decide) he hpl
theorem d_reprXQ {k : Nat} {p1 : Pos} (hy : SysK X.K) (hr : RoomQ k X.A) (hK : X.K = G.K) (hg : Gl X "repr") (hm : X.mg "repr" = none) (ha : PA X (e :: es) (LA G wa)) (he : starEach (e :: es) X.env = (false, eval e X.env) :: starEach es X.env := by rfl) (hpl : (backTo pos (starEach es X.env)).any (·.1) = false := by rfl) :
    PE X (.Call (.Name "repr" p1) (e :: es) [] pos) (LE G (wCB nReprX wa)) := d_cb (call_reprB (g := fun _ => True) hr.gd (by have := hr.un; omega) hy) (hK ▸ nReprX_ok) hg hm (by decide +kernel) ha (by decide) (by decide) he hpl
end
end M
namespace L
open PySem PySem.Spec PyProof.Rows L2 M
/-- the own classes of errors -/
def An : XN := [("BadValue", ["BadValue"]),
  ("BadName", ["BadName"]),
  ("NoAnswer", ["NoAnswer"]),
  ("InvalidText", ["InvalidText", "BadValue"]),
  ("InvalidName", ["InvalidName", "BadValue"]),
  ("InvalidNumber", ["InvalidNumber", "BadValue"]),
  ("InvalidOrder", ["InvalidOrder", "BadValue"]),
  ("InvalidWho", ["InvalidWho", "BadValue"]),
  ("InvalidPlace", ["InvalidPlace", "BadValue"]),
  ("InvalidChange", ["InvalidChange", "BadValue"]),
  ("InvalidWish", ["InvalidWish", "BadValue"]),
  ("InvalidIndex", ["InvalidIndex", "BadValue"]),
  ("NotAPlan", ["NotAPlan", "BadValue"]),
  ("OtherKind", ["OtherKind", "BadValue"]),
  ("InvalidEntries", ["InvalidEntries", "BadValue"]),
  ("InvalidMatches", ["InvalidMatches", "BadValue"]),
  ("InvalidPlaces", ["InvalidPlaces", "BadValue"]),
  ("InvalidKnown", ["InvalidKnown", "BadValue"]),
  ("InvalidUpsets", ["InvalidUpsets", "BadValue"]),
  ("InvalidThrows", ["InvalidThrows", "BadValue"]),
  ("InvalidChanges", ["InvalidChanges", "BadValue"]),
  ("InvalidWishes", ["InvalidWishes", "BadValue"]),
  ("UnknownName", ["UnknownName", "BadName"]),
  ("InUse", ["InUse", "BadName"]),
  ("NothingToUndo", ["NothingToUndo", "NoAnswer"]),
  ("Broken", ["Broken", "NoAnswer"])]
def Bn : XT := [("BadValue", "ValueError"), ("BadName", "LookupError"), ("NoAnswer", "ArithmeticError"), ("InvalidText", "ValueError"), ("InvalidName", "ValueError"), ("InvalidNumber", "ValueError"), ("InvalidOrder", "ValueError"), ("InvalidWho", "ValueError"), ("InvalidPlace", "ValueError"), ("InvalidChange", "ValueError"), ("InvalidWish", "ValueError"), ("InvalidIndex", "ValueError"), ("NotAPlan", "ValueError"), ("OtherKind", "ValueError"), ("InvalidEntries", "ValueError"), ("InvalidMatches", "ValueError"), ("InvalidPlaces", "ValueError"), ("InvalidKnown", "ValueError"), ("InvalidUpsets", "ValueError"), ("InvalidThrows", "ValueError"), ("InvalidChanges", "ValueError"), ("InvalidWishes", "ValueError"), ("UnknownName", "LookupError"), ("InUse", "LookupError"), ("NothingToUndo", "ArithmeticError"), ("Broken", "ArithmeticError")]
local macro_rules
  | `(tactic| trivial) => `(tactic| with_reducible first
    | refine i_var rfl ?_
    | refine i_addI ?_ | refine i_sub ?_ | refine i_mod (by omega) ?_ | refine i_fdiv (by omega) ?_
    | refine i_mulL (by omega) ?_ | refine i_mulR (by omega) ?_
    | refine ite_t ?_ | refine ite_nT ?_ | refine ite_nF ?_ | refine ite_nn ?_ | refine ite_f ?_ | refine ite_dt (by first | assumption | omega | (simp only [List.length_map, List.length_append, List.length_cons, List.length_nil, List.length_take, List.length_drop] at *; omega)) ?_ | refine ite_df (by first | assumption | omega | (simp only [List.length_map, List.length_append, List.length_cons, List.length_nil, List.length_take, List.length_drop] at *; omega)) ?_ | refine ite_ct (by assumption) ?_ | refine ite_cf (by assumption) ?_ | refine ite_nct (by assumption) ?_ | refine ite_ncf (by assumption) ?_ | refine iteD (fun hc => ?_) (fun hc => ?_) | refine ite_nf (by first | exact rfl | assumption | omega | (simp only [List.length_map, List.length_append, List.length_cons, List.length_nil, List.length_take, List.length_drop] at *; omega)) ?_ | refine ite_nt (by first | assumption | omega | (simp only [List.length_map, List.length_append, List.length_cons, List.length_nil, List.length_take, List.length_drop] at *; omega)) ?_ | refine iteN (fun hc => ?_) (fun hc => ?_) | refine i_b ?_
    | refine i_lt ?_ | refine i_le ?_ | refine i_gt ?_ | refine i_ge ?_ | refine i_eqI ?_ | refine i_neI ?_ | refine i_eqS ?_ | refine i_neS ?_
    | refine i_ixL rfl rfl rfl ?_
    | refine i_int ?_ | refine i_abs ?_ | refine i_max ?_ | refine i_min ?_ | refine i_dm (by omega) ?_
    | refine i_lenL rfl rfl ?_ | refine i_lenSc ?_ | refine i_list rfl rfl ?_ | refine i_tuple rfl rfl ?_
    | refine i_setl rfl rfl rfl rfl ?_
    | refine i_truB ?_ | refine i_pln rfl ?_ | refine i_isSS ?_ | refine i_isTT ?_ | refine i_isII ?_ | refine i_isIB ?_ | refine i_isSI ?_ | refine i_lockE rfl ?_ | refine i_dk rfl ?_ | refine i_gattr rfl rfl rfl rfl rfl (by decide +kernel) ?_ | refine i_star rfl rfl ?_ | refine i_isin rfl ?_ | refine i_nn ?_ | refine i_made ?_ | refine i_spc ?_ | refine i_qlen (by omega) ?_ | refine i_qstr ?_ | refine i_qbl ?_ | refine i_js (by simp only [empty_app, app_len, len_gt]; omega) ?_ | refine i_fmt (by omega) ?_ | refine i_inC ?_ | refine i_inKS rfl ?_ | refine i_notInKS rfl ?_ | refine i_lenD rfl ?_ | refine i_notIn2 ?_ | refine i_in2 ?_ | refine i_allM rfl ?_ | refine i_anyM rfl ?_ | refine i_index rfl (by assumption) ?_ | refine i_tyL rfl ?_ | refine i_tyS ?_ | refine i_popM rfl (by first | omega | (simp only [List.length_map, List.length_append, List.length_cons, List.length_nil, List.length_take, List.length_drop] at *; omega)) (fun m hm hme hle => ?_) | refine i_popB rfl (by first | omega | (simp only [List.length_map, List.length_append, List.length_cons, List.length_nil, List.length_take, List.length_drop] at *; omega)) (fun m hm hme => ?_) | refine i_par rfl rfl ?_ | refine i_tpo rfl rfl ?_ | refine i_fzE rfl ?_ | refine i_fzE (fzR_P (by assumption)) ?_ | refine i_fz rfl ?_ | refine i_fz (fzR_P (by assumption)) ?_ | refine i_app rfl rfl (by first | omega | (simp only [List.length_map, List.length_append, List.length_cons, List.length_nil, List.length_take, List.length_drop] at *; omega)) ?_ | refine i_ow rfl ?_ | refine i_unp rfl ?_ | refine i_unpO rfl ?_ | refine i_gcons ?_ | refine i_gnil ?_
    | refine i_strB (by omega) ?_ | refine i_notInS rfl rfl ?_ | refine i_inS rfl rfl ?_ | refine i_notInI rfl rfl ?_ | refine i_inI rfl rfl ?_
    | refine i_addS (by first | decide | (simp only [len_plus, len_minus, len_gt, len_places, app_len]; omega)) ?_ | refine i_addL rfl rfl (by decide) ?_ | refine i_addL rfl rfl (by first | omega | (simp only [List.length_map, List.length_append, List.length_cons, List.length_nil, List.length_take, List.length_drop] at *; omega)) ?_
    | refine i_pow (by omega) ?_ | refine i_disp rfl rfl ?_ | refine i_slL rfl ?_ | refine i_slT ?_ | refine i_scr ?_ | refine i_opt ?_ | refine i_itL rfl rfl ?_ | refine i_itS ?_ | refine i_en rfl rfl ?_ | refine i_r1 (by first | omega | (simp only [List.length_map, List.length_append, List.length_cons, List.length_nil, List.length_take, List.length_drop] at *; omega)) ?_ | refine i_r2 (by first | omega | (simp only [List.length_map, List.length_append, List.length_cons, List.length_nil, List.length_take, List.length_drop] at *; omega)) ?_ | refine i_lc0 ?_ | refine i_dc0 ?_ | refine i_kfz rfl rfl ?_ | refine i_ixSc rfl ?_
    | refine i_ret rfl rfl ?_ | refine i_fzs rfl ?_)
local macro_rules
  | `(tactic| sizeOf_list_dec) => `(tactic| dsimp only [wIsE, wIsET, wXf, wMkE, wMkE0, rd_ex0, wClsP, wMakeL, rd_cls, wRevT, wDm, wMeth, wTm, wYes, wMakeP, makeP, wCallP, callP, wMethP, permL_nil, permL_cons, wProp, wIxI, wLockE, wiDk, wFld, wStar, wFmt, wFs, wJs, wDn, Bool.not_true, Bool.not_false, wChain, wAndV, wOrV, wNotV, wIsT, id, wNeg, wPar, wTpo, st2, st3, wFg, wFg0, puts, wip, rst, isOw, if_ff, if_tt, List.getElem?_cons_zero, List.getElem?_cons_succ, List.getElem?_nil, wSeq, wAsg, wOp, wC, wCB, wCons, wNil, wRet, wIfS, wB, wNext, wIf, wCall, wDrop, wTup, wLst, wM, wM0, wSl, wSlS, wP, wNoP, wiR1, wiR2, wiIt, wiEn, wTru, wAnd, wOr, wNot, wFor, rd_int, rd_str, rd_bl, rd_non, rd_tup, rd_lf, rd_lt, rd_df, rd_dt, rd_if, rd_it, rd_scr, startD, fz, List.map, List.length, List.replicate, List.append, List.set_cons_zero, List.set_cons_succ, Int.reduceToNat, List.cons_append, List.nil_append, Nat.reduceAdd, Nat.reduceSub, endD])

def Pot (d : D) : Prop := ∃ a b c : Int, d = .lst true [.int a, .int b, .int c]
def w__law_draw_r4 (Ex : DXs) : WS :=
  (wRet (wOp oMod (wCB nInt (wCons (wOp oFdiv (wOp oIxA (wVar 0) (wC (.int 0))) (wC (.int 97))) wNil)) (wVar 1)))
def w__law_draw (Ex : DXs) : WS :=
  (wSeq (wAsg (wOp oAdd (wOp oIxA (wVar 0) (wC (.int 2))) (wC (.int 1))) (gSetA (wVar 0) (wC (.int 2))))
  (wSeq (wAsg (wCB nInt (wCons (wOp oIxA (wVar 0) (wC (.int 0))) wNil)) (gFz 2))
  (wSeq (wAsg (wOp oMod (wCB nInt (wCons (wOp oAdd (wOp oAdd (wOp oMul (wVar 2) (wOp oAdd (wOp oMod (wCB nInt (wCons (wVar 2) wNil)) (wC (.int 30011))) (wC (.int 40009)))) (wOp oMul (wC (.int 92821)) (wOp oIxA (wVar 0) (wC (.int 2))))) (wC (.int 11))) wNil)) (wC (.int 2147483629))) (gSetA (wVar 0) (wC (.int 0))))
  (wSeq (wFg [3] (wIfS (wB (wOp oGt (wOp oIxA (wVar 0) (wC (.int 1))) (wC (.int 0)))) (wSeq (wAsg (wCB nDivmod (wCons (wOp oIxA (wVar 0) (wC (.int 1))) (wCons (wVar 1) wNil))) (gUnp 2 (wgCons (gSetA (wVar 0) (wC (.int 1))) (wgCons (gFz 3) wgNil))))
  (wRet (wVar 3))) wNext))
  (w__law_draw_r4 Ex)))))
def sp__law_draw : Spd := fun ds Q _ => ∃ p m, ds = [p, .int m] ∧ Pot p ∧ 0 < m ∧ m < 1073741824 ∧ ∀ r p', 0 ≤ r → r < m → Pot p' → Q (.int r) [p']
theorem hw__law_draw (ds : List D) (Qd : D → List D → Prop) (Ed : DX) (h : sp__law_draw ds Qd Ed) : w__law_draw (fun c fs xs _ => Ed c fs xs) (endD [0] Qd) (startD ["_law_pot_here", "_law_many", "_law_seed", "_law_digit"] ds) := by
  obtain ⟨p, m, rfl, ⟨a, b, c, rfl⟩, h1, h2, h⟩ := h
  unfold w__law_draw
  repeat' (first | trivial | dsimp only [w__law_draw_r4] | sizeOf_list_dec)
  all_goals exact h _ _ (Int.emod_nonneg _ (by omega)) (Int.emod_lt_of_pos _ h1) ⟨_, _, _, rfl⟩
def w__law_pot (Ex : DXs) : WS :=
  (wSeq (wAsg (wCB nAbs (wCons (wVar 0) wNil)) (gFz 1))
  (wRet (wLst (wCons (wOp oMod (wCB nInt (wCons (wOp oAdd (wOp oMul (wVar 0) (wC (.int 69997))) (wC (.int 40507))) wNil)) (wC (.int 2147483629))) (wCons (wIf (wB (wOp oGe (wVar 1) (wOp oPow (wC (.int 10)) (wC (.int 18))))) (wVar 1) (wC (.int 0))) (wCons (wC (.int 0)) wNil))))))
def sp__law_pot : Spd := fun ds Q _ => ∃ n, ds = [.int n] ∧ ∀ p, Pot p → Q p []
theorem hw__law_pot (ds : List D) (Qd : D → List D → Prop) (Ed : DX) (h : sp__law_pot ds Qd Ed) : w__law_pot (fun c fs xs _ => Ed c fs xs) (endD [] Qd) (startD ["_law_cell_here", "_law_great"] ds) := by
  obtain ⟨n, rfl, h⟩ := h
  unfold w__law_pot
  repeat' (first | trivial | sizeOf_list_dec)
  all_goals exact h _ ⟨_, _, _, rfl⟩
def w__law_cell_r3 (Ex : DXs) : WS :=
  (wRet (wVar 2))
def w__law_cell_r1 (Ex : DXs) : WS :=
  (wSeq (wAsg (wOp oAdd (wC (.int 40507)) (wOp oMul (wOp oMul (wC (.int 7919)) (wVar 1)) (wVar 1))) (gFz 2))
  (wSeq (wFg [3] (wFg0 [3] (wFor (wiIt (wSlS (wVar 0) wNoP (wP (wC (.int 3))))) (gFz 3)
  (wFg [3] (wAsg (wOp oMod (wCB nInt (wCons (wOp oAdd (wOp oMul (wVar 2) (wC (.int 69997))) (wVar 3)) wNil)) (wC (.int 2147483629))) (gFz 2))))))
  (w__law_cell_r3 Ex)))
def w__law_cell (Ex : DXs) : WS :=
  (wSeq (wIfS (wB (wOp oLt (wVar 1) (wCB nLenS (wCons (wVar 0) wNil)))) (wRet (wOp oIxS (wVar 0) (wVar 1))) wNext)
  (w__law_cell_r1 Ex))
def sp__law_cell : Spd := fun ds Q _ => ∃ ns k, ds = [.scr ns, .int k] ∧ 0 ≤ k ∧ k < 100 ∧ ∀ n, Q (.int n) []
theorem hw__law_cell (ds : List D) (Qd : D → List D → Prop) (Ed : DX) (h : sp__law_cell ds Qd Ed) : w__law_cell (fun c fs xs _ => Ed c fs xs) (endD [] Qd) (startD ["_law_cells", "_law_k", "_law_mixed", "_law_each"] ds) := by
  obtain ⟨ns, k, rfl, h0, h1, h⟩ := h
  unfold w__law_cell
  repeat' (first | trivial | dsimp only [w__law_cell_r3, w__law_cell_r1] | sizeOf_list_dec)
  · refine i_ixScB h0 (by omega) fun u _ => ?_
    repeat' (first | trivial | dsimp only [w__law_cell_r3, w__law_cell_r1] | sizeOf_list_dec)
    exact h _
  · refine ⟨fun i ρ => ∃ m : Int, ρ = [some (.scr ns : D), some (.int k : D), some (.int m : D), none], ⟨_, rfl⟩, fun i d ρ hd ⟨m, e⟩ => ?_, fun ρ ⟨m, e⟩ => ?_⟩
    · subst e
      obtain ⟨u, rfl⟩ : ∃ u, d = .int u := by
        have := List.mem_of_getElem? hd
        unfold cut at this
        obtain ⟨u, _, e⟩ := List.mem_map.mp (List.mem_of_mem_drop (List.mem_of_mem_take this))
        exact ⟨u, e.symm⟩
      repeat' (first | trivial | dsimp only [w__law_cell_r3, w__law_cell_r1] | sizeOf_list_dec)
      exact ⟨_, rfl⟩
    · subst e
      repeat' (first | trivial | sizeOf_list_dec)
      exact h _
theorem i_draw {a b c m : Int} {Q : D → List D → Prop} {E : DX} (h : 0 < m ∧ m < 1073741824) (q : ∀ r a b c, 0 ≤ r → r < m → Q (.int r) [.lst true [.int a, .int b, .int c]]) : sp__law_draw [.lst true [.int a, .int b, .int c], .int m] Q E :=
  ⟨_, m, rfl, ⟨_, _, _, rfl⟩, h.1, h.2, fun r p' h0 h1 ⟨a, b, c, e⟩ => e ▸ q r a b c h0 h1⟩
/-- a value of any kind, of this law: it can be passed and shown -/
structure Gt (d : D) : Prop where
  pl : Pl d
  dq : M.dq d = true
  lv : (toQ d).leavesShort 50 = true
  shw : (toQ d).showable = true
  dep : (toQ d).depth ≤ 50
  wei : (toQ d).weight ≤ 10000
theorem Gt.len {d : D} (h : Gt d) : (toQ d).shown.length ≤ sizeLine := by
  have h1 := PyData.shown_le 50 (by decide) (toQ d) h.lv
  have h2 : 52 * (toQ d).weight ≤ 52 * 10000 := Nat.mul_le_mul (Nat.le_refl _) h.wei
  have h3 : sizeLine = 16777216 := sizeLine_eq
  omega
theorem i_reprT {x d : D} {ρ : Sl} {K : D → Sl → Prop} (h1 : pk ρ x = some d) (g : Gt d) (q : K (.str (toQ d).shown) ρ) : nReprX ρ [x] K :=
  ⟨x, d, rfl, h1, g.dq, g.shw, g.dep, g.len, q⟩
theorem int_lv {i : Int} (h : i.natAbs < 10 ^ 40) : PyData.leavesShort 50 (.int i) = true := by
  have e := int_text_length_le10 (k := 40) (by decide) h
  simp only [PyData.leavesShort]
  refine decide_eq_true ?_
  show (Str.ofString (toString i)).length ≤ 50
  rw [PySem.ofString_length]; omega
theorem int_shw {i : Int} (h : i.natAbs < 10 ^ 40) : PyData.showable (.int i) = true := by
  simp only [PyData.showable]
  refine decide_eq_true ?_
  have h2 : i.natAbs < 2 ^ 1920 := Nat.lt_of_lt_of_le h (by decide +kernel)
  by_cases h0 : i.natAbs = 0
  · rw [h0]; decide
  · exact (Nat.log2_lt h0).mpr h2
theorem int_wei {i : Int} (h : i.natAbs < 10 ^ 40) : PyData.weight (.int i) ≤ 1921 := by
  simp only [PyData.weight]
  split
  · omega
  · have := int_shw h
    simp only [PyData.showable, decide_eq_true_eq] at this
    omega
/-- the values, of a number and a word -/
def thingL (n : Int) (w : Str) : List D := [.int n, .int (-n), .str w, .str (w ++ "+"), .tup [.str w, .int n], .tup [], .lst false [.int n, .str w], .lst false [], .dct false [.inr w] [.int n], .dct false [] [], .tup [.tup [.str w], .tup [.int n, .non]]] ++
  [.non, .bl true, .bl false, .int 0, .int 1, .str ""]
theorem gt_of {d : D} (h1 : Pl d) (h2 : M.dq d = true) (h3 : (toQ d).leavesShort 50 = true) (h4 : (toQ d).showable = true) (h5 : (toQ d).depth ≤ 50) (h6 : (toQ d).weight ≤ 10000) : Gt d := ⟨h1, h2, h3, h4, h5, h6⟩
theorem gt_thing {n : Int} {w : Str} (hn : n.natAbs < 10 ^ 40) (hw : ∃ c, w = ⟨#[c]⟩ ∧ c < 128) : ∀ d ∈ thingL n w, Gt d := by
  obtain ⟨c, rfl, hc⟩ := hw
  have hm : (-n).natAbs < 10 ^ 40 := by rw [Int.natAbs_neg]; exact hn
  have a1 := int_lv hn
  have a2 := int_lv hm
  have b1 := int_shw hn
  have b2 := int_shw hm
  have c1 := int_wei hn
  have c2 := int_wei hm
  have z1 : PyData.leavesShort 50 (.str ⟨#[c]⟩) = true := by
    simp [PyData.leavesShort]; omega
  have z2 : PyData.leavesShort 50 (.str ((⟨#[c]⟩ : Str) ++ "+")) = true := by
    simp only [PyData.leavesShort]
    show ((#[c] ++ #[43] : Array Nat).toList.all _) = true
    simp; omega
  have y1 : PyData.weight (.str ⟨#[c]⟩) = 1 := rfl
  have y2 : PyData.weight (.str ((⟨#[c]⟩ : Str) ++ "+")) = 2 := rfl
  intro d hd
  simp only [thingL, List.cons_append, List.nil_append, List.mem_cons, List.not_mem_nil, or_false] at hd
  rcases hd with rfl | rfl | rfl | rfl | rfl | rfl | rfl | rfl | rfl | rfl | rfl | rfl | rfl | rfl | rfl | rfl | rfl
  all_goals refine gt_of ⟨rfl, rfl, rfl⟩ ?_ ?_ ?_ ?_ ?_
  all_goals first
    | rfl
    | decide
    | assumption
    | (simp only [toQ, toQL, keyP, List.map, List.zip, List.zipWith, PyData.leavesShort, PyData.leavesShortAll, PyData.leavesShortKv, PyData.showable, PyData.showableAll, PyData.showableKv, PyData.depth, PyData.depthAll, PyData.depthKv, PyData.weight, PyData.weightAll, PyData.weightKv, M.dq, M.dqL] at *; first | omega | (simp_all <;> omega) | simp_all)
theorem ret_pl {ρ : Sl} {d : D} (h : Pl d) : ret ρ d = some (d, ρ) := by
  have h1 := h.sl
  cases d <;> first | (simp [isSl] at h1; done) | rfl
theorem sign_at (r : Int) (h0 : 0 ≤ r) (h1 : r < 31) : ∃ c, atI ("abcdefghijklmnopqrstuvwxyz +-/>" : Str).cps.toList r = some c ∧ c < 128 := by
  have : ∀ k : Fin 31, ∃ c, atI ("abcdefghijklmnopqrstuvwxyz +-/>" : Str).cps.toList ((k : Nat) : Int) = some c ∧ c < 128 := by decide +kernel
  obtain ⟨k, rfl⟩ := Int.eq_ofNat_of_zero_le h0
  exact this ⟨k, by omega⟩
local macro_rules
  | `(tactic| trivial) => `(tactic| with_reducible first
    | refine i_lc20 ?_ | refine i_rv0 ?_ | refine i_si0 ?_ | refine i_ls0 ?_ | refine i_sort2 rfl rfl (by assumption) (by assumption) ?_ | refine i_tm rfl ?_ | refine i_tindex rfl (by assumption) ?_ | refine i_revL rfl ?_ | refine i_remS rfl (by assumption) ?_ | refine i_lenSet rfl (by assumption) (by omega) ?_ | refine i_zip0 ?_ | refine i_zipT ?_ | refine i_lend rfl ?_ | refine i_lent (by with_unfolding_all first | rfl | exact nfz_lm) rfl (by with_unfolding_all repeat' (first | exact lok_0 | refine lok_i ?_ | refine lok_n ?_ | refine lok_s rfl ?_ | refine lok_z (by first | rfl | exact nfz_lm | exact nfz_tm) ?_)) ?_)

local macro_rules
  | `(tactic| trivial) => `(tactic| with_reducible first | refine i_call rfl rfl rfl ?_ | refine i_callB (by decide) rfl rfl rfl rfl ?_ | refine i_draw (by first | omega | (simp only [List.length_map, List.length_append, List.length_cons, List.length_nil] at *; omega)) (fun r a b c hr0 hr1 => ?_))
def w__law_thing (sp__law_draw : Spd) (Ex : DXs) : WS :=
  (wSeq (wAsg (wOp oAdd (wOp oIxA (wLst (wCons (wC (.int 0)) (wCons (wC (.int 1)) (wCons (wC (.int 7)) (wCons (wOp oPow (wC (.int 10)) (wC (.int 9))) (wCons (wOp oPow (wC (.int 10)) (wC (.int 30))) (wCons (wOp oPow (wC (.int 10)) (wC (.int 39))) wNil))))))) (wCall [0] [] 2 sp__law_draw [] exF (wCons (wVar 0) (wCons (wC (.int 6)) wNil)))) (wCall [0] [] 2 sp__law_draw [] exF (wCons (wVar 0) (wCons (wC (.int 1000)) wNil)))) (gFz 1))
  (wSeq (wAsg (wOp oIxA (wC (.str "abcdefghijklmnopqrstuvwxyz +-/>")) (wCall [0] [] 2 sp__law_draw [] exF (wCons (wVar 0) (wCons (wC (.int 31)) wNil)))) (gFz 2))
  (wSeq (wAsg (wLst (wCons (wVar 1) (wCons (wNeg (wVar 1)) (wCons (wVar 2) (wCons (wOp oAdd (wVar 2) (wC (.str "+"))) (wCons (wTup (wCons (wVar 2) (wCons (wVar 1) wNil))) (wCons (wTup wNil) (wCons (wLst (wCons (wVar 1) (wCons (wVar 2) wNil))) (wCons (wLst wNil) (wCons (wDisp [((wVar 2), (wVar 1))]) (wCons wDn (wCons (wTup (wCons (wTup (wCons (wVar 2) wNil)) (wCons (wTup (wCons (wVar 1) (wCons (wC .non) wNil))) wNil))) wNil)))))))))))) (gFz 3))
  (wRet (wOp oIxA (wOp oAdd (wVar 3) (wLst (wCons (wC .non) (wCons (wC (.bl true)) (wCons (wC (.bl false)) (wCons (wC (.int 0)) (wCons (wC (.int 1)) (wCons (wC (.str "")) wNil)))))))) (wCall [0] [] 2 sp__law_draw [] exF (wCons (wVar 0) (wCons (wC (.int 17)) wNil))))))))
def sp__law_thing : Spd := fun ds Q _ => ∃ p, ds = [p] ∧ Pot p ∧ ∀ v p', Gt v → Pot p' → Q v [p']
theorem hw__law_thing (ds : List D) (Qd : D → List D → Prop) (Ed : DX) (h : sp__law_thing ds Qd Ed) : w__law_thing sp__law_draw (fun c fs xs _ => Ed c fs xs) (endD [0] Qd) (startD ["_law_pot_here", "_law_far", "_law_word", "_law_odd"] ds) := by
  obtain ⟨p, rfl, ⟨a, b, c, rfl⟩, h⟩ := h
  unfold w__law_thing
  repeat' (first | trivial | sizeOf_list_dec)
  rename_i r0 a0 b0 c0 h00 h01
  refine i_ixM (f := D.int) (l := [0, 1, 7, 10 ^ 9, 10 ^ 30, 10 ^ 39]) rfl rfl ⟨h00, h01⟩ fun k hk e => ?_
  have hs : ∀ k (hk : k < ([0, 1, 7, 10 ^ 9, 10 ^ 30, 10 ^ 39] : List Int).length), 0 ≤ ([0, 1, 7, 10 ^ 9, 10 ^ 30, 10 ^ 39] : List Int)[k] ∧ ([0, 1, 7, 10 ^ 9, 10 ^ 30, 10 ^ 39] : List Int)[k] ≤ 10 ^ 39 := by decide +kernel
  have hb := hs k hk
  generalize ([0, 1, 7, 10 ^ 9, 10 ^ 30, 10 ^ 39] : List Int)[k] = far at hb
  repeat' (first | trivial | sizeOf_list_dec)
  rename_i r1 a1 b1 c1 h10 h11 r2 a2 b2 c2 h20 h21
  obtain ⟨ch, ech, hch⟩ := sign_at r2 h20 h21
  refine i_ixS (by decide +kernel) ech ?_
  have hn : (far + r1).natAbs < 10 ^ 40 := by omega
  generalize far + r1 = n at hn
  repeat' (first | trivial | sizeOf_list_dec)
  refine i_addS (show 1 + 1 ≤ 16000000 by decide) ?_
  repeat' (first | trivial | sizeOf_list_dec)
  refine ⟨_, rfl, _, rfl, .inr ⟨#[ch]⟩, .int n, _, rfl, rfl, (show 1 ≤ 15 by decide), ?_⟩
  rw [show mrgD (([] : List Key), ([] : List D)) [((Sum.inr (⟨#[ch]⟩ : Str) : Key), D.int n)] = (([(Sum.inr (⟨#[ch]⟩ : Str) : Key)], [D.int n]) : List Key × List D) from by
    show (putKs [] (Sum.inr (⟨#[ch]⟩ : Str)), putXs ([] : List Key) [] (Sum.inr (⟨#[ch]⟩ : Str)) (D.int n)) = _
    unfold putKs putXs hasK
    simp]
  repeat' (first | trivial | sizeOf_list_dec)
  rename_i r3 a3 b3 c3 h30 h31
  refine i_ixB (ds := thingL n ⟨#[ch]⟩) rfl rfl h30 h31 fun k hk e => ?_
  have hm := List.getElem_mem hk
  generalize (thingL n ⟨#[ch]⟩)[k] = v at hm
  have hg := gt_thing hn ⟨ch, rfl, hch⟩ v hm
  refine i_ret (ret_pl hg.pl) rfl ?_
  exact h _ _ hg ⟨_, _, _, rfl⟩
end L
namespace L
open PySem PySem.Spec PyProof.Rows L2 M
local macro_rules
  | `(tactic| trivial) => `(tactic| with_reducible first
    | refine i_var rfl ?_
    | refine i_addI ?_ | refine i_sub ?_ | refine i_mod (by omega) ?_ | refine i_fdiv (by omega) ?_
    | refine i_mulL (by omega) ?_ | refine i_mulR (by omega) ?_
    | refine ite_t ?_ | refine ite_nT ?_ | refine ite_nF ?_ | refine ite_nn ?_ | refine ite_f ?_ | refine ite_dt (by first | assumption | omega | (simp only [List.length_map, List.length_append, List.length_cons, List.length_nil, List.length_take, List.length_drop] at *; omega)) ?_ | refine ite_df (by first | assumption | omega | (simp only [List.length_map, List.length_append, List.length_cons, List.length_nil, List.length_take, List.length_drop] at *; omega)) ?_ | refine ite_ct (by assumption) ?_ | refine ite_cf (by assumption) ?_ | refine ite_nct (by assumption) ?_ | refine ite_ncf (by assumption) ?_ | refine iteD (fun hc => ?_) (fun hc => ?_) | refine ite_nf (by first | exact rfl | assumption | omega | (simp only [List.length_map, List.length_append, List.length_cons, List.length_nil, List.length_take, List.length_drop] at *; omega)) ?_ | refine ite_nt (by first | assumption | omega | (simp only [List.length_map, List.length_append, List.length_cons, List.length_nil, List.length_take, List.length_drop] at *; omega)) ?_ | refine iteN (fun hc => ?_) (fun hc => ?_) | refine i_b ?_
    | refine i_lt ?_ | refine i_le ?_ | refine i_gt ?_ | refine i_ge ?_ | refine i_eqI ?_ | refine i_neI ?_ | refine i_eqS ?_ | refine i_neS ?_
    | refine i_ixL rfl rfl rfl ?_
    | refine i_int ?_ | refine i_abs ?_ | refine i_max ?_ | refine i_min ?_ | refine i_dm (by omega) ?_
    | refine i_lenL rfl rfl ?_ | refine i_lenSc ?_ | refine i_list rfl rfl ?_ | refine i_tuple rfl rfl ?_
    | refine i_setl rfl rfl rfl rfl ?_
    | refine i_truB ?_ | refine i_pln rfl ?_ | refine i_isSS ?_ | refine i_isTT ?_ | refine i_isII ?_ | refine i_isIB ?_ | refine i_isSI ?_ | refine i_lockE rfl ?_ | refine i_dk rfl ?_ | refine i_gattr rfl rfl rfl rfl rfl (by decide +kernel) ?_ | refine i_star rfl rfl ?_ | refine i_isin rfl ?_ | refine i_nn ?_ | refine i_made ?_ | refine i_spc ?_ | refine i_qlen (by omega) ?_ | refine i_qstr ?_ | refine i_qbl ?_ | refine i_js (by simp only [empty_app, app_len, len_gt]; omega) ?_ | refine i_fmt (by omega) ?_ | refine i_inC ?_ | refine i_inKS rfl ?_ | refine i_notInKS rfl ?_ | refine i_lenD rfl ?_ | refine i_notIn2 ?_ | refine i_in2 ?_ | refine i_allM rfl ?_ | refine i_anyM rfl ?_ | refine i_index rfl (by assumption) ?_ | refine i_tyL rfl ?_ | refine i_tyS ?_ | refine i_popM rfl (by first | omega | (simp only [List.length_map, List.length_append, List.length_cons, List.length_nil, List.length_take, List.length_drop] at *; omega)) (fun m hm hme hle => ?_) | refine i_popB rfl (by first | omega | (simp only [List.length_map, List.length_append, List.length_cons, List.length_nil, List.length_take, List.length_drop] at *; omega)) (fun m hm hme => ?_) | refine i_par rfl rfl ?_ | refine i_tpo rfl rfl ?_ | refine i_fzE rfl ?_ | refine i_fzE (fzR_P (by assumption)) ?_ | refine i_fz rfl ?_ | refine i_fz (fzR_P (by assumption)) ?_ | refine i_app rfl rfl (by first | omega | (simp only [List.length_map, List.length_append, List.length_cons, List.length_nil, List.length_take, List.length_drop] at *; omega)) ?_ | refine i_ow rfl ?_ | refine i_unp rfl ?_ | refine i_unpO rfl ?_ | refine i_gcons ?_ | refine i_gnil ?_
    | refine i_strB (by omega) ?_ | refine i_notInS rfl rfl ?_ | refine i_inS rfl rfl ?_ | refine i_notInI rfl rfl ?_ | refine i_inI rfl rfl ?_
    | refine i_addS (by first | decide | (simp only [len_plus, len_minus, len_gt, len_places, app_len]; omega)) ?_ | refine i_addL rfl rfl (by decide) ?_ | refine i_addL rfl rfl (by first | omega | (simp only [List.length_map, List.length_append, List.length_cons, List.length_nil, List.length_take, List.length_drop] at *; omega)) ?_
    | refine i_pow (by omega) ?_ | refine i_disp rfl rfl ?_ | refine i_slL rfl ?_ | refine i_slT ?_ | refine i_scr ?_ | refine i_opt ?_ | refine i_itL rfl rfl ?_ | refine i_itS ?_ | refine i_en rfl rfl ?_ | refine i_r1 (by first | omega | (simp only [List.length_map, List.length_append, List.length_cons, List.length_nil, List.length_take, List.length_drop] at *; omega)) ?_ | refine i_r2 (by first | omega | (simp only [List.length_map, List.length_append, List.length_cons, List.length_nil, List.length_take, List.length_drop] at *; omega)) ?_ | refine i_lc0 ?_ | refine i_dc0 ?_ | refine i_kfz rfl rfl ?_ | refine i_ixSc rfl ?_
    | refine i_ret rfl rfl ?_ | refine i_fzs rfl ?_)
local macro_rules
  | `(tactic| sizeOf_list_dec) => `(tactic| dsimp only [wIsE, wIsET, wXf, wMkE, wMkE0, rd_ex0, wClsP, wMakeL, rd_cls, wRevT, wDm, wMeth, wTm, wYes, wMakeP, makeP, wCallP, callP, wMethP, permL_nil, permL_cons, wProp, wIxI, wLockE, wiDk, wFld, wStar, wFmt, wFs, wJs, wDn, Bool.not_true, Bool.not_false, wChain, wAndV, wOrV, wNotV, wIsT, id, wNeg, wPar, wTpo, st2, st3, wFg, wFg0, puts, wip, rst, isOw, if_ff, if_tt, List.getElem?_cons_zero, List.getElem?_cons_succ, List.getElem?_nil, wSeq, wAsg, wOp, wC, wCB, wCons, wNil, wRet, wIfS, wB, wNext, wIf, wCall, wDrop, wTup, wLst, wM, wM0, wSl, wSlS, wP, wNoP, wiR1, wiR2, wiIt, wiEn, wTru, wAnd, wOr, wNot, wFor, rd_int, rd_str, rd_bl, rd_non, rd_tup, rd_lf, rd_lt, rd_df, rd_dt, rd_if, rd_it, rd_scr, startD, fz, List.map, List.length, List.replicate, List.append, List.set_cons_zero, List.set_cons_succ, Int.reduceToNat, List.cons_append, List.nil_append, Nat.reduceAdd, Nat.reduceSub, endD])

local macro_rules
  | `(tactic| trivial) => `(tactic| with_reducible first
    | refine i_lc20 ?_ | refine i_rv0 ?_ | refine i_si0 ?_ | refine i_ls0 ?_ | refine i_sort2 rfl rfl (by assumption) (by assumption) ?_ | refine i_tm rfl ?_ | refine i_tindex rfl (by assumption) ?_ | refine i_revL rfl ?_ | refine i_remS rfl (by assumption) ?_ | refine i_lenSet rfl (by assumption) (by omega) ?_ | refine i_zip0 ?_ | refine i_zipT ?_ | refine i_lend rfl ?_ | refine i_lent (by with_unfolding_all first | rfl | exact nfz_lm) rfl (by with_unfolding_all repeat' (first | exact lok_0 | refine lok_i ?_ | refine lok_n ?_ | refine lok_s rfl ?_ | refine lok_z (by first | rfl | exact nfz_lm | exact nfz_tm) ?_)) ?_)

/-- the classes with their numbers -/
def exN : List Str := ["InvalidText", "InvalidName", "InvalidNumber", "InvalidOrder", "InvalidWho", "InvalidPlace", "InvalidChange", "InvalidWish", "InvalidIndex", "NotAPlan", "OtherKind", "UnknownName", "InvalidEntries", "InvalidMatches", "InvalidPlaces", "InvalidKnown", "InvalidUpsets", "InvalidThrows", "InvalidChanges", "InvalidWishes", "InUse", "Broken", "NothingToUndo"]
def exC (k : Int) : Str := exN.getD k.toNat ""
theorem i_mkE {x d : D} {ρ ρ' : Sl} {P : D → Sl → Prop} (h : fzR ρ x = some (d, ρ')) (q : P d ρ') : ∃ d ρ2, fzR ρ x = some (d, ρ2) ∧ P d ρ2 := ⟨d, ρ', h, q⟩
theorem i_isE {ρ : Sl} {x : D} {c c0 : Str} {fs : List Str} {xs : List D} {P : Bool → Prop} {b : Bool} (h1 : pk ρ x = some (.exc c0 fs xs)) (h2 : caughtB An [c] c0 = some b) (q : P b) : ∃ c0 fs xs b, pk ρ x = some (.exc c0 fs xs) ∧ caughtB An [c] c0 = some b ∧ P b := ⟨c0, fs, xs, b, h1, h2, q⟩
theorem i_isET {ρ : Sl} {x : D} {T : String} {c0 : Str} {fs : List Str} {xs : List D} {P : Bool → Prop} {b : Bool} (h1 : pk ρ x = some (.exc c0 fs xs)) (h2 : sideB An Bn T c0 = some b) (q : P b) : ∃ c0 fs xs b, pk ρ x = some (.exc c0 fs xs) ∧ sideB An Bn T c0 = some b ∧ P b := ⟨c0, fs, xs, b, h1, h2, q⟩
theorem i_xf {ρ : Sl} {x d : D} {c f : Str} {fs : List Str} {xs : List D} {P : D → Prop} (h1 : pk ρ x = some (.exc c fs xs)) (h2 : (An.lookup c).isSome = true) (h3 : getX f fs xs = some d) (q : P d) : ∃ c fs xs d, pk ρ x = some (.exc c fs xs) ∧ (An.lookup c).isSome = true ∧ getX f fs xs = some d ∧ P d := ⟨c, fs, xs, d, h1, h2, h3, q⟩
def w__law_with_given_r11 (Ex : DXs) : WS :=
  (wRet (wIf (wTru (wVar 2)) (wMkE "UnknownName" "given" (wVar 1)) (wMkE "UnknownName" "given" (wVar 1))))
def w__law_with_given_r10 (Ex : DXs) : WS :=
  (wSeq (wIfS (wB (wOp oEq (wVar 0) (wC (.int 10)))) (wRet (wIf (wTru (wVar 2)) (wMkE "OtherKind" "given" (wVar 1)) (wMkE "OtherKind" "given" (wVar 1)))) wNext)
  (w__law_with_given_r11 Ex))
def w__law_with_given_r9 (Ex : DXs) : WS :=
  (wSeq (wIfS (wB (wOp oEq (wVar 0) (wC (.int 9)))) (wRet (wIf (wTru (wVar 2)) (wMkE "NotAPlan" "given" (wVar 1)) (wMkE "NotAPlan" "given" (wVar 1)))) wNext)
  (w__law_with_given_r10 Ex))
def w__law_with_given_r8 (Ex : DXs) : WS :=
  (wSeq (wIfS (wB (wOp oEq (wVar 0) (wC (.int 8)))) (wRet (wIf (wTru (wVar 2)) (wMkE "InvalidIndex" "given" (wVar 1)) (wMkE "InvalidIndex" "given" (wVar 1)))) wNext)
  (w__law_with_given_r9 Ex))
def w__law_with_given_r7 (Ex : DXs) : WS :=
  (wSeq (wIfS (wB (wOp oEq (wVar 0) (wC (.int 7)))) (wRet (wIf (wTru (wVar 2)) (wMkE "InvalidWish" "given" (wVar 1)) (wMkE "InvalidWish" "given" (wVar 1)))) wNext)
  (w__law_with_given_r8 Ex))
def w__law_with_given_r6 (Ex : DXs) : WS :=
  (wSeq (wIfS (wB (wOp oEq (wVar 0) (wC (.int 6)))) (wRet (wIf (wTru (wVar 2)) (wMkE "InvalidChange" "given" (wVar 1)) (wMkE "InvalidChange" "given" (wVar 1)))) wNext)
  (w__law_with_given_r7 Ex))
def w__law_with_given_r5 (Ex : DXs) : WS :=
  (wSeq (wIfS (wB (wOp oEq (wVar 0) (wC (.int 5)))) (wRet (wIf (wTru (wVar 2)) (wMkE "InvalidPlace" "given" (wVar 1)) (wMkE "InvalidPlace" "given" (wVar 1)))) wNext)
  (w__law_with_given_r6 Ex))
def w__law_with_given_r4 (Ex : DXs) : WS :=
  (wSeq (wIfS (wB (wOp oEq (wVar 0) (wC (.int 4)))) (wRet (wIf (wTru (wVar 2)) (wMkE "InvalidWho" "given" (wVar 1)) (wMkE "InvalidWho" "given" (wVar 1)))) wNext)
  (w__law_with_given_r5 Ex))
def w__law_with_given_r3 (Ex : DXs) : WS :=
  (wSeq (wIfS (wB (wOp oEq (wVar 0) (wC (.int 3)))) (wRet (wIf (wTru (wVar 2)) (wMkE "InvalidOrder" "given" (wVar 1)) (wMkE "InvalidOrder" "given" (wVar 1)))) wNext)
  (w__law_with_given_r4 Ex))
def w__law_with_given_r2 (Ex : DXs) : WS :=
  (wSeq (wIfS (wB (wOp oEq (wVar 0) (wC (.int 2)))) (wRet (wIf (wTru (wVar 2)) (wMkE "InvalidNumber" "given" (wVar 1)) (wMkE "InvalidNumber" "given" (wVar 1)))) wNext)
  (w__law_with_given_r3 Ex))
def w__law_with_given_r1 (Ex : DXs) : WS :=
  (wSeq (wIfS (wB (wOp oEq (wVar 0) (wC (.int 1)))) (wRet (wIf (wTru (wVar 2)) (wMkE "InvalidName" "given" (wVar 1)) (wMkE "InvalidName" "given" (wVar 1)))) wNext)
  (w__law_with_given_r2 Ex))
def w__law_with_given (Ex : DXs) : WS :=
  (wSeq (wIfS (wB (wOp oEq (wVar 0) (wC (.int 0)))) (wRet (wIf (wTru (wVar 2)) (wMkE "InvalidText" "given" (wVar 1)) (wMkE "InvalidText" "given" (wVar 1)))) wNext)
  (w__law_with_given_r1 Ex))
def sp__law_with_given : Spd := fun ds Q _ => ∃ (k : Int) (d : D) (b : Bool), ds = [.int k, d, .bl b] ∧ Pl d ∧ 0 ≤ k ∧ k < 12 ∧ Q (.exc (exC k) ["given"] [d]) []
theorem hw__law_with_given (ds : List D) (Qd : D → List D → Prop) (Ed : DX) (h : sp__law_with_given ds Qd Ed) : w__law_with_given (fun c fs xs _ => Ed c fs xs) (endD [] Qd) (startD ["_law_k", "_law_thing_here", "_law_by_name"] ds) := by
  obtain ⟨k, d, b, rfl, hp, h0, h1, h⟩ := h
  have hz : ∀ ρ : Sl, fzR ρ d = some (d, ρ) := fun ρ => fzR_P hp
  unfold w__law_with_given
  repeat' (first | trivial | dsimp only [w__law_with_given_r11, w__law_with_given_r10, w__law_with_given_r9, w__law_with_given_r8, w__law_with_given_r7, w__law_with_given_r6, w__law_with_given_r5, w__law_with_given_r4, w__law_with_given_r3, w__law_with_given_r2, w__law_with_given_r1] | sizeOf_list_dec)
  all_goals
    rw [ite_self]
    refine i_var rfl ?_
    rw [rd_pl hp]
    refine i_mkE (hz _) ?_
    refine i_ret rfl rfl ?_
    first | (have e : k = 0 := (by omega); subst e; exact h) | (have e : k = 1 := (by omega); subst e; exact h) | (have e : k = 2 := (by omega); subst e; exact h) | (have e : k = 3 := (by omega); subst e; exact h) | (have e : k = 4 := (by omega); subst e; exact h) | (have e : k = 5 := (by omega); subst e; exact h) | (have e : k = 6 := (by omega); subst e; exact h) | (have e : k = 7 := (by omega); subst e; exact h) | (have e : k = 8 := (by omega); subst e; exact h) | (have e : k = 9 := (by omega); subst e; exact h) | (have e : k = 10 := (by omega); subst e; exact h) | (have e : k = 11 := (by omega); subst e; exact h)
def w__law_with_index_r9 (Ex : DXs) : WS :=
  (wRet (wIf (wTru (wVar 2)) (wMkE "Broken" "index" (wVar 1)) (wMkE "Broken" "index" (wVar 1))))
def w__law_with_index_r8 (Ex : DXs) : WS :=
  (wSeq (wIfS (wB (wOp oEq (wVar 0) (wC (.int 20)))) (wRet (wIf (wTru (wVar 2)) (wMkE "InUse" "index" (wVar 1)) (wMkE "InUse" "index" (wVar 1)))) wNext)
  (w__law_with_index_r9 Ex))
def w__law_with_index_r7 (Ex : DXs) : WS :=
  (wSeq (wIfS (wB (wOp oEq (wVar 0) (wC (.int 19)))) (wRet (wIf (wTru (wVar 2)) (wMkE "InvalidWishes" "index" (wVar 1)) (wMkE "InvalidWishes" "index" (wVar 1)))) wNext)
  (w__law_with_index_r8 Ex))
def w__law_with_index_r6 (Ex : DXs) : WS :=
  (wSeq (wIfS (wB (wOp oEq (wVar 0) (wC (.int 18)))) (wRet (wIf (wTru (wVar 2)) (wMkE "InvalidChanges" "index" (wVar 1)) (wMkE "InvalidChanges" "index" (wVar 1)))) wNext)
  (w__law_with_index_r7 Ex))
def w__law_with_index_r5 (Ex : DXs) : WS :=
  (wSeq (wIfS (wB (wOp oEq (wVar 0) (wC (.int 17)))) (wRet (wIf (wTru (wVar 2)) (wMkE "InvalidThrows" "index" (wVar 1)) (wMkE "InvalidThrows" "index" (wVar 1)))) wNext)
  (w__law_with_index_r6 Ex))
def w__law_with_index_r4 (Ex : DXs) : WS :=
  (wSeq (wIfS (wB (wOp oEq (wVar 0) (wC (.int 16)))) (wRet (wIf (wTru (wVar 2)) (wMkE "InvalidUpsets" "index" (wVar 1)) (wMkE "InvalidUpsets" "index" (wVar 1)))) wNext)
  (w__law_with_index_r5 Ex))
def w__law_with_index_r3 (Ex : DXs) : WS :=
  (wSeq (wIfS (wB (wOp oEq (wVar 0) (wC (.int 15)))) (wRet (wIf (wTru (wVar 2)) (wMkE "InvalidKnown" "index" (wVar 1)) (wMkE "InvalidKnown" "index" (wVar 1)))) wNext)
  (w__law_with_index_r4 Ex))
def w__law_with_index_r2 (Ex : DXs) : WS :=
  (wSeq (wIfS (wB (wOp oEq (wVar 0) (wC (.int 14)))) (wRet (wIf (wTru (wVar 2)) (wMkE "InvalidPlaces" "index" (wVar 1)) (wMkE "InvalidPlaces" "index" (wVar 1)))) wNext)
  (w__law_with_index_r3 Ex))
def w__law_with_index_r1 (Ex : DXs) : WS :=
  (wSeq (wIfS (wB (wOp oEq (wVar 0) (wC (.int 13)))) (wRet (wIf (wTru (wVar 2)) (wMkE "InvalidMatches" "index" (wVar 1)) (wMkE "InvalidMatches" "index" (wVar 1)))) wNext)
  (w__law_with_index_r2 Ex))
def w__law_with_index (Ex : DXs) : WS :=
  (wSeq (wIfS (wB (wOp oEq (wVar 0) (wC (.int 12)))) (wRet (wIf (wTru (wVar 2)) (wMkE "InvalidEntries" "index" (wVar 1)) (wMkE "InvalidEntries" "index" (wVar 1)))) wNext)
  (w__law_with_index_r1 Ex))
def sp__law_with_index : Spd := fun ds Q _ => ∃ (k : Int) (d : D) (b : Bool), ds = [.int k, d, .bl b] ∧ Pl d ∧ 12 ≤ k ∧ k < 22 ∧ Q (.exc (exC k) ["index"] [d]) []
theorem hw__law_with_index (ds : List D) (Qd : D → List D → Prop) (Ed : DX) (h : sp__law_with_index ds Qd Ed) : w__law_with_index (fun c fs xs _ => Ed c fs xs) (endD [] Qd) (startD ["_law_k", "_law_thing_here", "_law_by_name"] ds) := by
  obtain ⟨k, d, b, rfl, hp, h0, h1, h⟩ := h
  have hz : ∀ ρ : Sl, fzR ρ d = some (d, ρ) := fun ρ => fzR_P hp
  unfold w__law_with_index
  repeat' (first | trivial | dsimp only [w__law_with_index_r9, w__law_with_index_r8, w__law_with_index_r7, w__law_with_index_r6, w__law_with_index_r5, w__law_with_index_r4, w__law_with_index_r3, w__law_with_index_r2, w__law_with_index_r1] | sizeOf_list_dec)
  all_goals
    rw [ite_self]
    refine i_var rfl ?_
    rw [rd_pl hp]
    refine i_mkE (hz _) ?_
    refine i_ret rfl rfl ?_
    first | (have e : k = 12 := (by omega); subst e; exact h) | (have e : k = 13 := (by omega); subst e; exact h) | (have e : k = 14 := (by omega); subst e; exact h) | (have e : k = 15 := (by omega); subst e; exact h) | (have e : k = 16 := (by omega); subst e; exact h) | (have e : k = 17 := (by omega); subst e; exact h) | (have e : k = 18 := (by omega); subst e; exact h) | (have e : k = 19 := (by omega); subst e; exact h) | (have e : k = 20 := (by omega); subst e; exact h) | (have e : k = 21 := (by omega); subst e; exact h)
def w__law_sorts (Ex : DXs) : WS :=
  (wSeq (wAsg (wLst (wCons (wIsE An "InvalidText" (wVar 0)) (wCons (wIsE An "InvalidName" (wVar 0)) (wCons (wIsE An "InvalidNumber" (wVar 0)) wNil)))) (gFz 1))
  (wSeq (wAsg (wOp oAdd (wVar 1) (wLst (wCons (wIsE An "InvalidOrder" (wVar 0)) (wCons (wIsE An "InvalidWho" (wVar 0)) (wCons (wIsE An "InvalidPlace" (wVar 0)) wNil))))) (gFz 1))
  (wSeq (wAsg (wOp oAdd (wVar 1) (wLst (wCons (wIsE An "InvalidChange" (wVar 0)) (wCons (wIsE An "InvalidWish" (wVar 0)) (wCons (wIsE An "InvalidIndex" (wVar 0)) wNil))))) (gFz 1))
  (wSeq (wAsg (wOp oAdd (wVar 1) (wLst (wCons (wIsE An "NotAPlan" (wVar 0)) (wCons (wIsE An "OtherKind" (wVar 0)) (wCons (wIsE An "UnknownName" (wVar 0)) wNil))))) (gFz 1))
  (wSeq (wAsg (wOp oAdd (wVar 1) (wLst (wCons (wIsE An "InvalidEntries" (wVar 0)) (wCons (wIsE An "InvalidMatches" (wVar 0)) (wCons (wIsE An "InvalidPlaces" (wVar 0)) wNil))))) (gFz 1))
  (wSeq (wAsg (wOp oAdd (wVar 1) (wLst (wCons (wIsE An "InvalidKnown" (wVar 0)) (wCons (wIsE An "InvalidUpsets" (wVar 0)) (wCons (wIsE An "InvalidThrows" (wVar 0)) wNil))))) (gFz 1))
  (wSeq (wAsg (wOp oAdd (wVar 1) (wLst (wCons (wIsE An "InvalidChanges" (wVar 0)) (wCons (wIsE An "InvalidWishes" (wVar 0)) (wCons (wIsE An "InUse" (wVar 0)) wNil))))) (gFz 1))
  (wRet (wOp oAdd (wVar 1) (wLst (wCons (wIsE An "Broken" (wVar 0)) (wCons (wIsE An "NothingToUndo" (wVar 0)) wNil))))))))))))
def sp__law_sorts : Spd := fun ds Q _ => ∃ (c : Str) (fs : List Str) (xs : List D), ds = [.exc c fs xs] ∧ c ∈ exN ∧ Q (.lst true ((exN.take 12 ++ exN.drop 12).map fun x => .bl (x == c))) []
theorem leaf_all : (exN.all fun x => exN.all fun c => caughtB An [x] c == some (x == c)) = true := by decide +kernel
theorem caught_leaf {x c : Str} (hx : exN.contains x = true) (hc : c ∈ exN) : caughtB An [x] c = some (x == c) := by
  have := List.all_eq_true.mp (List.all_eq_true.mp leaf_all x (List.contains_iff_mem.mp hx)) c hc
  exact eq_of_beq this
local macro_rules
  | `(tactic| trivial) => `(tactic| with_reducible first | refine i_isE rfl (caught_leaf (by decide +kernel) (by assumption)) ?_)
theorem hw__law_sorts (ds : List D) (Qd : D → List D → Prop) (Ed : DX) (h : sp__law_sorts ds Qd Ed) : w__law_sorts (fun c fs xs _ => Ed c fs xs) (endD [] Qd) (startD ["_law_e", "_law_found"] ds) := by
  obtain ⟨c, fs, xs, rfl, hc, h⟩ := h
  unfold w__law_sorts
  repeat' (first | trivial | sizeOf_list_dec)
theorem i_sorts {c : Str} {fs : List Str} {xs : List D} (hc : c ∈ exN) {Q : D → List D → Prop} {E : DX} (q : Q (.lst true (exN.map fun x => .bl (x == c))) []) : sp__law_sorts [.exc c fs xs] Q E := ⟨c, fs, xs, rfl, hc, q⟩
local macro_rules
  | `(tactic| trivial) => `(tactic| with_reducible first | refine i_call rfl rfl rfl ?_ | refine i_callB (by decide) rfl rfl rfl rfl ?_)
/-- the classes' numbers, their bases, Python's own -/
theorem exN_all : ∀ k : Fin 23, exN.contains (exC ((k : Nat) : Int)) = true ∧ (exN.map fun x => x == exC ((k : Nat) : Int)) = ((List.range 23).map fun j : Nat => decide ((j : Int) = ((k : Nat) : Int))) ∧
    ((["BadValue", "BadName", "NoAnswer"] : List Str).all fun b => (caughtB An [b] (exC ((k : Nat) : Int))).isSome) = true := by decide +kernel
/-- the place of the base -/
def spotX (k : Int) : Int := if k = 11 ∨ k = 20 then 1 else if 20 < k then 2 else 0
theorem base_all : ∀ k : Fin 23, caughtB An ["BadValue"] (exC ((k : Nat) : Int)) = some (decide (spotX ((k : Nat) : Int) = 0)) ∧ caughtB An ["BadName"] (exC ((k : Nat) : Int)) = some (decide (spotX ((k : Nat) : Int) = 1)) ∧ caughtB An ["NoAnswer"] (exC ((k : Nat) : Int)) = some (decide (spotX ((k : Nat) : Int) = 2)) ∧
    sideB An Bn "ValueError" (exC ((k : Nat) : Int)) = some (decide (spotX ((k : Nat) : Int) = 0)) ∧ sideB An Bn "LookupError" (exC ((k : Nat) : Int)) = some (decide (spotX ((k : Nat) : Int) = 1)) ∧ sideB An Bn "ArithmeticError" (exC ((k : Nat) : Int)) = some (decide (spotX ((k : Nat) : Int) = 2)) := by decide +kernel
theorem eqD_refl {d : D} (h : shp d = true) : eqD d d = true := by
  unfold shp SeqAt.shaped at h
  simp only [Bool.and_eq_true] at h
  exact PySem.SeqAt.eqv_refl _ h.2.1
theorem i_eqSelf {ρ : Sl} {x y d e : D} {K : D → Prop} (h1 : pk ρ x = some d) (h2 : pk ρ y = some e) (z : toP d = toP e) (s1 : shp d = true) (s2 : shp e = true) (q : K (.bl true)) : oEq ρ x y K := by
  refine i_eqD h1 h2 s1 s2 ?_
  rw [show eqD d e = true from by unfold eqD; rw [← z]; exact eqD_refl s1]; exact q
theorem i_neSelf {ρ : Sl} {x y d e : D} {K : D → Prop} (h1 : pk ρ x = some d) (h2 : pk ρ y = some e) (z : toP d = toP e) (s1 : shp d = true) (s2 : shp e = true) (q : K (.bl false)) : oNe ρ x y K := by
  refine i_neD h1 h2 s1 s2 ?_
  rw [show eqD d e = true from by unfold eqD; rw [← z]; exact eqD_refl s1]; exact q
def w__law_is_of_r1 (sp__law_sorts : Spd) (Ex : DXs) : WS :=
  (wSeq (wAsg (wIf (wB (wOp oInB (wVar 1) (wLst (wCons (wC (.int 11)) (wCons (wC (.int 20)) wNil))))) (wC (.int 1)) (wIf (wB (wOp oGt (wVar 1) (wC (.int 20)))) (wC (.int 2)) (wC (.int 0)))) (gFz 3))
  (wSeq (wAsg (wLst (wCons (wIsE An "BadValue" (wVar 0)) (wCons (wIsE An "BadName" (wVar 0)) (wCons (wIsE An "NoAnswer" (wVar 0)) wNil)))) (gFz 4))
  (wSeq (wAsg (wLst (wCons (wIsET An Bn "ValueError" (wVar 0)) (wCons (wIsET An Bn "LookupError" (wVar 0)) (wCons (wIsET An Bn "ArithmeticError" (wVar 0)) wNil)))) (gFz 5))
  (wRet (wAndV (wOp oEq (wVar 4) (wLc (wiR1 (wCons (wC (.int 3)) wNil)) (gFz 2) wYes (wOp oEq (wVar 2) (wVar 3)) [2])) (wOp oIxA (wVar 5) (wVar 3)))))))
def w__law_is_of (sp__law_sorts : Spd) (Ex : DXs) : WS :=
  (wSeq (wIfS (wB (wOp oNe (wCall [] [] 1 sp__law_sorts [] exF (wCons (wVar 0) wNil)) (wLc (wiR1 (wCons (wC (.int 23)) wNil)) (gFz 2) wYes (wOp oEq (wVar 2) (wVar 1)) [2]))) (wRet (wC (.bl false))) wNext)
  (w__law_is_of_r1 sp__law_sorts Ex))
def sp__law_is_of : Spd := fun ds Q _ => ∃ (k : Nat) (fs : List Str) (xs : List D), ds = [.exc (exC (k : Nat)) fs xs, .int (k : Nat)] ∧ k < 23 ∧ Q (.bl true) []
theorem hw__law_is_of (ds : List D) (Qd : D → List D → Prop) (Ed : DX) (h : sp__law_is_of ds Qd Ed) : w__law_is_of sp__law_sorts (fun c fs xs _ => Ed c fs xs) (endD [] Qd) (startD ["_law_e", "_law_k", "_law_at", "_law_spot", "_law_bases", "_law_own"] ds) := by
  obtain ⟨k, fs, xs, rfl, hk, h⟩ := h
  obtain ⟨e1, e2, _⟩ := exN_all ⟨k, hk⟩
  obtain ⟨b1, b2, b3, s1, s2, s3⟩ := base_all ⟨k, hk⟩
  dsimp only at e1 e2 b1 b2 b3 s1 s2 s3
  have hc : exC (k : Nat) ∈ exN := List.contains_iff_mem.mp e1
  generalize exC (k : Nat) = c at e1 e2 b1 b2 b3 s1 s2 s3 hc
  unfold w__law_is_of
  repeat' (first | trivial | dsimp only [w__law_is_of_r1] | sizeOf_list_dec)
  refine i_sorts hc ?_
  repeat' (first | trivial | dsimp only [w__law_is_of_r1] | sizeOf_list_dec)
  have E : (exN.map fun x => D.bl (x == c)) = (List.range 23).map fun j : Nat => D.bl (decide (0 + (j : Int) = (k : Nat))) := by
    have := congrArg (List.map D.bl) e2
    rw [List.map_map, List.map_map] at this
    refine this.trans (List.map_congr_left fun j _ => ?_)
    show D.bl (decide ((j : Int) = k)) = D.bl (decide (0 + (j : Int) = k))
    rw [Int.zero_add]
  refine i_lcM (List.range 23) (fun j : Nat => .int (0 + (j : Int))) (fun j : Nat => .bl (decide (0 + (j : Int) = (k : Nat)))) rfl (by rw [List.length_range]; omega) (fun j hj P h => ?_) ?_
  · repeat' (first | trivial | dsimp only [w__law_is_of_r1] | sizeOf_list_dec)
  repeat' (first | trivial | dsimp only [w__law_is_of_r1] | sizeOf_list_dec)
  refine i_neSelf rfl rfl (by rw [E]) (by rw [E]; rfl) (by rfl) ?_
  repeat' (first | trivial | dsimp only [w__law_is_of_r1] | sizeOf_list_dec)
  refine i_inI (l := [11, 20]) rfl rfl ?_
  repeat' (first | trivial | dsimp only [w__law_is_of_r1] | sizeOf_list_dec)
  · rename_i hm
    have hs : spotX (k : Nat) = 1 := by unfold spotX; rw [if_pos (by simpa using hm)]
    rw [hs] at b1 b2 b3 s1 s2 s3
    refine i_isE rfl b1 ?_
    repeat' (first | trivial | dsimp only [w__law_is_of_r1] | sizeOf_list_dec)
    refine i_isE rfl b2 ?_
    repeat' (first | trivial | dsimp only [w__law_is_of_r1] | sizeOf_list_dec)
    refine i_isE rfl b3 ?_
    repeat' (first | trivial | dsimp only [w__law_is_of_r1] | sizeOf_list_dec)
    refine i_isET rfl s1 ?_
    repeat' (first | trivial | dsimp only [w__law_is_of_r1] | sizeOf_list_dec)
    refine i_isET rfl s2 ?_
    repeat' (first | trivial | dsimp only [w__law_is_of_r1] | sizeOf_list_dec)
    refine i_isET rfl s3 ?_
    repeat' (first | trivial | dsimp only [w__law_is_of_r1] | sizeOf_list_dec)
    refine i_lcM (List.range 3) (fun j : Nat => .int (0 + (j : Int))) (fun j : Nat => .bl (decide (0 + (j : Int) = 1))) rfl (by rw [List.length_range]; omega) (fun j hj P h => ?_) ?_
    · repeat' (first | trivial | dsimp only [w__law_is_of_r1] | sizeOf_list_dec)
    repeat' (first | trivial | dsimp only [w__law_is_of_r1] | sizeOf_list_dec)
    refine i_eqSelf rfl rfl (by rfl) (by rfl) (by rfl) ?_
    repeat' (first | trivial | dsimp only [w__law_is_of_r1] | sizeOf_list_dec)
  · rename_i hm hg
    have hs : spotX (k : Nat) = 2 := by unfold spotX; rw [if_neg (by simpa using hm), if_pos (by simpa using hg)]
    rw [hs] at b1 b2 b3 s1 s2 s3
    refine i_isE rfl b1 ?_
    repeat' (first | trivial | dsimp only [w__law_is_of_r1] | sizeOf_list_dec)
    refine i_isE rfl b2 ?_
    repeat' (first | trivial | dsimp only [w__law_is_of_r1] | sizeOf_list_dec)
    refine i_isE rfl b3 ?_
    repeat' (first | trivial | dsimp only [w__law_is_of_r1] | sizeOf_list_dec)
    refine i_isET rfl s1 ?_
    repeat' (first | trivial | dsimp only [w__law_is_of_r1] | sizeOf_list_dec)
    refine i_isET rfl s2 ?_
    repeat' (first | trivial | dsimp only [w__law_is_of_r1] | sizeOf_list_dec)
    refine i_isET rfl s3 ?_
    repeat' (first | trivial | dsimp only [w__law_is_of_r1] | sizeOf_list_dec)
    refine i_lcM (List.range 3) (fun j : Nat => .int (0 + (j : Int))) (fun j : Nat => .bl (decide (0 + (j : Int) = 2))) rfl (by rw [List.length_range]; omega) (fun j hj P h => ?_) ?_
    · repeat' (first | trivial | dsimp only [w__law_is_of_r1] | sizeOf_list_dec)
    repeat' (first | trivial | dsimp only [w__law_is_of_r1] | sizeOf_list_dec)
    refine i_eqSelf rfl rfl (by rfl) (by rfl) (by rfl) ?_
    repeat' (first | trivial | dsimp only [w__law_is_of_r1] | sizeOf_list_dec)
  · rename_i hm hg
    have hs : spotX (k : Nat) = 0 := by unfold spotX; rw [if_neg (by simpa using hm), if_neg (by simpa using hg)]
    rw [hs] at b1 b2 b3 s1 s2 s3
    refine i_isE rfl b1 ?_
    repeat' (first | trivial | dsimp only [w__law_is_of_r1] | sizeOf_list_dec)
    refine i_isE rfl b2 ?_
    repeat' (first | trivial | dsimp only [w__law_is_of_r1] | sizeOf_list_dec)
    refine i_isE rfl b3 ?_
    repeat' (first | trivial | dsimp only [w__law_is_of_r1] | sizeOf_list_dec)
    refine i_isET rfl s1 ?_
    repeat' (first | trivial | dsimp only [w__law_is_of_r1] | sizeOf_list_dec)
    refine i_isET rfl s2 ?_
    repeat' (first | trivial | dsimp only [w__law_is_of_r1] | sizeOf_list_dec)
    refine i_isET rfl s3 ?_
    repeat' (first | trivial | dsimp only [w__law_is_of_r1] | sizeOf_list_dec)
    refine i_lcM (List.range 3) (fun j : Nat => .int (0 + (j : Int))) (fun j : Nat => .bl (decide (0 + (j : Int) = 0))) rfl (by rw [List.length_range]; omega) (fun j hj P h => ?_) ?_
    · repeat' (first | trivial | dsimp only [w__law_is_of_r1] | sizeOf_list_dec)
    repeat' (first | trivial | dsimp only [w__law_is_of_r1] | sizeOf_list_dec)
    refine i_eqSelf rfl rfl (by rfl) (by rfl) (by rfl) ?_
    repeat' (first | trivial | dsimp only [w__law_is_of_r1] | sizeOf_list_dec)
end L
namespace L
open PySem PySem.Spec PyProof.Rows L2 M
local macro_rules
  | `(tactic| trivial) => `(tactic| with_reducible first
    | refine i_var rfl ?_
    | refine i_addI ?_ | refine i_sub ?_ | refine i_mod (by omega) ?_ | refine i_fdiv (by omega) ?_
    | refine i_mulL (by omega) ?_ | refine i_mulR (by omega) ?_
    | refine ite_t ?_ | refine ite_nT ?_ | refine ite_nF ?_ | refine ite_nn ?_ | refine ite_f ?_ | refine ite_dt (by first | assumption | omega | (simp only [List.length_map, List.length_append, List.length_cons, List.length_nil, List.length_take, List.length_drop] at *; omega)) ?_ | refine ite_df (by first | assumption | omega | (simp only [List.length_map, List.length_append, List.length_cons, List.length_nil, List.length_take, List.length_drop] at *; omega)) ?_ | refine ite_ct (by assumption) ?_ | refine ite_cf (by assumption) ?_ | refine ite_nct (by assumption) ?_ | refine ite_ncf (by assumption) ?_ | refine iteD (fun hc => ?_) (fun hc => ?_) | refine ite_nf (by first | exact rfl | assumption | omega | (simp only [List.length_map, List.length_append, List.length_cons, List.length_nil, List.length_take, List.length_drop] at *; omega)) ?_ | refine ite_nt (by first | assumption | omega | (simp only [List.length_map, List.length_append, List.length_cons, List.length_nil, List.length_take, List.length_drop] at *; omega)) ?_ | refine iteN (fun hc => ?_) (fun hc => ?_) | refine i_b ?_
    | refine i_lt ?_ | refine i_le ?_ | refine i_gt ?_ | refine i_ge ?_ | refine i_eqI ?_ | refine i_neI ?_ | refine i_eqS ?_ | refine i_neS ?_
    | refine i_ixL rfl rfl rfl ?_
    | refine i_int ?_ | refine i_abs ?_ | refine i_max ?_ | refine i_min ?_ | refine i_dm (by omega) ?_
    | refine i_lenL rfl rfl ?_ | refine i_lenSc ?_ | refine i_list rfl rfl ?_ | refine i_tuple rfl rfl ?_
    | refine i_setl rfl rfl rfl rfl ?_
    | refine i_truB ?_ | refine i_pln rfl ?_ | refine i_isSS ?_ | refine i_isTT ?_ | refine i_isII ?_ | refine i_isIB ?_ | refine i_isSI ?_ | refine i_lockE rfl ?_ | refine i_dk rfl ?_ | refine i_gattr rfl rfl rfl rfl rfl (by decide +kernel) ?_ | refine i_star rfl rfl ?_ | refine i_isin rfl ?_ | refine i_nn ?_ | refine i_made ?_ | refine i_spc ?_ | refine i_qlen (by omega) ?_ | refine i_qstr ?_ | refine i_qbl ?_ | refine i_js (by simp only [empty_app, app_len, len_gt]; omega) ?_ | refine i_fmt (by omega) ?_ | refine i_inC ?_ | refine i_inKS rfl ?_ | refine i_notInKS rfl ?_ | refine i_lenD rfl ?_ | refine i_notIn2 ?_ | refine i_in2 ?_ | refine i_allM rfl ?_ | refine i_anyM rfl ?_ | refine i_index rfl (by assumption) ?_ | refine i_tyL rfl ?_ | refine i_tyS ?_ | refine i_popM rfl (by first | omega | (simp only [List.length_map, List.length_append, List.length_cons, List.length_nil, List.length_take, List.length_drop] at *; omega)) (fun m hm hme hle => ?_) | refine i_popB rfl (by first | omega | (simp only [List.length_map, List.length_append, List.length_cons, List.length_nil, List.length_take, List.length_drop] at *; omega)) (fun m hm hme => ?_) | refine i_par rfl rfl ?_ | refine i_tpo rfl rfl ?_ | refine i_fzE rfl ?_ | refine i_fzE (fzR_P (by assumption)) ?_ | refine i_fz rfl ?_ | refine i_fz (fzR_P (by assumption)) ?_ | refine i_app rfl rfl (by first | omega | (simp only [List.length_map, List.length_append, List.length_cons, List.length_nil, List.length_take, List.length_drop] at *; omega)) ?_ | refine i_ow rfl ?_ | refine i_unp rfl ?_ | refine i_unpO rfl ?_ | refine i_gcons ?_ | refine i_gnil ?_
    | refine i_strB (by omega) ?_ | refine i_notInS rfl rfl ?_ | refine i_inS rfl rfl ?_ | refine i_notInI rfl rfl ?_ | refine i_inI rfl rfl ?_
    | refine i_addS (by first | decide | (simp only [len_plus, len_minus, len_gt, len_places, app_len]; omega)) ?_ | refine i_addL rfl rfl (by decide) ?_ | refine i_addL rfl rfl (by first | omega | (simp only [List.length_map, List.length_append, List.length_cons, List.length_nil, List.length_take, List.length_drop] at *; omega)) ?_
    | refine i_pow (by omega) ?_ | refine i_disp rfl rfl ?_ | refine i_slL rfl ?_ | refine i_slT ?_ | refine i_scr ?_ | refine i_opt ?_ | refine i_itL rfl rfl ?_ | refine i_itS ?_ | refine i_en rfl rfl ?_ | refine i_r1 (by first | omega | (simp only [List.length_map, List.length_append, List.length_cons, List.length_nil, List.length_take, List.length_drop] at *; omega)) ?_ | refine i_r2 (by first | omega | (simp only [List.length_map, List.length_append, List.length_cons, List.length_nil, List.length_take, List.length_drop] at *; omega)) ?_ | refine i_lc0 ?_ | refine i_dc0 ?_ | refine i_kfz rfl rfl ?_ | refine i_ixSc rfl ?_
    | refine i_ret rfl rfl ?_ | refine i_fzs rfl ?_)
local macro_rules
  | `(tactic| sizeOf_list_dec) => `(tactic| dsimp only [wIsE, wIsET, wXf, wMkE, wMkE0, rd_ex0, wClsP, wMakeL, rd_cls, wRevT, wDm, wMeth, wTm, wYes, wMakeP, makeP, wCallP, callP, wMethP, permL_nil, permL_cons, wProp, wIxI, wLockE, wiDk, wFld, wStar, wFmt, wFs, wJs, wDn, Bool.not_true, Bool.not_false, wChain, wAndV, wOrV, wNotV, wIsT, id, wNeg, wPar, wTpo, st2, st3, wFg, wFg0, puts, wip, rst, isOw, if_ff, if_tt, List.getElem?_cons_zero, List.getElem?_cons_succ, List.getElem?_nil, wSeq, wAsg, wOp, wC, wCB, wCons, wNil, wRet, wIfS, wB, wNext, wIf, wCall, wDrop, wTup, wLst, wM, wM0, wSl, wSlS, wP, wNoP, wiR1, wiR2, wiIt, wiEn, wTru, wAnd, wOr, wNot, wFor, rd_int, rd_str, rd_bl, rd_non, rd_tup, rd_lf, rd_lt, rd_df, rd_dt, rd_if, rd_it, rd_scr, startD, fz, List.map, List.length, List.replicate, List.append, List.set_cons_zero, List.set_cons_succ, Int.reduceToNat, List.cons_append, List.nil_append, Nat.reduceAdd, Nat.reduceSub, endD])

local macro_rules
  | `(tactic| trivial) => `(tactic| with_reducible first
    | refine i_lc20 ?_ | refine i_rv0 ?_ | refine i_si0 ?_ | refine i_ls0 ?_ | refine i_sort2 rfl rfl (by assumption) (by assumption) ?_ | refine i_tm rfl ?_ | refine i_tindex rfl (by assumption) ?_ | refine i_revL rfl ?_ | refine i_remS rfl (by assumption) ?_ | refine i_lenSet rfl (by assumption) (by omega) ?_ | refine i_zip0 ?_ | refine i_zipT ?_ | refine i_lend rfl ?_ | refine i_lent (by with_unfolding_all first | rfl | exact nfz_lm) rfl (by with_unfolding_all repeat' (first | exact lok_0 | refine lok_i ?_ | refine lok_n ?_ | refine lok_s rfl ?_ | refine lok_z (by first | rfl | exact nfz_lm | exact nfz_tm) ?_)) ?_)

theorem pre_pl : ∀ {rs : List D} {n : Nat} {ρ : Sl}, (∀ d ∈ rs, Pl d) → pre [] [] n ρ rs = some (rs, ρ, [])
  | [], _, _, _ => rfl
  | r :: rs, n, ρ, h => by
    have h1 : fzR ρ r = some (r, ρ) := fzR_P (h r List.mem_cons_self)
    have h2 := pre_pl (rs := rs) (n := n + 1) (ρ := ρ) fun d hd => h d (List.mem_cons_of_mem _ hd)
    unfold pre
    rw [if_neg (by simp), if_neg (by simp), h1]
    show (pre [] [] (n + 1) ρ rs).map _ = _
    rw [h2]
    rfl
theorem okOw_pl : ∀ {rs : List D} {n : Nat}, (∀ d ∈ rs, Pl d) → okOw [] n rs = true
  | [], _, _ => rfl
  | r :: rs, n, h => by
    have h2 := okOw_pl (rs := rs) (n := n + 1) fun d hd => h d (List.mem_cons_of_mem _ hd)
    unfold okOw
    rw [h2, (h r List.mem_cons_self).ow]
    rfl
/-- a def called with plain values -/
theorem i_callP {n : Nat} {sp : Spd} {Ex : DXs} {rs : List D} {ρ : Sl} {Q : D → Sl → Prop} (hn : rs.length = n) (hp : ∀ d ∈ rs, Pl d) (h : sp rs (fun r os => Q r (puts ρ [] os)) fun c fs xs => Ex c fs xs ρ) : callD [] [] n sp [] Ex Q rs ρ := i_call hn (pre_pl hp) (okOw_pl hp) h
theorem i_given {k : Nat} {d : D} {b : Bool} (hp : Pl d) (h : k < 12) {Q : D → List D → Prop} {E : DX} (q : Q (.exc (exC (k : Nat)) ["given"] [d]) []) : sp__law_with_given [.int (k : Nat), d, .bl b] Q E := ⟨_, d, b, rfl, hp, by omega, by omega, q⟩
theorem i_index' {k : Nat} {d : D} {b : Bool} (hp : Pl d) (h0 : 12 ≤ k) (h : k < 22) {Q : D → List D → Prop} {E : DX} (q : Q (.exc (exC (k : Nat)) ["index"] [d]) []) : sp__law_with_index [.int (k : Nat), d, .bl b] Q E := ⟨_, d, b, rfl, hp, by omega, by omega, q⟩
theorem i_isof {k : Nat} {fs : List Str} {xs : List D} (h : k < 23) {Q : D → List D → Prop} {E : DX} (q : Q (.bl true) []) : sp__law_is_of [.exc (exC (k : Nat)) fs xs, .int (k : Nat)] Q E := ⟨k, fs, xs, rfl, h, q⟩
theorem an_all : ∀ k : Fin 23, (An.lookup (exC ((k : Nat) : Int))).isSome = true := by decide +kernel
local macro_rules
  | `(tactic| trivial) => `(tactic| with_reducible first | refine i_call rfl rfl rfl ?_ | refine i_callB (by decide) rfl rfl rfl rfl ?_)
def w__law_right_r3 (sp__law_with_given : Spd) (sp__law_is_of : Spd) (sp__law_with_index : Spd) (Ex : DXs) : WS :=
  (wRet (wAndV (wCall [] [] 2 sp__law_is_of [] exF (wCons (wMkE0 "NothingToUndo") (wCons (wC (.int 22)) wNil))) (wOp oEq (wCB nReprX (wCons (wVar 0) wNil)) (wVar 1))))
def w__law_right_r2 (sp__law_with_given : Spd) (sp__law_is_of : Spd) (sp__law_with_index : Spd) (Ex : DXs) : WS :=
  (wSeq (wFg [2, 3, 4] (wFg0 [2, 3, 4] (wFor (wiR2 (wCons (wC (.int 12)) (wCons (wC (.int 22)) wNil))) (gFz 2)
  (wFg [2, 3, 4] (wFg [3, 4] (wFg0 [3, 4] (wFor (wiIt (wLst (wCons (wC (.bl false)) (wCons (wC (.bl true)) wNil)))) (gFz 3)
  (wFg [3, 4] (wSeq (wAsg (wCall [] [] 3 sp__law_with_index [] exF (wCons (wVar 2) (wCons (wVar 0) (wCons (wVar 3) wNil)))) (gFz 4))
  (wIfS (wOr (wNot (wTru (wCall [] [] 2 sp__law_is_of [] exF (wCons (wVar 4) (wCons (wVar 2) wNil))))) (wB (wOp oNe (wCB nReprX (wCons (wXf An "index" (wVar 4)) wNil)) (wVar 1)))) (wRet (wC (.bl false))) wNext))))))))))
  (w__law_right_r3 sp__law_with_given sp__law_is_of sp__law_with_index Ex))
def w__law_right (sp__law_with_given : Spd) (sp__law_is_of : Spd) (sp__law_with_index : Spd) (Ex : DXs) : WS :=
  (wSeq (wAsg (wCB nReprX (wCons (wVar 0) wNil)) (gFz 1))
  (wSeq (wFg [2, 3, 4] (wFg0 [2, 3, 4] (wFor (wiR1 (wCons (wC (.int 12)) wNil)) (gFz 2)
  (wFg [2, 3, 4] (wFg [3, 4] (wFg0 [3, 4] (wFor (wiIt (wLst (wCons (wC (.bl false)) (wCons (wC (.bl true)) wNil)))) (gFz 3)
  (wFg [3, 4] (wSeq (wAsg (wCall [] [] 3 sp__law_with_given [] exF (wCons (wVar 2) (wCons (wVar 0) (wCons (wVar 3) wNil)))) (gFz 4))
  (wIfS (wOr (wNot (wTru (wCall [] [] 2 sp__law_is_of [] exF (wCons (wVar 4) (wCons (wVar 2) wNil))))) (wB (wOp oNe (wCB nReprX (wCons (wXf An "given" (wVar 4)) wNil)) (wVar 1)))) (wRet (wC (.bl false))) wNext))))))))))
  (w__law_right_r2 sp__law_with_given sp__law_is_of sp__law_with_index Ex)))
def sp__law_right : Spd := fun ds Q _ => ∃ d, ds = [d] ∧ Gt d ∧ Q (.bl true) []
theorem hw__law_right (ds : List D) (Qd : D → List D → Prop) (Ed : DX) (h : sp__law_right ds Qd Ed) : w__law_right sp__law_with_given sp__law_is_of sp__law_with_index (fun c fs xs _ => Ed c fs xs) (endD [] Qd) (startD ["_law_thing_here", "_law_held_as", "_law_k", "_law_by_name", "_law_e"] ds) := by
  obtain ⟨d, rfl, hg, h⟩ := h
  have hr : ∀ k, rd k d = d := fun k => rd_pl hg.pl
  have hk : ∀ ρ : Sl, pk ρ d = some d := fun ρ => pk_pl hg.pl
  have hz : ∀ ρ : Sl, fzR ρ d = some (d, ρ) := fun ρ => fzR_P hg.pl
  unfold w__law_right
  repeat' (first | trivial | dsimp only [w__law_right_r3, w__law_right_r2] | sizeOf_list_dec)
  rw [hr]
  refine i_reprT (hk _) hg ?_
  repeat' (first | trivial | dsimp only [w__law_right_r3, w__law_right_r2] | sizeOf_list_dec)
  refine ⟨fun i ρ => ρ = [some (d : D), some (.str (toQ d).shown : D), none, none, none], rfl, fun i x ρ hd e => ?_, fun ρ e => ?_⟩
  · subst e
    obtain ⟨hi, rfl⟩ := rng_at hd
    repeat' (first | trivial | dsimp only [w__law_right_r3, w__law_right_r2] | sizeOf_list_dec)
    have ez : (0 : Int) + (i : Int) = (i : Nat) := Int.zero_add _
    rw [ez]
    refine ⟨fun j ρ => ρ = [some (d : D), some (.str (toQ d).shown : D), some (.int (i : Nat) : D), none, none], rfl, fun j x ρ hx e => ?_, fun ρ e => ?_⟩
    · subst e
      obtain ⟨b, rfl⟩ : ∃ b, x = .bl b := by
        have hm := List.mem_of_getElem? hx
        simp only [List.mem_cons, List.not_mem_nil, or_false] at hm
        rcases hm with rfl | rfl <;> exact ⟨_, rfl⟩
      repeat' (first | trivial | dsimp only [w__law_right_r3, w__law_right_r2] | sizeOf_list_dec)
      rw [hr]
      refine i_callP rfl (fun y hy => ?_) (i_given hg.pl (by omega) ?_)
      · simp only [List.mem_cons, List.not_mem_nil, or_false] at hy
        rcases hy with rfl | rfl | rfl
        · exact ⟨rfl, rfl, rfl⟩
        · exact hg.pl
        · exact ⟨rfl, rfl, rfl⟩
      repeat' (first | trivial | dsimp only [w__law_right_r3, w__law_right_r2] | sizeOf_list_dec)
      refine i_isof (by omega) ?_
      repeat' (first | trivial | dsimp only [w__law_right_r3, w__law_right_r2] | sizeOf_list_dec)
      refine i_xf rfl (an_all ⟨i, by omega⟩) rfl ?_
      repeat' (first | trivial | dsimp only [w__law_right_r3, w__law_right_r2] | sizeOf_list_dec)
      refine i_reprT (hk _) hg ?_
      repeat' (first | trivial | dsimp only [w__law_right_r3, w__law_right_r2] | sizeOf_list_dec)
    · subst e
      repeat' (first | trivial | dsimp only [w__law_right_r3, w__law_right_r2] | sizeOf_list_dec)
  · subst e
    repeat' (first | trivial | dsimp only [w__law_right_r3, w__law_right_r2] | sizeOf_list_dec)
    refine ⟨fun i ρ => ρ = [some (d : D), some (.str (toQ d).shown : D), none, none, none], rfl, fun i x ρ hd e => ?_, fun ρ e => ?_⟩
    · subst e
      obtain ⟨hi, rfl⟩ := rng_at hd
      have hi : i < 10 := hi
      repeat' (first | trivial | dsimp only [w__law_right_r3, w__law_right_r2] | sizeOf_list_dec)
      have ez : (12 : Int) + (i : Int) = ((12 + i : Nat) : Nat) := by omega
      rw [ez]
      refine ⟨fun j ρ => ρ = [some (d : D), some (.str (toQ d).shown : D), some (.int (12 + i : Nat) : D), none, none], rfl, fun j x ρ hx e => ?_, fun ρ e => ?_⟩
      · subst e
        obtain ⟨b, rfl⟩ : ∃ b, x = .bl b := by
          have hm := List.mem_of_getElem? hx
          simp only [List.mem_cons, List.not_mem_nil, or_false] at hm
          rcases hm with rfl | rfl <;> exact ⟨_, rfl⟩
        repeat' (first | trivial | dsimp only [w__law_right_r3, w__law_right_r2] | sizeOf_list_dec)
        rw [hr]
        refine i_callP rfl (fun y hy => ?_) (i_index' hg.pl (by omega) (by omega) ?_)
        · simp only [List.mem_cons, List.not_mem_nil, or_false] at hy
          rcases hy with rfl | rfl | rfl
          · exact ⟨rfl, rfl, rfl⟩
          · exact hg.pl
          · exact ⟨rfl, rfl, rfl⟩
        repeat' (first | trivial | dsimp only [w__law_right_r3, w__law_right_r2] | sizeOf_list_dec)
        refine i_isof (by omega) ?_
        repeat' (first | trivial | dsimp only [w__law_right_r3, w__law_right_r2] | sizeOf_list_dec)
        refine i_xf rfl (an_all ⟨12 + i, by omega⟩) rfl ?_
        repeat' (first | trivial | dsimp only [w__law_right_r3, w__law_right_r2] | sizeOf_list_dec)
        refine i_reprT (hk _) hg ?_
        repeat' (first | trivial | dsimp only [w__law_right_r3, w__law_right_r2] | sizeOf_list_dec)
      · subst e
        repeat' (first | trivial | dsimp only [w__law_right_r3, w__law_right_r2] | sizeOf_list_dec)
    · subst e
      repeat' (first | trivial | dsimp only [w__law_right_r3, w__law_right_r2] | sizeOf_list_dec)
      refine i_isof (k := 22) (by omega) ?_
      repeat' (first | trivial | dsimp only [w__law_right_r3, w__law_right_r2] | sizeOf_list_dec)
      rw [hr]
      refine i_reprT (hk _) hg ?_
      repeat' (first | trivial | dsimp only [w__law_right_r3, w__law_right_r2] | sizeOf_list_dec)
      rw [decide_eq_true rfl]
      exact h
theorem i_pot {n : Int} {Q : D → List D → Prop} {E : DX} (q : ∀ a b c, Q (.lst true [.int a, .int b, .int c]) []) : sp__law_pot [.int n] Q E := ⟨n, rfl, fun p ⟨a, b, c, e⟩ => e ▸ q a b c⟩
theorem i_cell {ns : List Int} {k : Int} (h : 0 ≤ k ∧ k < 100) {Q : D → List D → Prop} {E : DX} (q : ∀ n, Q (.int n) []) : sp__law_cell [.scr ns, .int k] Q E := ⟨ns, k, rfl, h.1, h.2, q⟩
theorem i_thing {a b c : Int} {Q : D → List D → Prop} {E : DX} (q : ∀ v a b c, Gt v → Q v [.lst true [.int a, .int b, .int c]]) : sp__law_thing [.lst true [.int a, .int b, .int c]] Q E :=
  ⟨_, rfl, ⟨_, _, _, rfl⟩, fun v p' hv ⟨a, b, c, e⟩ => e ▸ q v a b c hv⟩
local macro_rules
  | `(tactic| trivial) => `(tactic| with_reducible first | refine i_pot (fun a b c => ?_) | refine i_cell (by omega) (fun n => ?_) | refine i_thing (fun v a b c hg => ?_))
theorem lim_shown : (toQ (.lst true [.int 8, .int 24, .int 12, .int 6, .int 6])).shown = ("[8, 24, 12, 6, 6]" : Str) := by decide +kernel
def w_law_r2 (sp__law_pot : Spd) (sp__law_cell : Spd) (sp__law_right : Spd) (sp__law_thing : Spd) (Ex : DXs) : WS :=
  (wRet (wC (.bl true)))
def w_law_r1 (sp__law_pot : Spd) (sp__law_cell : Spd) (sp__law_right : Spd) (sp__law_thing : Spd) (Ex : DXs) : WS :=
  (wSeq (wFg [1, 2] (wFg0 [1, 2] (wFor (wiR1 (wCons (wCB nMax (wCons (wC (.int 2)) (wCons (wCB nMin (wCons (wCB nLenS (wCons (wVar 0) wNil)) (wCons (wC (.int 4)) wNil))) wNil))) wNil)) (gFz 1)
  (wFg [1, 2] (wSeq (wAsg (wCall [] [] 1 sp__law_pot [] exF (wCons (wCall [] [] 2 sp__law_cell [] exF (wCons (wVar 0) (wCons (wVar 1) wNil))) wNil)) (gOw 2))
  (wIfS (wNot (wTru (wCB nAll (wCons (wLc (wiR1 (wCons (wC (.int 7)) wNil)) (gFz 3) wYes (wCall [] [] 1 sp__law_right [] exF (wCons (wCall [0] [] 1 sp__law_thing [] exF (wCons (wVar 2) wNil)) wNil)) [3]) wNil)))) (wRet (wC (.bl false))) wNext))))))
  (w_law_r2 sp__law_pot sp__law_cell sp__law_right sp__law_thing Ex))
def w_law (sp__law_pot : Spd) (sp__law_cell : Spd) (sp__law_right : Spd) (sp__law_thing : Spd) (Ex : DXs) : WS :=
  (wSeq (wIfS (wB (wOp oNe (wCB nReprX (wCons (wLst (wCons (wC (.int 8)) (wCons (wC (.int 24)) (wCons (wC (.int 12)) (wCons (wC (.int 6)) (wCons (wC (.int 6)) wNil)))))) wNil)) (wC (.str "[8, 24, 12, 6, 6]")))) (wRet (wC (.bl false))) wNext)
  (w_law_r1 sp__law_pot sp__law_cell sp__law_right sp__law_thing Ex))
def sp_law : Spd := fun ds Q _ => ∃ ns, ds = [.scr ns] ∧ Q (.bl true) []
theorem hw_law (ds : List D) (Qd : D → List D → Prop) (Ed : DX) (h : sp_law ds Qd Ed) : w_law sp__law_pot sp__law_cell sp__law_right sp__law_thing (fun c fs xs _ => Ed c fs xs) (endD [] Qd) (startD ["_law_cells", "_law_k", "_law_pot_here", "_law_turn"] ds) := by
  obtain ⟨ns, rfl, h⟩ := h
  unfold w_law
  repeat' (first | trivial | dsimp only [w_law_r2, w_law_r1] | sizeOf_list_dec)
  refine ⟨_, .lst true [.int 8, .int 24, .int 12, .int 6, .int 6], rfl, rfl, rfl, rfl, (by decide +kernel), (by decide +kernel), ?_⟩
  rw [lim_shown]
  repeat' (first | trivial | dsimp only [w_law_r2, w_law_r1] | sizeOf_list_dec)
  refine ⟨fun i ρ => ρ = [some (.scr ns : D), none, none, none], rfl, ?_, ?_⟩
  · rintro i d ρ hd rfl
    obtain ⟨hi, rfl⟩ := rng_at hd
    have hi : (i : Int) < 100 := by
      revert hi
      split <;> (try split) <;> omega
    repeat' (first | trivial | dsimp only [w_law_r2, w_law_r1] | sizeOf_list_dec)
    rename_i a b c
    refine ⟨fun j acc ρ => acc = List.replicate j (.bl true) ∧ ∃ a b c : Int, ρ = [some (.scr ns : D), some (.int (0 + (i : Nat)) : D), some (.lst true [.int a, .int b, .int c] : D), none], ⟨rfl, _, _, _, rfl⟩, ?_, ?_⟩
    · rintro j d acc ρ hd ⟨rfl, a, b, c, rfl⟩
      obtain ⟨hj, rfl⟩ := rng_at hd
      repeat' (first | trivial | dsimp only [w_law_r2, w_law_r1] | sizeOf_list_dec)
      rename_i v a b c hg
      refine i_callP rfl (fun y hy => by rw [List.mem_singleton.mp hy]; exact hg.pl) ⟨v, rfl, hg, ?_⟩
      refine ⟨_, _, rfl, by rw [List.length_replicate]; exact Nat.lt_of_lt_of_le hj (by decide), (by show List.replicate j (D.bl true) ++ [D.bl true] = _; rw [← List.replicate_succ', List.replicate_succ]), _, _, _, rfl⟩
    · rintro acc ρ ⟨rfl, a, b, c, rfl⟩
      rw [rng_len]
      repeat' (first | trivial | dsimp only [w_law_r2, w_law_r1] | sizeOf_list_dec)
      refine i_all (bs := List.replicate 7 true) rfl ?_
      repeat' (first | trivial | dsimp only [w_law_r2, w_law_r1] | sizeOf_list_dec)
  · rintro ρ rfl
    repeat' (first | trivial | dsimp only [w_law_r2, w_law_r1] | sizeOf_list_dec)
end L
/-! ME: a law's end, its def promised where no repr is under way. -/
namespace M
open PySem PySem.Spec PyProof.Rows L2

section
variable {P : Program} {w : World} {K : PySem.W.Frag} {mg mb : Str → Option Value} {k : Nat} {fa a : Addr} {fd : FuncData} {x : Str} {sp : Sp} {s₁ : Shared} {vs : List Value} {ns : List Int}
/-- from an abstract heap H that holds the script at most -/
theorem end_core {H : Hp} (KX : K.In s₁.heap) (hns : s₁.heap.Ns mainGlobals mg) (hb : s₁.heap.Ns builtinsNs mb) (hbb : ∀ x : Str, x ≠ "__name__" → mb x = bootBuiltins x) (hlim : s₁.heap.NoLimit) (hg : s₁.gens = #[]) (ha : s₁.heap.get? a = some { cls := .type "list", data := .seq vs.toArray }) (hr : RoomG k callerA)
    (F : ∀ base : Heap, K.In base → base.Ns mainGlobals mg → FnG P w K mg base (L2.CX P w) k fa fd [x] sp) (hbind : BindsTo s₁ fd ⟨[.ref a], []⟩ [(x, .ref a)]) (hO : Only H) (hsp : sp [.ref a] H (fun v _ => v = .bl true) fun _ _ _ => False) (hok : HOk P w H s₁.heap) (hA : ∀ b u, H b = some u → b = a) (hK : ∀ u, H a = some u → K.lookup a = none) :
    codeAny (model P w) callerA (.call (.ref fa) ⟨[.ref a], []⟩) (fun r s' => r = .ok (.ret (.bool true)) ∧ OldK s₁.heap s'.heap ∧ s'.os = s₁.os ∧ AllBare s'.gens) s₁ := by
  -- what is no part of H stands in the base
  have stay : ∀ {b : Addr} {o : Obj}, s₁.heap.get? b = some o → (∀ u, H b ≠ some u) → (hidT s₁.heap H).get? b = some o := fun {b o} e n => hidT_get e (by
    cases q : H b with
    | none => rfl
    | some u => exact absurd q (n u))
  have dictStay : ∀ {b : Addr} {m : Str → Option Value}, s₁.heap.Ns b m → (hidT s₁.heap H).Ns b m := by
    rintro b m ⟨o, es, ep, e, d, r⟩
    refine ⟨o, es, ep, stay e fun u q => ?_, d, r⟩
    have hb := hA b u q
    subst hb
    rw [ha] at e
    cases e
    exact nomatch (show Data.seq vs.toArray _ = Data.dict es ep from d)
  have inB : K.In (hidT s₁.heap H) := fun b o e => stay (KX b o e) fun u q => by
    have hb := hA b u q
    subst hb
    rw [hK u q] at e
    cases e
  obtain ⟨mc, l1, l2⟩ := hlim
  have e0 : Env0 P w K mg (hidT s₁.heap H) callerA [] s₁ H :=
    ⟨rfl, ⟨inB, dictStay hns, ⟨mb, dictStay hb, hbb⟩, ⟨mc, dictStay l1, l2⟩⟩, fun b o e => of_hidT e, Nat.le_of_eq (hidT_size _ _), trivial, (fun b z => nomatch z), hok, .of_eq hg⟩
  refine codeAny_mono ((F _ inB (dictStay hns)).run callerA [] s₁ H ⟨[.ref a], []⟩ [.ref a] [.ref a] _ _ hr e0 hbind (.cons (show RelV (.ref a) (.ref a) from rfl) .nil) hsp) fun r s' h => ?_
  rcases cr_ends h with ⟨u, rfl, v, H', os, bare, un, hok', ru, q⟩ | ⟨er, rfl, z⟩
  · have q : v = .bl true := q
    subst q
    have ru : u = .bool true := ru
    subst ru
    refine ⟨rfl, OldK.of_keep fun b o e => ?_, os, bare⟩
    rcases hO b with z | ⟨ob, xs, z⟩
    · exact un.keep b o e z (fun y => nomatch y) (by simp)
    · obtain ⟨g1, _⟩ := hok b _ z
      obtain ⟨g2, _⟩ := hok' b _ (un.frzs b ob _ z)
      rw [e] at g1
      cases g1
      exact g2
  · obtain ⟨_, _, _, _, _, _, _, _, _, _, _, _, y⟩ := z
    exact y.elim
/-- the law's call from the script, for every abstract heap of this form -/
theorem law_callG (KX : K.In s₁.heap) (hns : s₁.heap.Ns mainGlobals mg) (hb : s₁.heap.Ns builtinsNs mb) (hbb : ∀ x : Str, x ≠ "__name__" → mb x = bootBuiltins x) (hlim : s₁.heap.NoLimit) (hg : s₁.gens = #[]) (ha : s₁.heap.get? a = some { cls := .type "list", data := .seq vs.toArray }) (hi : IntsAre vs ns) (hl : ns.length ≤ sizeLine) (hr : RoomG k callerA)
    (F : ∀ base : Heap, K.In base → base.Ns mainGlobals mg → FnG P w K mg base (L2.CX P w) k fa fd [x] sp) (hbind : ∀ (s : Shared) (u : Value), BindsTo s fd ⟨[u], []⟩ [(x, u)])
    (hsp : ∀ H : Hp, ((∃ o, H a = some (.frz o (.lst (ns.map V.int)))) ∨ SqL K (fun _ => none) a (ns.map V.int)) → sp [.ref a] H (fun v _ => v = .bl true) fun _ _ _ => False) :
    codeAny (model P w) callerA (.call (.ref fa) ⟨[.ref a], []⟩) (fun r s' => r = .ok (.ret (.bool true)) ∧ OldK s₁.heap s'.heap ∧ s'.os = s₁.os ∧ AllBare s'.gens) s₁ := by
  have rv := vals_ints hi
  cases hk : K.lookup a with
  | some o =>
    have e := KX a o hk
    rw [ha] at e
    cases e
    have hS : SqL K (fun _ => none) a (ns.map V.int) := .inr ⟨_, vs.toArray, _, hk, rfl, rfl, rfl, by rw [List.size_toArray, hi.length]; exact hl, by simpa using rv⟩
    exact end_core (H := fun _ => none) KX hns hb hbb hlim hg ha hr F (hbind _ _) (fun _ => .inl rfl) (hsp _ (.inr hS)) (fun b u z => nomatch (show (none : Option HO) = some u from z)) (fun b u z => nomatch (show (none : Option HO) = some u from z)) fun u z => nomatch (show (none : Option HO) = some u from z)
  | none =>
    let ob : Obj := { cls := .type "list", data := .seq vs.toArray }
    let H : Hp := upd (fun _ => none) a (.frz ob (.lst (ns.map V.int)))
    have hH : ∀ {b : Addr} {u : HO}, H b = some u → b = a ∧ u = .frz ob (.lst (ns.map V.int)) := fun {b u} z => by
      by_cases q : b = a
      · subst q
        rw [show H b = some (.frz ob (.lst (ns.map V.int))) from upd_same] at z
        exact ⟨rfl, (Option.some.inj z).symm⟩
      · rw [show H b = none from upd_ne q] at z
        cases z
    refine end_core (H := H) KX hns hb hbb hlim hg ha hr F (hbind _ _) (fun b => ?_) (hsp H (.inl ⟨ob, upd_same⟩)) (fun b u z => ?_) (fun b u z => (hH z).1) fun _ _ => hk
    · by_cases q : b = a
      · exact .inr ⟨ob, _, by rw [q]; exact upd_same⟩
      · exact .inl (upd_ne q)
    · obtain ⟨rfl, rfl⟩ := hH z
      exact ⟨ha, by rw [List.length_map]; exact hl, vs, _, rv, ha⟩
theorem guards_caller : callerA.guards = some [] := rfl
/-- the end of a law over a head by facts -/
theorem walk_ofG {l : PySem.W.OpenLaw} {n k : Nat} {q : Program} {loose : List Str} {XP : (Str → Option Value) → Heap → Prop} {YP : World → Heap → Prop} {d : DefRec} {x : Str}
    (hn : l.most = some n) (hn2 : n ≤ sizeLine) (hdf : d.params.defaults = []) (hr : Room k callerA)
    (F : ∀ (w : World) (mg : Str → Option Value) (fa : Addr) (h : Heap), YP w h → h.Ns mainGlobals mg → mg d.name = some (.ref fa) →
      ∃ (K : PySem.W.Frag) (fd : FuncData) (sp : Sp), K.In h ∧ (∀ (s : Shared) (u : Value), BindsTo s fd ⟨[u], []⟩ [(x, u)]) ∧
        (∀ (H : Hp) (a : Addr) (ns : List Int), ns.length ≤ n → ((∃ o, H a = some (.frz o (.lst (ns.map V.int)))) ∨ SqL K (fun _ => none) a (ns.map V.int)) → sp [.ref a] H (fun v _ => v = .bl true) fun _ _ _ => False) ∧
        ∀ base : Heap, K.In base → base.Ns mainGlobals mg → FnG l.prog w K mg base (L2.CX l.prog w) k fa fd [x] sp) :
    PySem.W.WalkO q loose XP YP l.row.toRowW d [] (fun f vs => PySem.call f vs) := by
  refine Att.attach_call hn hdf fun w s₀ s₁ mg mb fa o pm cd doc a vs ns G Y ho hd hcd hmg hobj hints hlen hg => ?_
  obtain ⟨K, fd, sp, KX, hb, hsp, hF⟩ := F w mg fa _ Y G.T.g hmg
  exact law_callG KX G.T.g G.T.b G.T.builtins G.T.nolimit hg hobj hints (Nat.le_trans hlen hn2) ⟨hr, guards_caller⟩ hF hb fun H hS => hsp H a ns hlen hS
end
end M
/-! MH: what the head needs of data. -/
namespace M
open PySem PySem.Spec PyProof.Rows L2
theorem vals_at : ∀ {vs : List V} {us : List Value}, Vals vs us → ∀ i : Nat, (∃ v u, vs[i]? = some v ∧ us[i]? = some u ∧ RelV v u) ∨ (vs[i]? = none ∧ us[i]? = none)
  | [], [], .nil, i => .inr ⟨by simp, by simp⟩
  | v :: vs, u :: us, .cons r t, 0 => .inl ⟨v, u, rfl, rfl, r⟩
  | v :: vs, u :: us, .cons r t, i + 1 => by simpa using vals_at t i
theorem vals_perm {vs : List V} {us : List Value} (h : Vals vs us) : ∀ is : List Nat, Vals (permL is vs) (permL is us)
  | [] => .nil
  | i :: is => by
    rw [permL_cons, permL_cons]
    rcases vals_at h i with ⟨v, u, e1, e2, r⟩ | ⟨e1, e2⟩
    · rw [e1, e2]; exact .cons r (vals_perm h is)
    · rw [e1, e2]; exact vals_perm h is
theorem vals_app : ∀ {vs vs' : List V} {us us' : List Value}, Vals vs us → Vals vs' us' → Vals (vs ++ vs') (us ++ us')
  | _, _, _, _, .nil, h => h
  | _, _, _, _, .cons r t, h => .cons r (vals_app t h)
theorem vals_take1 {vs : List V} {us : List Value} (h : Vals vs us) : Vals (vs.take 1) (us.take 1) := by
  cases h with
  | nil => exact .nil
  | cons r t => simp; exact .cons r .nil
theorem vals_drop1 {vs : List V} {us : List Value} (h : Vals vs us) : Vals (vs.drop 1) (us.drop 1) := by
  cases h with
  | nil => exact .nil
  | cons r t => exact t
/-- an instance made: the defaults it wants are not taken, or all of them -/
def gMk {α : Type} (is : List Nat) (dflt : Bool) (us its ws : List α) : List α := us.take 1 ++ permL is (us.drop 1 ++ ws ++ (if dflt then its else []))
theorem gMk_rel {is : List Nat} {dflt : Bool} {vs ds zs : List V} {us its ws : List Value} (h1 : Vals vs us) (h2 : Vals ds its) (h3 : Vals zs ws) : Vals (gMk is dflt vs ds zs) (gMk is dflt us its ws) := by
  unfold gMk
  cases dflt
  · exact vals_app (vals_take1 h1) (vals_perm (vals_app (vals_app (vals_drop1 h1) h3) .nil) is)
  · exact vals_app (vals_take1 h1) (vals_perm (vals_app (vals_app (vals_drop1 h1) h3) h2) is)
/-- a method called with keywords, keyword-only defaults filled in -/
def gKw {α : Type} (is : List Nat) (us mv ws : List α) : List α := permL is (us ++ ws ++ mv)
theorem gKw_rel {is : List Nat} {vs mz zs : List V} {us mv ws : List Value} (h1 : Vals vs us) (h2 : Vals mz mv) (h3 : Vals zs ws) : Vals (gKw is vs mz zs) (gKw is us mv ws) := vals_perm (vals_app (vals_app h1 h3) h2) is
/-- called with keywords, no defaults at all -/
theorem kbindsP {K : PySem.W.Frag} {x qual : Str} {params : Arguments} {body : List Stmt} {scope : Scope} {kws : List (Str × V)} {f : Addr} {fd : FuncData} {ps : List Str} (F : L2.FunD K x qual params body scope [] kws f fd) (n : Nat) (ks : List Str) (is : List Nat)
    (h : ∀ (kV doc pm : Value) (an : Option Addr) (cdv ct : Value) (us ws : List Value), us.length = n → ws.length = ks.length → bindArgs (PySem.W.fnOf x qual params body scope .none kV doc pm an cdv ct) ⟨us, ks.zip ws⟩ = pure (ps.zip (gKw is us [] ws))) :
    L2.KBn K fd ps n ks (fun us ws => gKw is us [] ws) (fun vs zs => gKw is vs [] zs) := by
  obtain ⟨oc, od, dV, kV, doc, pm, an, cdv, ct, osl, rfl, lk, hcd, hD, hK⟩ := F.ex
  rcases hD with ⟨_, rfl⟩ | ⟨e, _⟩
  · exact ⟨fun s us ws X l1 l2 => BindsTo.of_eq (h kV doc pm an cdv ct us ws l1 l2), fun r1 r2 => gKw_rel r1 .nil r2⟩
  · exact absurd rfl e
/-- a law's call, over data -/
theorem law_end {K : PySem.W.Frag} {ca : Cax} {sp : Spd} {H : Hp} {a : Addr} {ns : List Int} (hT : LamX.Tabs ca.tb H) (hS : (∃ o, H a = some (.frz o (.lst (ns.map V.int)))) ∨ SqL K (fun _ => none) a (ns.map V.int)) (h : sp [.scr ns] (fun r _ => r = .bl true) fun _ _ _ => False) :
    lift K ca [] sp [.ref a] H (fun v _ => v = .bl true) fun _ _ _ => False := by
  refine ⟨fun _ => False, [.scr ns], [], _, _, .cons (fp := []) (fq := []) (.scr hS) .nil, List.nodup_nil, fun _ z => z.elim, hT, fun i d e _ => ?_, h, ?_, ?_⟩
  · match i, e with
    | 0, e => cases e; rfl
  · rintro v H' F' r fr os fo _ _ _ rp _ q
    cases (show r = .bl true from q)
    cases rp
    rfl
  · rintro c x H' F' fs us xs _ _ _ _ _ z
    exact z.elim
end M
/-! MHT: the law's end with tables of code objects. -/
namespace M
open PySem PySem.Spec PyProof.Rows L2 LamX

section
variable {P : Program} {w : World} {K : PySem.W.Frag} {mg mb : Str → Option Value} {k : Nat} {fa a : Addr} {fd : FuncData} {x : Str} {sp : Sp} {s₁ : Shared} {vs : List Value} {ns : List Int} {cs : List (Addr × Addr)}
/-- from an abstract heap that holds the script at most, and the tables -/
theorem end_coreT {H : Hp} (KX : K.In s₁.heap) (hns : s₁.heap.Ns mainGlobals mg) (hb : s₁.heap.Ns builtinsNs mb) (hbb : ∀ x : Str, x ≠ "__name__" → mb x = bootBuiltins x) (hlim : s₁.heap.NoLimit) (hg : s₁.gens = #[])
    (hT : ∀ p ∈ cs, s₁.heap.get? p.2 = some { cls := .none, data := .fields #[] }) (nT : ∀ p ∈ cs, K.lookup p.2 = none) (C : ∀ p ∈ cs, PySem.W.CodeHd s₁.heap p.1 p.2)
    (hbm : ∃ (bm : Addr) (ob : Obj), mg "__builtins__" = some (.ref bm) ∧ bm ≠ builtinsNs ∧ s₁.heap.get? bm = some ob ∧ ob.cls = .type "module" ∧ ob.dict = some builtinsNs ∧ ob.data = .plain)
    (ha : s₁.heap.get? a = some { cls := .type "list", data := .seq vs.toArray }) (hr : RoomG k callerA)
    (F : ∀ base : Heap, K.In base → base.Ns mainGlobals mg → (∀ p ∈ cs, TabB base mg p.1 p.2) → FnG P w K mg base (L2.CX P w) k fa fd [x] sp) (hbind : BindsTo s₁ fd ⟨[.ref a], []⟩ [(x, .ref a)])
    (hO : ∀ b, H b = none ∨ b ∈ cs.map (·.2) ∨ ∃ o xs, H b = some (.frz o (.lst xs))) (hH : ∀ p ∈ cs, H p.2 = some (.tbl #[])) (hsp : sp [.ref a] H (fun v _ => v = .bl true) fun _ _ _ => False) (hok : HOk P w H s₁.heap) (hA : ∀ b u, H b = some u → b = a ∨ b ∈ cs.map (·.2)) (hK : ∀ u, H a = some u → K.lookup a = none) :
    codeAny (model P w) callerA (.call (.ref fa) ⟨[.ref a], []⟩) (fun r s' => r = .ok (.ret (.bool true)) ∧ OldK s₁.heap s'.heap ∧ s'.os = s₁.os ∧ AllBare s'.gens) s₁ := by
  have inT : ∀ {b : Addr}, b ∈ cs.map (·.2) → s₁.heap.get? b = some { cls := .none, data := .fields #[] } := fun {b} z => by
    obtain ⟨p, hp, rfl⟩ := List.mem_map.mp z
    exact hT p hp
  -- an object that is neither a list nor an empty table is no part of H
  have stay : ∀ {b : Addr} {o : Obj}, s₁.heap.get? b = some o → o ≠ { cls := .type "list", data := .seq vs.toArray } → o ≠ { cls := .none, data := .fields #[] } → (hidT s₁.heap H).get? b = some o := fun {b o} e n1 n2 => hidT_get e (by
    cases q : H b with
    | none => rfl
    | some u =>
      rcases hA b u q with z | z
      · rw [z, ha] at e
        exact absurd (Option.some.inj e).symm n1
      · rw [inT z] at e
        exact absurd (Option.some.inj e).symm n2)
  have stayD : ∀ {b : Addr} {m : Str → Option Value}, s₁.heap.Ns b m → (hidT s₁.heap H).Ns b m := by
    rintro b m ⟨o, es, ep, e, d, r⟩
    exact ⟨o, es, ep, stay e (fun z => by rw [z] at d; cases d) (fun z => by rw [z] at d; cases d), d, r⟩
  have inB : K.In (hidT s₁.heap H) := fun b o e => hidT_get (KX b o e) (by
    cases q : H b with
    | none => rfl
    | some u =>
      rcases hA b u q with z | z
      · rw [z] at e q
        rw [hK u q] at e
        cases e
      · obtain ⟨p, hp, rfl⟩ := List.mem_map.mp z
        rw [nT p hp] at e
        cases e)
  have TB : ∀ p ∈ cs, TabB (hidT s₁.heap H) mg p.1 p.2 := fun p hp => by
    refine ⟨?_, ?_, fun z => ?_⟩
    · obtain ⟨o, us, file, tf, fl, tg, inF, tx, tt, e1, e2, e3, e4, r⟩ := C p hp
      exact ⟨o, us, file, tf, fl, tg, inF, tx, tt, stay e1 (fun z => by rw [z] at e3; cases e3) (fun z => by rw [z] at e3; cases e3; simp at e4), e2, e3, e4, r⟩
    · obtain ⟨bm, ob, b1, b2, b3, b4, b5, b6⟩ := hbm
      refine ⟨bm, ob, b1, b2, fun z => ?_, fun z => ?_, stay b3 (fun z => by rw [z] at b6; cases b6) (fun z => by rw [z] at b6; cases b6), b4, b5, b6⟩
      · obtain ⟨o, es, ep, e, d, _⟩ := hns
        rw [z, e] at b3
        cases b3
        rw [d] at b6
        cases b6
      · rw [z, hT p hp] at b3
        cases b3
        cases b6
    · obtain ⟨o, es, ep, e, d, _⟩ := hns
      rw [z, hT p hp] at e
      cases e
      cases d
  obtain ⟨mc, l1, l2⟩ := hlim
  have e0 : Env0 P w K mg (hidT s₁.heap H) callerA [] s₁ H :=
    ⟨rfl, ⟨inB, stayD hns, ⟨mb, stayD hb, hbb⟩, ⟨mc, stayD l1, l2⟩⟩, fun b o e => of_hidT e, Nat.le_of_eq (hidT_size _ _), trivial, (fun b z => nomatch z), hok, .of_eq hg⟩
  refine codeAny_mono ((F _ inB (stayD hns) TB).run callerA [] s₁ H ⟨[.ref a], []⟩ [.ref a] [.ref a] _ _ hr e0 hbind (.cons (show RelV (.ref a) (.ref a) from rfl) .nil) hsp) fun r s' h => ?_
  rcases cr_ends h with ⟨u, rfl, v, H', os, bare, un, hok', ru, q⟩ | ⟨er, rfl, z⟩
  · have q : v = .bl true := q
    subst q
    have ru : u = .bool true := ru
    subst ru
    have key : ∀ b o, b ∉ cs.map (·.2) → s₁.heap.get? b = some o → s'.heap.get? b = some o := fun b o nb e => by
      rcases hO b with z | z | ⟨ob, xs, z⟩
      · exact un.keep b o e z (fun y => nomatch y) (by simp)
      · exact absurd z nb
      · obtain ⟨g1, _⟩ := hok b _ z
        obtain ⟨g2, _⟩ := hok' b _ (un.frzs b ob _ z)
        rw [e] at g1
        cases g1
        exact g2
    have grown : ∀ p ∈ cs, ∃ more : Array Value, s'.heap.get? p.2 = some { cls := .none, data := .fields more } := fun p hp => by
      obtain ⟨more, z⟩ := un.tbls p.2 #[] (hH p hp)
      exact ⟨_, hok' p.2 _ z⟩
    refine ⟨rfl, ⟨fun b o e => ?_, fun b o e => ?_⟩, os, bare⟩
    all_goals by_cases hm : b ∈ cs.map (·.2)
    · obtain ⟨p, hp, rfl⟩ := List.mem_map.mp hm
      obtain ⟨more, gm⟩ := grown p hp
      rw [hT p hp] at e
      cases e
      exact .inr (.inl ⟨((C p hp).tab (hT p hp)).isCodeTable, rfl, #[], more, rfl, by rw [Array.empty_append]; exact gm⟩)
    · exact .inl (key b o hm e)
    · obtain ⟨p, hp, rfl⟩ := List.mem_map.mp hm
      obtain ⟨more, gm⟩ := grown p hp
      exact ⟨_, gm⟩
    · exact ⟨o, key b o hm e⟩
  · obtain ⟨_, _, _, _, _, _, _, _, _, _, _, _, y⟩ := z
    exact y.elim
/-- the law's call from the script, with tables -/
theorem law_callGT (KX : K.In s₁.heap) (hns : s₁.heap.Ns mainGlobals mg) (hb : s₁.heap.Ns builtinsNs mb) (hbb : ∀ x : Str, x ≠ "__name__" → mb x = bootBuiltins x) (hlim : s₁.heap.NoLimit) (hg : s₁.gens = #[])
    (hT : ∀ p ∈ cs, s₁.heap.get? p.2 = some { cls := .none, data := .fields #[] }) (nT : ∀ p ∈ cs, K.lookup p.2 = none) (C : ∀ p ∈ cs, PySem.W.CodeHd s₁.heap p.1 p.2)
    (hbm : ∃ (bm : Addr) (ob : Obj), mg "__builtins__" = some (.ref bm) ∧ bm ≠ builtinsNs ∧ s₁.heap.get? bm = some ob ∧ ob.cls = .type "module" ∧ ob.dict = some builtinsNs ∧ ob.data = .plain)
    (ha : s₁.heap.get? a = some { cls := .type "list", data := .seq vs.toArray }) (hi : IntsAre vs ns) (hl : ns.length ≤ sizeLine) (hr : RoomG k callerA)
    (F : ∀ base : Heap, K.In base → base.Ns mainGlobals mg → (∀ p ∈ cs, TabB base mg p.1 p.2) → FnG P w K mg base (L2.CX P w) k fa fd [x] sp) (hbind : ∀ (s : Shared) (u : Value), BindsTo s fd ⟨[u], []⟩ [(x, u)])
    (hsp : ∀ H : Hp, (∀ p ∈ cs, H p.2 = some (.tbl #[])) → ((∃ o, H a = some (.frz o (.lst (ns.map V.int)))) ∨ SqL K (fun _ => none) a (ns.map V.int)) → sp [.ref a] H (fun v _ => v = .bl true) fun _ _ _ => False) :
    codeAny (model P w) callerA (.call (.ref fa) ⟨[.ref a], []⟩) (fun r s' => r = .ok (.ret (.bool true)) ∧ OldK s₁.heap s'.heap ∧ s'.os = s₁.os ∧ AllBare s'.gens) s₁ := by
  have rv := vals_ints hi
  let H0 : Hp := fun b => if b ∈ cs.map (·.2) then some (.tbl #[]) else none
  have aT : a ∉ cs.map (·.2) := fun z => by
    obtain ⟨p, hp, e⟩ := List.mem_map.mp z
    have := hT p hp
    rw [e, ha] at this
    cases this
  have H0T : ∀ p ∈ cs, H0 p.2 = some (.tbl #[]) := fun p hp => if_pos (List.mem_map.mpr ⟨p, hp, rfl⟩)
  have H0at : ∀ {b : Addr} {u : HO}, H0 b = some u → b ∈ cs.map (·.2) ∧ u = .tbl #[] := fun {b u} z => by
    by_cases q : b ∈ cs.map (·.2)
    · rw [show H0 b = some (.tbl #[]) from if_pos q] at z
      exact ⟨q, (Option.some.inj z).symm⟩
    · rw [show H0 b = none from if_neg q] at z
      cases z
  have H0a : H0 a = none := if_neg aT
  have okT : ∀ b, b ∈ cs.map (·.2) → s₁.heap.get? b = some { cls := .none, data := .fields #[] } := fun b hm => by
    obtain ⟨p, hp, rfl⟩ := List.mem_map.mp hm
    exact hT p hp
  cases hk : K.lookup a with
  | some o =>
    have e := KX a o hk
    rw [ha] at e
    cases e
    have hS : SqL K (fun _ => none) a (ns.map V.int) := .inr ⟨_, vs.toArray, _, hk, rfl, rfl, rfl, by rw [List.size_toArray, hi.length]; exact hl, by simpa using rv⟩
    refine end_coreT (H := H0) KX hns hb hbb hlim hg hT nT C hbm ha hr F (hbind _ _) (fun b => ?_) H0T (hsp _ H0T (.inr hS)) (fun b u z => ?_) (fun b u z => .inr (H0at z).1) fun u z => by rw [H0a] at z; cases z
    · by_cases q : b ∈ cs.map (·.2)
      · exact .inr (.inl q)
      · exact .inl (if_neg q)
    · obtain ⟨h1, rfl⟩ := H0at z
      exact okT b h1
  | none =>
    let ob : Obj := { cls := .type "list", data := .seq vs.toArray }
    have hH : ∀ {b : Addr} {u : HO}, upd H0 a (.frz ob (.lst (ns.map V.int))) b = some u → (b = a ∧ u = .frz ob (.lst (ns.map V.int))) ∨ (b ∈ cs.map (·.2) ∧ u = .tbl #[]) := fun {b u} z => by
      by_cases q : b = a
      · subst q
        rw [upd_same] at z
        exact .inl ⟨rfl, (Option.some.inj z).symm⟩
      · rw [upd_ne q] at z
        exact .inr (H0at z)
    have hHT : ∀ p ∈ cs, upd H0 a (.frz ob (.lst (ns.map V.int))) p.2 = some (.tbl #[]) := fun p hp => by
      have ne : p.2 ≠ a := fun z => aT (List.mem_map.mpr ⟨p, hp, z⟩)
      rw [upd_ne ne]
      exact H0T p hp
    refine end_coreT (H := upd H0 a (.frz ob (.lst (ns.map V.int)))) KX hns hb hbb hlim hg hT nT C hbm ha hr F (hbind _ _) (fun b => ?_) hHT (hsp _ hHT (.inl ⟨ob, upd_same⟩)) (fun b u z => ?_) (fun b u z => (hH z).imp (·.1) (·.1)) fun _ _ => hk
    · by_cases q : b = a
      · exact .inr (.inr ⟨ob, _, by rw [q]; exact upd_same⟩)
      · rw [upd_ne q]
        by_cases q2 : b ∈ cs.map (·.2)
        · exact .inr (.inl q2)
        · exact .inl (if_neg q2)
    · rcases hH z with ⟨rfl, rfl⟩ | ⟨h1, rfl⟩
      · exact ⟨ha, by rw [List.length_map]; exact hl, vs, _, rv, ha⟩
      · exact okT b h1
/-- the end of a law over a head by facts, with tables -/
theorem walk_ofGT {l : PySem.W.OpenLaw} {n k : Nat} {q : Program} {loose : List Str} {XP : (Str → Option Value) → Heap → Prop} {YP : World → Heap → Prop} {d : DefRec} {x : Str}
    (hn : l.most = some n) (hn2 : n ≤ sizeLine) (hdf : d.params.defaults = []) (hr : Room k callerA)
    (F : ∀ (w : World) (mg : Str → Option Value) (fa : Addr) (h : Heap), YP w h → h.Ns mainGlobals mg → mg d.name = some (.ref fa) →
      ∃ (K : PySem.W.Frag) (fd : FuncData) (sp : Sp) (cs : List (Addr × Addr)), K.In h ∧ (∀ p ∈ cs, h.get? p.2 = some { cls := .none, data := .fields #[] }) ∧ (∀ p ∈ cs, K.lookup p.2 = none) ∧ (∀ p ∈ cs, PySem.W.CodeHd h p.1 p.2) ∧ (∀ (s : Shared) (u : Value), BindsTo s fd ⟨[u], []⟩ [(x, u)]) ∧
        (∀ (H : Hp) (a : Addr) (ns : List Int), ns.length ≤ n → (∀ p ∈ cs, H p.2 = some (.tbl #[])) → ((∃ o, H a = some (.frz o (.lst (ns.map V.int)))) ∨ SqL K (fun _ => none) a (ns.map V.int)) → sp [.ref a] H (fun v _ => v = .bl true) fun _ _ _ => False) ∧
        ∀ base : Heap, K.In base → base.Ns mainGlobals mg → (∀ p ∈ cs, TabB base mg p.1 p.2) → FnG l.prog w K mg base (L2.CX l.prog w) k fa fd [x] sp) :
    PySem.W.WalkO q loose XP YP l.row.toRowW d [] (fun f vs => PySem.call f vs) := by
  refine Att.attach_call hn hdf fun w s₀ s₁ mg mb fa o pm cd doc a vs ns G Y ho hd hcd hmg hobj hints hlen hg => ?_
  obtain ⟨K, fd, sp, cs, KX, hT, nT, C, hb, hsp, hF⟩ := F w mg fa _ Y G.T.g hmg
  exact law_callGT KX G.T.g G.T.b G.T.builtins G.T.nolimit hg hT nT C G.T.bmain hobj hints (Nat.le_trans hlen hn2) ⟨hr, guards_caller⟩ hF hb fun H hH hS => hsp H a ns hlen hH hS
/-- empty tables at the law's call -/
theorem tabs_empty {T : List (Addr × Str)} {H : Hp} (h : ∀ p ∈ T, H p.1 = some (.tbl #[])) : Tabs T H := fun p hp => .nil (h p hp)
end
end M
/-! MW: step lemmas for M40..M50. -/
namespace M
open PySem PySem.Spec PyProof.Rows L2
theorem rd_exc {k : Nat} {c : Str} {fs : List Str} {xs : List D} : rd k (.exc c fs xs) = .exc c fs xs := rfl
section
variable {ρ ρ1 ρ2 ρ' : Sl} {K : D → Sl → Prop} {Q : D → Sl → Prop} {x y d : D} {A : Prop} {An : XN} {cs : List Str} {c c0 f : Str} {fs : List Str} {xs : List D}
/-- an exception comes out of a lambda that is looked at -/
theorem i_cgt (h1 : subd ρ ρ' = true) (h2 : caughtB An cs c = some true) (q : A) : subd ρ ρ' = true ∧ caughtB An cs c = some true ∧ A := ⟨h1, h2, q⟩
theorem i_retC {P : D → Prop} {r : D} (h : ret ρ r = some (d, ρ')) (q : P d) : ∃ d ρ', ret ρ r = some (d, ρ') ∧ P d := ⟨d, ρ', h, q⟩
theorem i_isE {P : Bool → Prop} {b : Bool} (h1 : pk ρ x = some (.exc c0 fs xs)) (h2 : caughtB An [c] c0 = some b) (q : P b) : ∃ c0 fs xs b, pk ρ x = some (.exc c0 fs xs) ∧ caughtB An [c] c0 = some b ∧ P b := ⟨c0, fs, xs, b, h1, h2, q⟩
theorem i_xf {P : D → Prop} (h1 : pk ρ x = some (.exc c fs xs)) (h2 : (An.lookup c).isSome = true) (h3 : getX f fs xs = some d) (q : P d) : ∃ c fs xs d, pk ρ x = some (.exc c fs xs) ∧ (An.lookup c).isSome = true ∧ getX f fs xs = some d ∧ P d := ⟨c, fs, xs, d, h1, h2, h3, q⟩
theorem i_cntB {o : Bool} {ds : List D} {bs : List Bool} {b : Bool} (h1 : pk ρ x = some (.lst o ds)) (h2 : bls ds = some bs) (q : K (.int (bs.countP fun y => decide (y = b) : Nat)) ρ) : nCntB ρ [x, .bl b] K := ⟨x, o, ds, bs, b, rfl, h1, h2, q⟩
/-- the exception of a try's suite -/
theorem i_exb {P Q' : Prop} {b : Bool} (h : caughtB An cs c = some b) (q1 : b = true → P) (q2 : b = false → Q') : ∃ b, caughtB An cs c = some b ∧ (b = true → P) ∧ (b = false → Q') := ⟨b, h, q1, q2⟩
theorem i_exT {P Q' : Prop} (h : caughtB An cs c = some true) (q : P) : ∃ b, caughtB An cs c = some b ∧ (b = true → P) ∧ (b = false → Q') := ⟨true, h, fun _ => q, fun z => nomatch z⟩
theorem i_idxB {o : Bool} {ds : List D} {us : List V} {j : Nat} {b : Bool} (h1 : pk ρ x = some (.lst o ds)) (h2 : scL ds = some us) (h3 : us.findIdx? (fun z => eqV z (.bl b)) = some j) (q : K (.int (j : Nat)) ρ) : nIndex ρ [x, .bl b] K := ⟨x, .bl b, _, o, ds, us, _, j, rfl, h1, h2, rfl, h3, rfl, q⟩
end
end M
/-! MHE: own classes of errors at the head. -/
namespace He6
open PySem PySem.Spec PyProof.Rows L2 He He5 M

theorem oexB_ok {c : Str} {K : PySem.W.Frag} (h : oexB c K = true) : OexC K (ga K c) := by
  obtain ⟨h1, h⟩ := ba h
  obtain ⟨h2, h⟩ := ba h
  obtain ⟨h3, h⟩ := ba h
  obtain ⟨h4, h5⟩ := ba h
  exact ⟨oexC_ok h1, eqO_ok h2, of_decide_eq_true h3, of_decide_eq_true h4, h5⟩
theorem xclB_ok {P : Program} {w : World} {K : PySem.W.Frag} {tb : List (Addr × Str)} {mg : Str → Option Value} {base : Heap} {c f : Str} {fd : FuncData} {ps : List Str} (h : xclB c f K = true) (hg : mg c = some (.ref (ga K c))) (F : FnOk P w K mg base L2.CX0 1 (fAd K (c, some "__init__")) fd ps (spXi K (ga K c) f)) (bd : Binds K fd ps []) : Xcl P w K ⟨ga K, tb⟩ mg base c f := by
  obtain ⟨h1, h⟩ := ba h
  obtain ⟨h2, h⟩ := ba h
  obtain ⟨h3, h4⟩ := ba h
  exact ⟨⟨_, fd, ps, 1, Nat.le_refl _, F, eqO_ok h2, of_decide_eq_true h3, bd⟩, oexB_ok h1, eqO_ok h4, hg⟩
theorem errCB_ok {K : PySem.W.Frag} {C : Addr} (h : errCB K C = true) : ErrC K C := by
  obtain ⟨h1, h⟩ := ba h
  obtain ⟨h2, h⟩ := ba h
  obtain ⟨h3, h⟩ := ba h
  obtain ⟨h4, h⟩ := ba h
  obtain ⟨h5, h⟩ := ba h
  obtain ⟨h6, h⟩ := ba h
  obtain ⟨h7, h⟩ := ba h
  obtain ⟨h8, h⟩ := ba h
  obtain ⟨h9, h10⟩ := ba h
  exact ⟨eqO_ok h1, eqO_ok h2, of_decide_eq_true h3, h4, eqO_ok h5, eqO_ok h6, of_decide_eq_true h7, of_decide_eq_true h8, eqO_ok h9, eqO_ok h10⟩
theorem errB_ok {An : XN} {K : PySem.W.Frag} {tb : List (Addr × Str)} (h : errB An K = true) : ErrK K ⟨ga K, tb⟩ An := by
  obtain ⟨h1, h2⟩ := ba h
  refine ⟨fun p hp => errCB_ok (List.all_eq_true.mp h1 p hp), fun p hp q hq => ?_, fun p hp q hq => ?_⟩
  · exact of_decide_eq_true (ba (List.all_eq_true.mp (List.all_eq_true.mp h2 p hp) q hq)).1
  · exact of_decide_eq_true (ba (List.all_eq_true.mp (List.all_eq_true.mp h2 p hp) q hq)).2
theorem tbk_ok {K : PySem.W.Frag} {ca : Cax} {mg : Str → Option Value} {base : Heap} {nm x qual : Str} {p : Defn} {params : Arguments} {body : List Stmt} {scope : Scope} {dvs : List V} {kws : List (Str × V)} {fd : FuncData} (FD : FunD K x qual params body scope dvs kws (fAd K p) fd)
    (TB : LamX.TabB base mg (cT K p).1 (cT K p).2) (hm : ((cT K p).2, nm) ∈ ca.tb) (hu : ∀ q ∈ ca.tb, q.1 = (cT K p).2 → q.2 = nm) : TbK K ca mg base (fAd K p) nm := by
  obtain ⟨oc, od, dV, kV, doc, pm, an, cdv, ct, osl, rfl, lk, hcd, dflt, kwdf⟩ := FD.ex
  obtain ⟨c, ec⟩ := codeIn_ref hcd
  refine ⟨(cT K p).1, (cT K p).2, fun oc' od' fd' osl' lk' => ?_, TB, hm, hu⟩
  have e1 : codeOf K p = c := codeOf_eq lk ec
  rw [lk] at lk'
  cases lk'
  show cdv = .ref (codeOf K p)
  rw [ec, e1]
end He6
/-! MYH: what follows from MY0's. -/
namespace He6
open PySem PySem.Spec PyProof.Rows L2 He He5 M PySem.SdX

theorem oexAB_ok {c : Str} {K : PySem.W.Frag} (h : oexAB c K = true) : OexA K (ga K c) := by
  obtain ⟨h1, h⟩ := ba h
  obtain ⟨h2, h⟩ := ba h
  obtain ⟨h3, h⟩ := ba h
  obtain ⟨h4, h5⟩ := ba h
  rcases Bool.or_eq_true_iff.mp h1 with h1 | h1
  · exact ⟨_, _, _, _, sideV, oexSC_ok h1, eqO_ok h2, of_decide_eq_true h3, of_decide_eq_true h4, h5⟩
  · rcases Bool.or_eq_true_iff.mp h1 with h1 | h1
    · exact ⟨_, _, _, _, sideL, oexSC_ok h1, eqO_ok h2, of_decide_eq_true h3, of_decide_eq_true h4, h5⟩
    · exact ⟨_, _, _, _, sideA, oexSC_ok h1, eqO_ok h2, of_decide_eq_true h3, of_decide_eq_true h4, h5⟩
theorem xclAB_ok {P : Program} {w : World} {K : PySem.W.Frag} {tb : List (Addr × Str)} {mg : Str → Option Value} {base : Heap} {c f : Str} {fd : FuncData} {ps : List Str} (h : xclAB c f K = true) (hg : mg c = some (.ref (ga K c))) (F : FnOk P w K mg base L2.CX0 1 (fAd K (c, some "__init__")) fd ps (spXiA K (ga K c) f)) (bd : Binds K fd ps [])
    (kb : KBn K fd ps 1 [f] (fun us ws => permL [0, 1] (us ++ ws ++ [])) (fun vs zs => permL [0, 1] (vs ++ zs ++ []))) : XclA P w K ⟨ga K, tb⟩ mg base c f := by
  obtain ⟨h1, h⟩ := ba h
  obtain ⟨h2, h⟩ := ba h
  obtain ⟨h3, h4⟩ := ba h
  exact ⟨⟨_, fd, ps, F, eqO_ok h2, of_decide_eq_true h3, bd, kb⟩, oexAB_ok h1, eqO_ok h4, hg⟩
theorem xcl0B_ok {P : Program} {w : World} {K : PySem.W.Frag} {tb : List (Addr × Str)} {mg : Str → Option Value} {base : Heap} {c : Str} {fd : FuncData} (h : xcl0B c K = true) (hg : mg c = some (.ref (ga K c))) (F : FnOk P w K mg base L2.CX0 1 (fAd K (c, some "__init__")) fd ["self"] (spXi0 (ga K c))) (bd : Binds K fd ["self"] []) : Xcl0 P w K ⟨ga K, tb⟩ mg base c := by
  obtain ⟨h1, h⟩ := ba h
  obtain ⟨h2, h3⟩ := ba h
  exact ⟨⟨_, fd, F, eqO_ok h2, of_decide_eq_true h3, bd⟩, oexAB_ok h1, hg⟩
theorem errTB_ok {An : XN} {Bn : XT} {K : PySem.W.Frag} {tb : List (Addr × Str)} (h : errTB An Bn K = true) : ErrT K ⟨ga K, tb⟩ An Bn :=
  ⟨fun p hp T hT => of_decide_eq_true (List.all_eq_true.mp (List.all_eq_true.mp h p hp) T hT)⟩
end He6
namespace L
open PySem PySem.Spec PyProof.Rows L2
open M
abbrev cx (K : PySem.W.Frag) : Cax := ⟨He.ga K, []⟩
section
variable {P : Program} {w : World} {K : PySem.W.Frag} {ca : Cax} {mg : Str → Option Value} {base : Heap} {f : Addr} {fd : FuncData}
theorem sc__law_pot : FnScope ["_law_cell_here", "_law_great"] ["_law_cell_here"] (defScope s__law_pot) := ⟨rfl, rfl, rfl, by decide +kernel, rfl, by decide +kernel, by decide +kernel⟩
theorem ok__law_pot {sp : Spd} {dvs0 : List V} {kws0 : List (Str × V)} (F : FunD K "_law_pot" "_law_pot" (defArgs s__law_pot) (defBody s__law_pot) (defScope s__law_pot) dvs0 kws0 f fd) (B : Bt mg)
    (hlen : ∀ ds Qd Ed, sp ds Qd Ed → ds.length = 1) (hw : ∀ ds Qd Ed, sp ds Qd Ed → w__law_pot (fun c fs xs _ => Ed c fs xs) (endD [] Qd) (startD ["_law_cell_here", "_law_great"] ds)) :
    FnG P w K mg base (L2.CX P w) 1 f fd ["_law_cell_here"] (lift K ca [] sp) := by
  refine fn_lift (k := 0) F sc__law_pot (by decide) hlen (w__law_pot) (fun cdv A outer s H E hr G Ex hK hca hpm lk => ?_) hw
  have hU := hr.rm.units
  have hU5 : (A.deeper (envOfC "_law_pot" (defScope s__law_pot) s.heap.objs.size f cdv)).units + 65 < cLine := by have := hr.rm.un; omega
  subst hK hca
  exact (ds_cons (ds_asg (d_abs (hg := by rfl) (hm := B.abs) (ha := (da_cons (le_var (pv 0)) da_nil))) (dg_name sc__law_pot.nd rfl (by first | exact .inl rfl | exact .inr rfl) (pmne hpm)))
  (ds_one (ds_ret (d_lst (da_cons (d_mod (d_int1 (hg := by rfl) (hm := B.int) (ha := (da_cons (d_add rfl (d_mul (le_var (pv 0)) d_int) d_int) da_nil))) d_int) (da_cons (d_if (dt_cm c_ge (le_var (pv 1)) (d_pow d_int d_int)) (le_var (pv 1)) d_int) (da_cons d_int da_nil)))))))
theorem sc__law_cell : FnScope ["_law_cells", "_law_k", "_law_mixed", "_law_each"] ["_law_cells", "_law_k"] (defScope s__law_cell) := ⟨rfl, rfl, rfl, by decide +kernel, rfl, by decide +kernel, by decide +kernel⟩
theorem ok__law_cell {sp : Spd} {dvs0 : List V} {kws0 : List (Str × V)} (F : FunD K "_law_cell" "_law_cell" (defArgs s__law_cell) (defBody s__law_cell) (defScope s__law_cell) dvs0 kws0 f fd) (B : Bt mg)
    (hlen : ∀ ds Qd Ed, sp ds Qd Ed → ds.length = 2) (hw : ∀ ds Qd Ed, sp ds Qd Ed → w__law_cell (fun c fs xs _ => Ed c fs xs) (endD [] Qd) (startD ["_law_cells", "_law_k", "_law_mixed", "_law_each"] ds)) :
    FnG P w K mg base (L2.CX P w) 1 f fd ["_law_cells", "_law_k"] (lift K ca [] sp) := by
  refine fn_lift (k := 0) F sc__law_cell (by decide) hlen (w__law_cell) (fun cdv A outer s H E hr G Ex hK hca hpm lk => ?_) hw
  have hU := hr.rm.units
  have hU5 : (A.deeper (envOfC "_law_cell" (defScope s__law_cell) s.heap.objs.size f cdv)).units + 65 < cLine := by have := hr.rm.un; omega
  subst hK hca
  exact (ds_cons (ds_if (dt_cm c_lt (le_var (pv 1)) (d_lenS (by rfl) (by rfl) B.len (da_cons (le_var (pv 0)) da_nil))) (ds_one (ds_ret (d_ixS rfl (le_var (pv 0)) (le_var (pv 1))))) ds_nil)
  (ds_cons (ds_asg (d_add rfl d_int (d_mul (d_mul d_int (le_var (pv 1))) (le_var (pv 1)))) (dg_name sc__law_cell.nd rfl (by first | exact .inl rfl | exact .inr rfl) (pmne hpm)))
  (ds_cons (ds_fg (vs := [3]) (ds_fg0 (vs := [3]) (ds_for (L2.passes_of rfl) rfl (di_any rfl (d_slS rfl (le_var (pv 0)) do_none (do_some d_int))) (dg_name sc__law_cell.nd rfl (by first | exact .inl rfl | exact .inr rfl) (pmne hpm))
  (dss_fg (vs := [3]) (ds_one (ds_asg (d_mod (d_int1 (hg := by rfl) (hm := B.int) (ha := (da_cons (d_add rfl (d_mul (le_var (pv 2)) d_int) (le_var (pv 3))) da_nil))) d_int) (dg_name sc__law_cell.nd rfl (by first | exact .inl rfl | exact .inr rfl) (pmne hpm))))))))
  (ds_one (ds_ret (le_var (pv 2)))))))
theorem sc__law_with_given : FnScope ["_law_k", "_law_thing_here", "_law_by_name"] ["_law_k", "_law_thing_here", "_law_by_name"] (defScope s__law_with_given) := ⟨rfl, rfl, rfl, by decide +kernel, rfl, by decide +kernel, by decide +kernel⟩
theorem ok__law_with_given {sp : Spd} {dvs0 : List V} {kws0 : List (Str × V)} (F : FunD K "_law_with_given" "_law_with_given" (defArgs s__law_with_given) (defBody s__law_with_given) (defScope s__law_with_given) dvs0 kws0 f fd) (B : Bt mg) (xa_InvalidText : XclA P w K ca mg base "InvalidText" "given") (xa_InvalidName : XclA P w K ca mg base "InvalidName" "given") (xa_InvalidNumber : XclA P w K ca mg base "InvalidNumber" "given") (xa_InvalidOrder : XclA P w K ca mg base "InvalidOrder" "given") (xa_InvalidWho : XclA P w K ca mg base "InvalidWho" "given") (xa_InvalidPlace : XclA P w K ca mg base "InvalidPlace" "given") (xa_InvalidChange : XclA P w K ca mg base "InvalidChange" "given") (xa_InvalidWish : XclA P w K ca mg base "InvalidWish" "given") (xa_InvalidIndex : XclA P w K ca mg base "InvalidIndex" "given") (xa_NotAPlan : XclA P w K ca mg base "NotAPlan" "given") (xa_OtherKind : XclA P w K ca mg base "OtherKind" "given") (xa_UnknownName : XclA P w K ca mg base "UnknownName" "given")
    (hlen : ∀ ds Qd Ed, sp ds Qd Ed → ds.length = 3) (hw : ∀ ds Qd Ed, sp ds Qd Ed → w__law_with_given (fun c fs xs _ => Ed c fs xs) (endD [] Qd) (startD ["_law_k", "_law_thing_here", "_law_by_name"] ds)) :
    FnG P w K mg base (L2.CX P w) 3 f fd ["_law_k", "_law_thing_here", "_law_by_name"] (lift K ca [] sp) := by
  refine fn_lift (k := 2) F sc__law_with_given (by decide) hlen (w__law_with_given) (fun cdv A outer s H E hr G Ex hK hca hpm lk => ?_) hw
  have hU := hr.rm.units
  have hU5 : (A.deeper (envOfC "_law_with_given" (defScope s__law_with_given) s.heap.objs.size f cdv)).units + 65 < cLine := by have := hr.rm.un; omega
  subst hK hca
  exact (ds_cons (ds_if (dt_cm (c_eq rfl hU) (le_var (pv 0)) d_int) (ds_one (ds_ret (d_if (dt_truth (le_var (pv 2)) rfl) (d_mkEK xa_InvalidText hr (le_var (pv 1))) (d_mkE xa_InvalidText hr (le_var (pv 1)))))) ds_nil)
  (ds_cons (ds_if (dt_cm (c_eq rfl hU) (le_var (pv 0)) d_int) (ds_one (ds_ret (d_if (dt_truth (le_var (pv 2)) rfl) (d_mkEK xa_InvalidName hr (le_var (pv 1))) (d_mkE xa_InvalidName hr (le_var (pv 1)))))) ds_nil)
  (ds_cons (ds_if (dt_cm (c_eq rfl hU) (le_var (pv 0)) d_int) (ds_one (ds_ret (d_if (dt_truth (le_var (pv 2)) rfl) (d_mkEK xa_InvalidNumber hr (le_var (pv 1))) (d_mkE xa_InvalidNumber hr (le_var (pv 1)))))) ds_nil)
  (ds_cons (ds_if (dt_cm (c_eq rfl hU) (le_var (pv 0)) d_int) (ds_one (ds_ret (d_if (dt_truth (le_var (pv 2)) rfl) (d_mkEK xa_InvalidOrder hr (le_var (pv 1))) (d_mkE xa_InvalidOrder hr (le_var (pv 1)))))) ds_nil)
  (ds_cons (ds_if (dt_cm (c_eq rfl hU) (le_var (pv 0)) d_int) (ds_one (ds_ret (d_if (dt_truth (le_var (pv 2)) rfl) (d_mkEK xa_InvalidWho hr (le_var (pv 1))) (d_mkE xa_InvalidWho hr (le_var (pv 1)))))) ds_nil)
  (ds_cons (ds_if (dt_cm (c_eq rfl hU) (le_var (pv 0)) d_int) (ds_one (ds_ret (d_if (dt_truth (le_var (pv 2)) rfl) (d_mkEK xa_InvalidPlace hr (le_var (pv 1))) (d_mkE xa_InvalidPlace hr (le_var (pv 1)))))) ds_nil)
  (ds_cons (ds_if (dt_cm (c_eq rfl hU) (le_var (pv 0)) d_int) (ds_one (ds_ret (d_if (dt_truth (le_var (pv 2)) rfl) (d_mkEK xa_InvalidChange hr (le_var (pv 1))) (d_mkE xa_InvalidChange hr (le_var (pv 1)))))) ds_nil)
  (ds_cons (ds_if (dt_cm (c_eq rfl hU) (le_var (pv 0)) d_int) (ds_one (ds_ret (d_if (dt_truth (le_var (pv 2)) rfl) (d_mkEK xa_InvalidWish hr (le_var (pv 1))) (d_mkE xa_InvalidWish hr (le_var (pv 1)))))) ds_nil)
  (ds_cons (ds_if (dt_cm (c_eq rfl hU) (le_var (pv 0)) d_int) (ds_one (ds_ret (d_if (dt_truth (le_var (pv 2)) rfl) (d_mkEK xa_InvalidIndex hr (le_var (pv 1))) (d_mkE xa_InvalidIndex hr (le_var (pv 1)))))) ds_nil)
  (ds_cons (ds_if (dt_cm (c_eq rfl hU) (le_var (pv 0)) d_int) (ds_one (ds_ret (d_if (dt_truth (le_var (pv 2)) rfl) (d_mkEK xa_NotAPlan hr (le_var (pv 1))) (d_mkE xa_NotAPlan hr (le_var (pv 1)))))) ds_nil)
  (ds_cons (ds_if (dt_cm (c_eq rfl hU) (le_var (pv 0)) d_int) (ds_one (ds_ret (d_if (dt_truth (le_var (pv 2)) rfl) (d_mkEK xa_OtherKind hr (le_var (pv 1))) (d_mkE xa_OtherKind hr (le_var (pv 1)))))) ds_nil)
  (ds_one (ds_ret (d_if (dt_truth (le_var (pv 2)) rfl) (d_mkEK xa_UnknownName hr (le_var (pv 1))) (d_mkE xa_UnknownName hr (le_var (pv 1)))))))))))))))))
theorem sc__law_sorts : FnScope ["_law_e", "_law_found"] ["_law_e"] (defScope s__law_sorts) := ⟨rfl, rfl, rfl, by decide +kernel, rfl, by decide +kernel, by decide +kernel⟩
theorem ok__law_sorts {sp : Spd} {dvs0 : List V} {kws0 : List (Str × V)} (F : FunD K "_law_sorts" "_law_sorts" (defArgs s__law_sorts) (defBody s__law_sorts) (defScope s__law_sorts) dvs0 kws0 f fd) (B : Bt mg) (ek : ErrK K ca An) (mc_InvalidNumber : mg "InvalidNumber" = some (.ref (ca "InvalidNumber"))) (mc_InvalidName : mg "InvalidName" = some (.ref (ca "InvalidName"))) (mc_InvalidText : mg "InvalidText" = some (.ref (ca "InvalidText"))) (mc_InvalidPlace : mg "InvalidPlace" = some (.ref (ca "InvalidPlace"))) (mc_InvalidWho : mg "InvalidWho" = some (.ref (ca "InvalidWho"))) (mc_InvalidOrder : mg "InvalidOrder" = some (.ref (ca "InvalidOrder"))) (mc_InvalidIndex : mg "InvalidIndex" = some (.ref (ca "InvalidIndex"))) (mc_InvalidWish : mg "InvalidWish" = some (.ref (ca "InvalidWish"))) (mc_InvalidChange : mg "InvalidChange" = some (.ref (ca "InvalidChange"))) (mc_UnknownName : mg "UnknownName" = some (.ref (ca "UnknownName"))) (mc_OtherKind : mg "OtherKind" = some (.ref (ca "OtherKind"))) (mc_NotAPlan : mg "NotAPlan" = some (.ref (ca "NotAPlan"))) (mc_InvalidPlaces : mg "InvalidPlaces" = some (.ref (ca "InvalidPlaces"))) (mc_InvalidMatches : mg "InvalidMatches" = some (.ref (ca "InvalidMatches"))) (mc_InvalidEntries : mg "InvalidEntries" = some (.ref (ca "InvalidEntries"))) (mc_InvalidThrows : mg "InvalidThrows" = some (.ref (ca "InvalidThrows"))) (mc_InvalidUpsets : mg "InvalidUpsets" = some (.ref (ca "InvalidUpsets"))) (mc_InvalidKnown : mg "InvalidKnown" = some (.ref (ca "InvalidKnown"))) (mc_InUse : mg "InUse" = some (.ref (ca "InUse"))) (mc_InvalidWishes : mg "InvalidWishes" = some (.ref (ca "InvalidWishes"))) (mc_InvalidChanges : mg "InvalidChanges" = some (.ref (ca "InvalidChanges"))) (mc_NothingToUndo : mg "NothingToUndo" = some (.ref (ca "NothingToUndo"))) (mc_Broken : mg "Broken" = some (.ref (ca "Broken")))
    (hlen : ∀ ds Qd Ed, sp ds Qd Ed → ds.length = 1) (hw : ∀ ds Qd Ed, sp ds Qd Ed → w__law_sorts (fun c fs xs _ => Ed c fs xs) (endD [] Qd) (startD ["_law_e", "_law_found"] ds)) :
    FnG P w K mg base (L2.CX P w) 1 f fd ["_law_e"] (lift K ca [] sp) := by
  refine fn_lift (k := 0) F sc__law_sorts (by decide) hlen (w__law_sorts) (fun cdv A outer s H E hr G Ex hK hca hpm lk => ?_) hw
  have hU := hr.rm.units
  have hU5 : (A.deeper (envOfC "_law_sorts" (defScope s__law_sorts) s.heap.objs.size f cdv)).units + 65 < cLine := by have := hr.rm.un; omega
  subst hK hca
  exact (ds_cons (ds_asg (d_lst (da_cons (d_isE ek (by decide +kernel) mc_InvalidText (by rfl) B.isinstance (le_var (pv 0))) (da_cons (d_isE ek (by decide +kernel) mc_InvalidName (by rfl) B.isinstance (le_var (pv 0))) (da_cons (d_isE ek (by decide +kernel) mc_InvalidNumber (by rfl) B.isinstance (le_var (pv 0))) da_nil)))) (dg_name sc__law_sorts.nd rfl (by first | exact .inl rfl | exact .inr rfl) (pmne hpm)))
  (ds_cons (ds_asg (d_add rfl (le_var (pv 1)) (d_lst (da_cons (d_isE ek (by decide +kernel) mc_InvalidOrder (by rfl) B.isinstance (le_var (pv 0))) (da_cons (d_isE ek (by decide +kernel) mc_InvalidWho (by rfl) B.isinstance (le_var (pv 0))) (da_cons (d_isE ek (by decide +kernel) mc_InvalidPlace (by rfl) B.isinstance (le_var (pv 0))) da_nil))))) (dg_name sc__law_sorts.nd rfl (by first | exact .inl rfl | exact .inr rfl) (pmne hpm)))
  (ds_cons (ds_asg (d_add rfl (le_var (pv 1)) (d_lst (da_cons (d_isE ek (by decide +kernel) mc_InvalidChange (by rfl) B.isinstance (le_var (pv 0))) (da_cons (d_isE ek (by decide +kernel) mc_InvalidWish (by rfl) B.isinstance (le_var (pv 0))) (da_cons (d_isE ek (by decide +kernel) mc_InvalidIndex (by rfl) B.isinstance (le_var (pv 0))) da_nil))))) (dg_name sc__law_sorts.nd rfl (by first | exact .inl rfl | exact .inr rfl) (pmne hpm)))
  (ds_cons (ds_asg (d_add rfl (le_var (pv 1)) (d_lst (da_cons (d_isE ek (by decide +kernel) mc_NotAPlan (by rfl) B.isinstance (le_var (pv 0))) (da_cons (d_isE ek (by decide +kernel) mc_OtherKind (by rfl) B.isinstance (le_var (pv 0))) (da_cons (d_isE ek (by decide +kernel) mc_UnknownName (by rfl) B.isinstance (le_var (pv 0))) da_nil))))) (dg_name sc__law_sorts.nd rfl (by first | exact .inl rfl | exact .inr rfl) (pmne hpm)))
  (ds_cons (ds_asg (d_add rfl (le_var (pv 1)) (d_lst (da_cons (d_isE ek (by decide +kernel) mc_InvalidEntries (by rfl) B.isinstance (le_var (pv 0))) (da_cons (d_isE ek (by decide +kernel) mc_InvalidMatches (by rfl) B.isinstance (le_var (pv 0))) (da_cons (d_isE ek (by decide +kernel) mc_InvalidPlaces (by rfl) B.isinstance (le_var (pv 0))) da_nil))))) (dg_name sc__law_sorts.nd rfl (by first | exact .inl rfl | exact .inr rfl) (pmne hpm)))
  (ds_cons (ds_asg (d_add rfl (le_var (pv 1)) (d_lst (da_cons (d_isE ek (by decide +kernel) mc_InvalidKnown (by rfl) B.isinstance (le_var (pv 0))) (da_cons (d_isE ek (by decide +kernel) mc_InvalidUpsets (by rfl) B.isinstance (le_var (pv 0))) (da_cons (d_isE ek (by decide +kernel) mc_InvalidThrows (by rfl) B.isinstance (le_var (pv 0))) da_nil))))) (dg_name sc__law_sorts.nd rfl (by first | exact .inl rfl | exact .inr rfl) (pmne hpm)))
  (ds_cons (ds_asg (d_add rfl (le_var (pv 1)) (d_lst (da_cons (d_isE ek (by decide +kernel) mc_InvalidChanges (by rfl) B.isinstance (le_var (pv 0))) (da_cons (d_isE ek (by decide +kernel) mc_InvalidWishes (by rfl) B.isinstance (le_var (pv 0))) (da_cons (d_isE ek (by decide +kernel) mc_InUse (by rfl) B.isinstance (le_var (pv 0))) da_nil))))) (dg_name sc__law_sorts.nd rfl (by first | exact .inl rfl | exact .inr rfl) (pmne hpm)))
  (ds_one (ds_ret (d_add rfl (le_var (pv 1)) (d_lst (da_cons (d_isE ek (by decide +kernel) mc_Broken (by rfl) B.isinstance (le_var (pv 0))) (da_cons (d_isE ek (by decide +kernel) mc_NothingToUndo (by rfl) B.isinstance (le_var (pv 0))) da_nil)))))))))))))
theorem sc__law_is_of : FnScope ["_law_e", "_law_k", "_law_at", "_law_spot", "_law_bases", "_law_own"] ["_law_e", "_law_k"] (defScope s__law_is_of) := ⟨rfl, rfl, rfl, by decide +kernel, rfl, by decide +kernel, by decide +kernel⟩
theorem ok__law_is_of (sp__law_sorts : Spd) {sp : Spd} {dvs0 : List V} {kws0 : List (Str × V)} (F : FunD K "_law_is_of" "_law_is_of" (defArgs s__law_is_of) (defBody s__law_is_of) (defScope s__law_is_of) dvs0 kws0 f fd) (B : Bt mg) (c__law_sorts : Cal P w K ca mg base 1 "_law_sorts" [] sp__law_sorts) (ek : ErrK K ca An) (mc_NoAnswer : mg "NoAnswer" = some (.ref (ca "NoAnswer"))) (mc_BadName : mg "BadName" = some (.ref (ca "BadName"))) (mc_BadValue : mg "BadValue" = some (.ref (ca "BadValue"))) (et : ErrT K ca An Bn) (bn_ArithmeticError : mg "ArithmeticError" = none) (bn_LookupError : mg "LookupError" = none) (bn_ValueError : mg "ValueError" = none)
    (hlen : ∀ ds Qd Ed, sp ds Qd Ed → ds.length = 2) (hw : ∀ ds Qd Ed, sp ds Qd Ed → w__law_is_of sp__law_sorts (fun c fs xs _ => Ed c fs xs) (endD [] Qd) (startD ["_law_e", "_law_k", "_law_at", "_law_spot", "_law_bases", "_law_own"] ds)) :
    FnG P w K mg base (L2.CX P w) 2 f fd ["_law_e", "_law_k"] (lift K ca [] sp) := by
  refine fn_lift (k := 1) F sc__law_is_of (by decide) hlen (w__law_is_of sp__law_sorts) (fun cdv A outer s H E hr G Ex hK hca hpm lk => ?_) hw
  have hU := hr.rm.units
  have hU5 : (A.deeper (envOfC "_law_is_of" (defScope s__law_is_of) s.heap.objs.size f cdv)).units + 65 < cLine := by have := hr.rm.un; omega
  subst hK hca
  exact (ds_cons (ds_if (dt_cm (c_ne rfl hU) (d_c c__law_sorts hr (da_cons (le_var (pv 0)) da_nil)) (d_lc (X := cxOf (L2.CX P w) P w G.K mg base _ _ _ f cdv A outer s H E) rfl sc__law_is_of.nd (di_r1 (by rfl) B.range (da_cons d_int da_nil)) (blkOk_by (own := [("_law_at", 2)]) (N := ["_law_e", "_law_k", "_law_at", "_law_spot", "_law_bases", "_law_own"]) (sc := defScope s__law_is_of) (by decide +kernel)) (fun s1 H1 C1 l1 p1 => (dg_name sc__law_is_of.nd rfl (by first | exact .inl rfl | exact .inr rfl) (pmne hpm))) (fun s1 H1 C1 l1 p1 => dpt_nil) (fun s1 H1 C1 l1 p1 => (d_cm (c_eq rfl hU) (le_var (pv 2)) (le_var (pv 1)))) (by decide) (pmni hpm) )) (ds_one (ds_ret d_bl)) ds_nil)
  (ds_cons (ds_asg (d_if (dt_cm (c_inB rfl hU5) (le_var (pv 1)) (d_lst (da_cons d_int (da_cons d_int da_nil)))) d_int (d_if (dt_cm c_gt (le_var (pv 1)) d_int) d_int d_int)) (dg_name sc__law_is_of.nd rfl (by first | exact .inl rfl | exact .inr rfl) (pmne hpm)))
  (ds_cons (ds_asg (d_lst (da_cons (d_isE ek (by decide +kernel) mc_BadValue (by rfl) B.isinstance (le_var (pv 0))) (da_cons (d_isE ek (by decide +kernel) mc_BadName (by rfl) B.isinstance (le_var (pv 0))) (da_cons (d_isE ek (by decide +kernel) mc_NoAnswer (by rfl) B.isinstance (le_var (pv 0))) da_nil)))) (dg_name sc__law_is_of.nd rfl (by first | exact .inl rfl | exact .inr rfl) (pmne hpm)))
  (ds_cons (ds_asg (d_lst (da_cons (d_isET (x := "ValueError") ek et (by decide) (by rfl) B.isinstance (by rfl) bn_ValueError (by decide +kernel) (le_var (pv 0))) (da_cons (d_isET (x := "LookupError") ek et (by decide) (by rfl) B.isinstance (by rfl) bn_LookupError (by decide +kernel) (le_var (pv 0))) (da_cons (d_isET (x := "ArithmeticError") ek et (by decide) (by rfl) B.isinstance (by rfl) bn_ArithmeticError (by decide +kernel) (le_var (pv 0))) da_nil)))) (dg_name sc__law_is_of.nd rfl (by first | exact .inl rfl | exact .inr rfl) (pmne hpm)))
  (ds_one (ds_ret (d_and (d_cm (c_eq rfl hU) (le_var (pv 4)) (d_lc (X := cxOf (L2.CX P w) P w G.K mg base _ _ _ f cdv A outer s H E) rfl sc__law_is_of.nd (di_r1 (by rfl) B.range (da_cons d_int da_nil)) (blkOk_by (own := [("_law_at", 2)]) (N := ["_law_e", "_law_k", "_law_at", "_law_spot", "_law_bases", "_law_own"]) (sc := defScope s__law_is_of) (by decide +kernel)) (fun s1 H1 C1 l1 p1 => (dg_name sc__law_is_of.nd rfl (by first | exact .inl rfl | exact .inr rfl) (pmne hpm))) (fun s1 H1 C1 l1 p1 => dpt_nil) (fun s1 H1 C1 l1 p1 => (d_cm (c_eq rfl hU) (le_var (pv 2)) (le_var (pv 3)))) (by decide) (pmni hpm) )) (d_one (d_ixA hU rfl (le_var (pv 5)) (le_var (pv 3)))))))))))
theorem sc__law_with_index : FnScope ["_law_k", "_law_thing_here", "_law_by_name"] ["_law_k", "_law_thing_here", "_law_by_name"] (defScope s__law_with_index) := ⟨rfl, rfl, rfl, by decide +kernel, rfl, by decide +kernel, by decide +kernel⟩
theorem ok__law_with_index {sp : Spd} {dvs0 : List V} {kws0 : List (Str × V)} (F : FunD K "_law_with_index" "_law_with_index" (defArgs s__law_with_index) (defBody s__law_with_index) (defScope s__law_with_index) dvs0 kws0 f fd) (B : Bt mg) (xa_InvalidEntries : XclA P w K ca mg base "InvalidEntries" "index") (xa_InvalidMatches : XclA P w K ca mg base "InvalidMatches" "index") (xa_InvalidPlaces : XclA P w K ca mg base "InvalidPlaces" "index") (xa_InvalidKnown : XclA P w K ca mg base "InvalidKnown" "index") (xa_InvalidUpsets : XclA P w K ca mg base "InvalidUpsets" "index") (xa_InvalidThrows : XclA P w K ca mg base "InvalidThrows" "index") (xa_InvalidChanges : XclA P w K ca mg base "InvalidChanges" "index") (xa_InvalidWishes : XclA P w K ca mg base "InvalidWishes" "index") (xa_InUse : XclA P w K ca mg base "InUse" "index") (xa_Broken : XclA P w K ca mg base "Broken" "index")
    (hlen : ∀ ds Qd Ed, sp ds Qd Ed → ds.length = 3) (hw : ∀ ds Qd Ed, sp ds Qd Ed → w__law_with_index (fun c fs xs _ => Ed c fs xs) (endD [] Qd) (startD ["_law_k", "_law_thing_here", "_law_by_name"] ds)) :
    FnG P w K mg base (L2.CX P w) 3 f fd ["_law_k", "_law_thing_here", "_law_by_name"] (lift K ca [] sp) := by
  refine fn_lift (k := 2) F sc__law_with_index (by decide) hlen (w__law_with_index) (fun cdv A outer s H E hr G Ex hK hca hpm lk => ?_) hw
  have hU := hr.rm.units
  have hU5 : (A.deeper (envOfC "_law_with_index" (defScope s__law_with_index) s.heap.objs.size f cdv)).units + 65 < cLine := by have := hr.rm.un; omega
  subst hK hca
  exact (ds_cons (ds_if (dt_cm (c_eq rfl hU) (le_var (pv 0)) d_int) (ds_one (ds_ret (d_if (dt_truth (le_var (pv 2)) rfl) (d_mkEK xa_InvalidEntries hr (le_var (pv 1))) (d_mkE xa_InvalidEntries hr (le_var (pv 1)))))) ds_nil)
  (ds_cons (ds_if (dt_cm (c_eq rfl hU) (le_var (pv 0)) d_int) (ds_one (ds_ret (d_if (dt_truth (le_var (pv 2)) rfl) (d_mkEK xa_InvalidMatches hr (le_var (pv 1))) (d_mkE xa_InvalidMatches hr (le_var (pv 1)))))) ds_nil)
  (ds_cons (ds_if (dt_cm (c_eq rfl hU) (le_var (pv 0)) d_int) (ds_one (ds_ret (d_if (dt_truth (le_var (pv 2)) rfl) (d_mkEK xa_InvalidPlaces hr (le_var (pv 1))) (d_mkE xa_InvalidPlaces hr (le_var (pv 1)))))) ds_nil)
  (ds_cons (ds_if (dt_cm (c_eq rfl hU) (le_var (pv 0)) d_int) (ds_one (ds_ret (d_if (dt_truth (le_var (pv 2)) rfl) (d_mkEK xa_InvalidKnown hr (le_var (pv 1))) (d_mkE xa_InvalidKnown hr (le_var (pv 1)))))) ds_nil)
  (ds_cons (ds_if (dt_cm (c_eq rfl hU) (le_var (pv 0)) d_int) (ds_one (ds_ret (d_if (dt_truth (le_var (pv 2)) rfl) (d_mkEK xa_InvalidUpsets hr (le_var (pv 1))) (d_mkE xa_InvalidUpsets hr (le_var (pv 1)))))) ds_nil)
  (ds_cons (ds_if (dt_cm (c_eq rfl hU) (le_var (pv 0)) d_int) (ds_one (ds_ret (d_if (dt_truth (le_var (pv 2)) rfl) (d_mkEK xa_InvalidThrows hr (le_var (pv 1))) (d_mkE xa_InvalidThrows hr (le_var (pv 1)))))) ds_nil)
  (ds_cons (ds_if (dt_cm (c_eq rfl hU) (le_var (pv 0)) d_int) (ds_one (ds_ret (d_if (dt_truth (le_var (pv 2)) rfl) (d_mkEK xa_InvalidChanges hr (le_var (pv 1))) (d_mkE xa_InvalidChanges hr (le_var (pv 1)))))) ds_nil)
  (ds_cons (ds_if (dt_cm (c_eq rfl hU) (le_var (pv 0)) d_int) (ds_one (ds_ret (d_if (dt_truth (le_var (pv 2)) rfl) (d_mkEK xa_InvalidWishes hr (le_var (pv 1))) (d_mkE xa_InvalidWishes hr (le_var (pv 1)))))) ds_nil)
  (ds_cons (ds_if (dt_cm (c_eq rfl hU) (le_var (pv 0)) d_int) (ds_one (ds_ret (d_if (dt_truth (le_var (pv 2)) rfl) (d_mkEK xa_InUse hr (le_var (pv 1))) (d_mkE xa_InUse hr (le_var (pv 1)))))) ds_nil)
  (ds_one (ds_ret (d_if (dt_truth (le_var (pv 2)) rfl) (d_mkEK xa_Broken hr (le_var (pv 1))) (d_mkE xa_Broken hr (le_var (pv 1)))))))))))))))
theorem sc__law_right : FnScope ["_law_thing_here", "_law_held_as", "_law_k", "_law_by_name", "_law_e"] ["_law_thing_here"] (defScope s__law_right) := ⟨rfl, rfl, rfl, by decide +kernel, rfl, by decide +kernel, by decide +kernel⟩
theorem ok__law_right (sp__law_with_given : Spd) (sp__law_is_of : Spd) (sp__law_with_index : Spd) {sp : Spd} {dvs0 : List V} {kws0 : List (Str × V)} (F : FunD K "_law_right" "_law_right" (defArgs s__law_right) (defBody s__law_right) (defScope s__law_right) dvs0 kws0 f fd) (B : Bt mg) (sy : SysK K) (c__law_with_given : Cal P w K ca mg base 3 "_law_with_given" [] sp__law_with_given) (c__law_is_of : Cal P w K ca mg base 2 "_law_is_of" [] sp__law_is_of) (ek : ErrK K ca An) (c__law_with_index : Cal P w K ca mg base 3 "_law_with_index" [] sp__law_with_index) (x0_NothingToUndo : Xcl0 P w K ca mg base "NothingToUndo")
    (hlen : ∀ ds Qd Ed, sp ds Qd Ed → ds.length = 1) (hw : ∀ ds Qd Ed, sp ds Qd Ed → w__law_right sp__law_with_given sp__law_is_of sp__law_with_index (fun c fs xs _ => Ed c fs xs) (endD [] Qd) (startD ["_law_thing_here", "_law_held_as", "_law_k", "_law_by_name", "_law_e"] ds)) :
    FnG P w K mg base (L2.CX P w) 4 f fd ["_law_thing_here"] (lift K ca [] sp) := by
  refine fn_lift (k := 3) F sc__law_right (by decide) hlen (w__law_right sp__law_with_given sp__law_is_of sp__law_with_index) (fun cdv A outer s H E hr G Ex hK hca hpm lk => ?_) hw
  have hU := hr.rm.units
  have hU5 : (A.deeper (envOfC "_law_right" (defScope s__law_right) s.heap.objs.size f cdv)).units + 65 < cLine := by have := hr.rm.un; omega
  subst hK hca
  exact (ds_cons (ds_asg (d_reprX sy hr rfl (by rfl) B.repr (da_cons (le_var (pv 0)) da_nil)) (dg_name sc__law_right.nd rfl (by first | exact .inl rfl | exact .inr rfl) (pmne hpm)))
  (ds_cons (ds_fg (vs := [2, 3, 4]) (ds_fg0 (vs := [2, 3, 4]) (ds_for (L2.passes_of rfl) rfl (di_r1 (by rfl) B.range (da_cons d_int da_nil)) (dg_name sc__law_right.nd rfl (by first | exact .inl rfl | exact .inr rfl) (pmne hpm))
  (dss_fg (vs := [2, 3, 4]) (ds_one (ds_fg (vs := [3, 4]) (ds_fg0 (vs := [3, 4]) (ds_for (L2.passes_of rfl) rfl (di_any rfl (d_lst (da_cons d_bl (da_cons d_bl da_nil)))) (dg_name sc__law_right.nd rfl (by first | exact .inl rfl | exact .inr rfl) (pmne hpm))
  (dss_fg (vs := [3, 4]) (ds_cons (ds_asg (d_c c__law_with_given hr (da_cons (le_var (pv 2)) (da_cons (le_var (pv 0)) (da_cons (le_var (pv 3)) da_nil)))) (dg_name sc__law_right.nd rfl (by first | exact .inl rfl | exact .inr rfl) (pmne hpm)))
  (ds_one (ds_if ((dw_or (dt_not (dt_truth (d_c c__law_is_of hr (da_cons (le_var (pv 4)) (da_cons (le_var (pv 2)) da_nil))) rfl)) (dw_or1 (dt_cm (c_ne rfl hU) (d_reprX sy hr rfl (by rfl) B.repr (da_cons (d_xf ek (by decide) (le_var (pv 4))) da_nil)) (le_var (pv 1)))))).pt (ds_one (ds_ret d_bl)) ds_nil))))))))))))
  (ds_cons (ds_fg (vs := [2, 3, 4]) (ds_fg0 (vs := [2, 3, 4]) (ds_for (L2.passes_of rfl) rfl (di_r2 (by rfl) B.range (da_cons d_int (da_cons d_int da_nil))) (dg_name sc__law_right.nd rfl (by first | exact .inl rfl | exact .inr rfl) (pmne hpm))
  (dss_fg (vs := [2, 3, 4]) (ds_one (ds_fg (vs := [3, 4]) (ds_fg0 (vs := [3, 4]) (ds_for (L2.passes_of rfl) rfl (di_any rfl (d_lst (da_cons d_bl (da_cons d_bl da_nil)))) (dg_name sc__law_right.nd rfl (by first | exact .inl rfl | exact .inr rfl) (pmne hpm))
  (dss_fg (vs := [3, 4]) (ds_cons (ds_asg (d_c c__law_with_index hr (da_cons (le_var (pv 2)) (da_cons (le_var (pv 0)) (da_cons (le_var (pv 3)) da_nil)))) (dg_name sc__law_right.nd rfl (by first | exact .inl rfl | exact .inr rfl) (pmne hpm)))
  (ds_one (ds_if ((dw_or (dt_not (dt_truth (d_c c__law_is_of hr (da_cons (le_var (pv 4)) (da_cons (le_var (pv 2)) da_nil))) rfl)) (dw_or1 (dt_cm (c_ne rfl hU) (d_reprX sy hr rfl (by rfl) B.repr (da_cons (d_xf ek (by decide) (le_var (pv 4))) da_nil)) (le_var (pv 1)))))).pt (ds_one (ds_ret d_bl)) ds_nil))))))))))))
  (ds_one (ds_ret (d_and (d_c c__law_is_of hr (da_cons (d_mkE0 x0_NothingToUndo hr) (da_cons d_int da_nil))) (d_one (d_cm (c_eq rfl hU) (d_reprX sy hr rfl (by rfl) B.repr (da_cons (le_var (pv 0)) da_nil)) (le_var (pv 1))))))))))
theorem sc__law_draw : FnScope ["_law_pot_here", "_law_many", "_law_seed", "_law_digit"] ["_law_pot_here", "_law_many"] (defScope s__law_draw) := ⟨rfl, rfl, rfl, by decide +kernel, rfl, by decide +kernel, by decide +kernel⟩
theorem ok__law_draw {sp : Spd} {dvs0 : List V} {kws0 : List (Str × V)} (F : FunD K "_law_draw" "_law_draw" (defArgs s__law_draw) (defBody s__law_draw) (defScope s__law_draw) dvs0 kws0 f fd) (B : Bt mg)
    (hlen : ∀ ds Qd Ed, sp ds Qd Ed → ds.length = 2) (hw : ∀ ds Qd Ed, sp ds Qd Ed → w__law_draw (fun c fs xs _ => Ed c fs xs) (endD [0] Qd) (startD ["_law_pot_here", "_law_many", "_law_seed", "_law_digit"] ds)) :
    FnG P w K mg base (L2.CX P w) 1 f fd ["_law_pot_here", "_law_many"] (lift K ca [0] sp) := by
  refine fn_lift (k := 0) F sc__law_draw (by decide) hlen (w__law_draw) (fun cdv A outer s H E hr G Ex hK hca hpm lk => ?_) hw
  have hU := hr.rm.units
  have hU5 : (A.deeper (envOfC "_law_draw" (defScope s__law_draw) s.heap.objs.size f cdv)).units + 65 < cLine := by have := hr.rm.un; omega
  subst hK hca
  exact (ds_cons (ds_asg (d_add rfl (d_ixA hU rfl (le_var (pv 0)) d_int) d_int) (dg_setA (pg_sub (le_var (pv 0)) d_int (set_any hU))))
  (ds_cons (ds_asg (d_int1 (hg := by rfl) (hm := B.int) (ha := (da_cons (d_ixA hU rfl (le_var (pv 0)) d_int) da_nil))) (dg_name sc__law_draw.nd rfl (by first | exact .inl rfl | exact .inr rfl) (pmne hpm)))
  (ds_cons (ds_asg (d_mod (d_int1 (hg := by rfl) (hm := B.int) (ha := (da_cons (d_add rfl (d_add rfl (d_mul (le_var (pv 2)) (d_add rfl (d_mod (d_int1 (hg := by rfl) (hm := B.int) (ha := (da_cons (le_var (pv 2)) da_nil))) d_int) d_int)) (d_mul d_int (d_ixA hU rfl (le_var (pv 0)) d_int))) d_int) da_nil))) d_int) (dg_setA (pg_sub (le_var (pv 0)) d_int (set_any hU))))
  (ds_cons (ds_fg (vs := [3]) (ds_if (dt_cm c_gt (d_ixA hU rfl (le_var (pv 0)) d_int) d_int) (ds_cons (ds_asg (d_divmod (hg := by rfl) (hm := B.divmod) (ha := (da_cons (d_ixA hU rfl (le_var (pv 0)) d_int) (da_cons (le_var (pv 1)) da_nil)))) (dg_tup rfl rfl (dgs_cons (dg_setA (pg_sub (le_var (pv 0)) d_int (set_any hU))) (dgs_cons (dg_name sc__law_draw.nd rfl (by first | exact .inl rfl | exact .inr rfl) (pmne hpm)) dgs_nil))))
  (ds_one (ds_ret (le_var (pv 3))))) ds_nil))
  (ds_one (ds_ret (d_mod (d_int1 (hg := by rfl) (hm := B.int) (ha := (da_cons (d_fdiv (d_ixA hU rfl (le_var (pv 0)) d_int) d_int) da_nil))) (le_var (pv 1)))))))))
theorem sc__law_thing : FnScope ["_law_pot_here", "_law_far", "_law_word", "_law_odd"] ["_law_pot_here"] (defScope s__law_thing) := ⟨rfl, rfl, rfl, by decide +kernel, rfl, by decide +kernel, by decide +kernel⟩
theorem ok__law_thing (sp__law_draw : Spd) {sp : Spd} {dvs0 : List V} {kws0 : List (Str × V)} (F : FunD K "_law_thing" "_law_thing" (defArgs s__law_thing) (defBody s__law_thing) (defScope s__law_thing) dvs0 kws0 f fd) (B : Bt mg) (c__law_draw : Cal P w K ca mg base 1 "_law_draw" [0] sp__law_draw)
    (hlen : ∀ ds Qd Ed, sp ds Qd Ed → ds.length = 1) (hw : ∀ ds Qd Ed, sp ds Qd Ed → w__law_thing sp__law_draw (fun c fs xs _ => Ed c fs xs) (endD [0] Qd) (startD ["_law_pot_here", "_law_far", "_law_word", "_law_odd"] ds)) :
    FnG P w K mg base (L2.CX P w) 2 f fd ["_law_pot_here"] (lift K ca [0] sp) := by
  refine fn_lift (k := 1) F sc__law_thing (by decide) hlen (w__law_thing sp__law_draw) (fun cdv A outer s H E hr G Ex hK hca hpm lk => ?_) hw
  have hU := hr.rm.units
  have hU5 : (A.deeper (envOfC "_law_thing" (defScope s__law_thing) s.heap.objs.size f cdv)).units + 65 < cLine := by have := hr.rm.un; omega
  subst hK hca
  exact (ds_cons (ds_asg (d_add rfl (d_ixA hU rfl (d_lst (da_cons d_int (da_cons d_int (da_cons d_int (da_cons (d_pow d_int d_int) (da_cons (d_pow d_int d_int) (da_cons (d_pow d_int d_int) da_nil))))))) (d_c c__law_draw hr (da_cons (le_var (pv 0)) (da_cons d_int da_nil)))) (d_c c__law_draw hr (da_cons (le_var (pv 0)) (da_cons d_int da_nil)))) (dg_name sc__law_thing.nd rfl (by first | exact .inl rfl | exact .inr rfl) (pmne hpm)))
  (ds_cons (ds_asg (d_ixA hU rfl d_str (d_c c__law_draw hr (da_cons (le_var (pv 0)) (da_cons d_int da_nil)))) (dg_name sc__law_thing.nd rfl (by first | exact .inl rfl | exact .inr rfl) (pmne hpm)))
  (ds_cons (ds_asg (d_lst (da_cons (le_var (pv 1)) (da_cons (d_ng (le_var (pv 1))) (da_cons (le_var (pv 2)) (da_cons (d_add rfl (le_var (pv 2)) d_str) (da_cons (d_tup (da_cons (le_var (pv 2)) (da_cons (le_var (pv 1)) da_nil))) (da_cons (d_tup da_nil) (da_cons (d_lst (da_cons (le_var (pv 1)) (da_cons (le_var (pv 2)) da_nil))) (da_cons (d_lst da_nil) (da_cons (d_disp (l := [((wVar 2), (wVar 1))]) (pps_cons (le_var (pv 2)) (le_var (pv 1)) pps_nil)) (da_cons d_dn (da_cons (d_tup (da_cons (d_tup (da_cons (le_var (pv 2)) da_nil)) (da_cons (d_tup (da_cons (le_var (pv 1)) (da_cons d_non da_nil))) da_nil))) da_nil)))))))))))) (dg_name sc__law_thing.nd rfl (by first | exact .inl rfl | exact .inr rfl) (pmne hpm)))
  (ds_one (ds_ret (d_ixA hU rfl (d_add rfl (le_var (pv 3)) (d_lst (da_cons d_non (da_cons d_bl (da_cons d_bl (da_cons d_int (da_cons d_int (da_cons d_str da_nil)))))))) (d_c c__law_draw hr (da_cons (le_var (pv 0)) (da_cons d_int da_nil)))))))))
theorem sc_law : FnScope ["_law_cells", "_law_k", "_law_pot_here", "_law_turn"] ["_law_cells"] (defScope s_law) := ⟨rfl, rfl, rfl, by decide +kernel, rfl, by decide +kernel, by decide +kernel⟩
theorem ok_law (sp__law_pot : Spd) (sp__law_cell : Spd) (sp__law_right : Spd) (sp__law_thing : Spd) {sp : Spd} {dvs0 : List V} {kws0 : List (Str × V)} (F : FunD K "law" "law" (defArgs s_law) (defBody s_law) (defScope s_law) dvs0 kws0 f fd) (B : Bt mg) (g_MOST_WISHES : ∃ t, mg "MOST_WISHES" = some (.int 6 t)) (g_MOST_CHANGES : ∃ t, mg "MOST_CHANGES" = some (.int 6 t)) (g_MOST_KNOWN : ∃ t, mg "MOST_KNOWN" = some (.int 12 t)) (g_MOST_MATCHES : ∃ t, mg "MOST_MATCHES" = some (.int 24 t)) (g_MOST_ENTRIES : ∃ t, mg "MOST_ENTRIES" = some (.int 8 t)) (sy : SysK K) (c__law_pot : Cal P w K ca mg base 1 "_law_pot" [] sp__law_pot) (c__law_cell : Cal P w K ca mg base 1 "_law_cell" [] sp__law_cell) (c__law_right : Cal P w K ca mg base 4 "_law_right" [] sp__law_right) (c__law_thing : Cal P w K ca mg base 2 "_law_thing" [0] sp__law_thing)
    (hlen : ∀ ds Qd Ed, sp ds Qd Ed → ds.length = 1) (hw : ∀ ds Qd Ed, sp ds Qd Ed → w_law sp__law_pot sp__law_cell sp__law_right sp__law_thing (fun c fs xs _ => Ed c fs xs) (endD [] Qd) (startD ["_law_cells", "_law_k", "_law_pot_here", "_law_turn"] ds)) :
    FnG P w K mg base (L2.CX P w) 5 f fd ["_law_cells"] (lift K ca [] sp) := by
  refine fn_lift (k := 4) F sc_law (by decide) hlen (w_law sp__law_pot sp__law_cell sp__law_right sp__law_thing) (fun cdv A outer s H E hr G Ex hK hca hpm lk => ?_) hw
  have hU := hr.rm.units
  have hU5 : (A.deeper (envOfC "law" (defScope s_law) s.heap.objs.size f cdv)).units + 65 < cLine := by have := hr.rm.un; omega
  subst hK hca
  exact (ds_cons (ds_if (dt_cm (c_ne rfl hU) (d_reprX sy hr rfl (by rfl) B.repr (da_cons (d_lst (da_cons (d_glI g_MOST_ENTRIES) (da_cons (d_glI g_MOST_MATCHES) (da_cons (d_glI g_MOST_KNOWN) (da_cons (d_glI g_MOST_CHANGES) (da_cons (d_glI g_MOST_WISHES) da_nil)))))) da_nil)) d_str) (ds_one (ds_ret d_bl)) ds_nil)
  (ds_cons (ds_fg (vs := [1, 2]) (ds_fg0 (vs := [1, 2]) (ds_for (L2.passes_of rfl) rfl (di_r1 (by rfl) B.range (da_cons (d_max (hc := rfl) (hg := by rfl) (hm := B.max) (ha := (da_cons d_int (da_cons (d_min (hc := rfl) (hg := by rfl) (hm := B.min) (ha := (da_cons (d_lenS (by rfl) (by rfl) B.len (da_cons (le_var (pv 0)) da_nil)) (da_cons d_int da_nil)))) da_nil)))) da_nil)) (dg_name sc_law.nd rfl (by first | exact .inl rfl | exact .inr rfl) (pmne hpm))
  (dss_fg (vs := [1, 2]) (ds_cons (ds_asg (d_c c__law_pot hr (da_cons (d_c c__law_cell hr (da_cons (le_var (pv 0)) (da_cons (le_var (pv 1)) da_nil))) da_nil)) (dg_own sc_law.nd rfl (by first | exact .inl rfl | exact .inr rfl) (pmne hpm)))
  (ds_one (ds_if (dt_not (dt_truth (d_all (hc := rfl) (hK := rfl) (hg := by rfl) (hm := B.all) (ha := (da_cons (d_lc (X := cxOf (L2.CX P w) P w G.K mg base _ _ _ f cdv A outer s H E) rfl sc_law.nd (di_r1 (by rfl) B.range (da_cons d_int da_nil)) (blkOk_by (own := [("_law_turn", 3)]) (N := ["_law_cells", "_law_k", "_law_pot_here", "_law_turn"]) (sc := defScope s_law) (by decide +kernel)) (fun s1 H1 C1 l1 p1 => (dg_name sc_law.nd rfl (by first | exact .inl rfl | exact .inr rfl) (pmne hpm))) (fun s1 H1 C1 l1 p1 => dpt_nil) (fun s1 H1 C1 l1 p1 => (d_c c__law_right hr (da_cons (d_c c__law_thing hr (da_cons (le_var (pv 2)) da_nil)) da_nil))) (by decide) (pmni hpm) ) da_nil))) rfl)) (ds_one (ds_ret d_bl)) ds_nil)))))))
  (ds_one (ds_ret d_bl))))
end
theorem sc_InvalidText__init_ : FnScope ["self", "given"] ["self", "given"] (defScope s_InvalidText__init_) := ⟨rfl, rfl, rfl, by decide +kernel, rfl, by decide +kernel, by decide +kernel⟩
theorem sc_InvalidName__init_ : FnScope ["self", "given"] ["self", "given"] (defScope s_InvalidName__init_) := ⟨rfl, rfl, rfl, by decide +kernel, rfl, by decide +kernel, by decide +kernel⟩
theorem sc_InvalidNumber__init_ : FnScope ["self", "given"] ["self", "given"] (defScope s_InvalidNumber__init_) := ⟨rfl, rfl, rfl, by decide +kernel, rfl, by decide +kernel, by decide +kernel⟩
theorem sc_InvalidOrder__init_ : FnScope ["self", "given"] ["self", "given"] (defScope s_InvalidOrder__init_) := ⟨rfl, rfl, rfl, by decide +kernel, rfl, by decide +kernel, by decide +kernel⟩
theorem sc_InvalidWho__init_ : FnScope ["self", "given"] ["self", "given"] (defScope s_InvalidWho__init_) := ⟨rfl, rfl, rfl, by decide +kernel, rfl, by decide +kernel, by decide +kernel⟩
theorem sc_InvalidPlace__init_ : FnScope ["self", "given"] ["self", "given"] (defScope s_InvalidPlace__init_) := ⟨rfl, rfl, rfl, by decide +kernel, rfl, by decide +kernel, by decide +kernel⟩
theorem sc_InvalidChange__init_ : FnScope ["self", "given"] ["self", "given"] (defScope s_InvalidChange__init_) := ⟨rfl, rfl, rfl, by decide +kernel, rfl, by decide +kernel, by decide +kernel⟩
theorem sc_InvalidWish__init_ : FnScope ["self", "given"] ["self", "given"] (defScope s_InvalidWish__init_) := ⟨rfl, rfl, rfl, by decide +kernel, rfl, by decide +kernel, by decide +kernel⟩
theorem sc_InvalidIndex__init_ : FnScope ["self", "given"] ["self", "given"] (defScope s_InvalidIndex__init_) := ⟨rfl, rfl, rfl, by decide +kernel, rfl, by decide +kernel, by decide +kernel⟩
theorem sc_NotAPlan__init_ : FnScope ["self", "given"] ["self", "given"] (defScope s_NotAPlan__init_) := ⟨rfl, rfl, rfl, by decide +kernel, rfl, by decide +kernel, by decide +kernel⟩
theorem sc_OtherKind__init_ : FnScope ["self", "given"] ["self", "given"] (defScope s_OtherKind__init_) := ⟨rfl, rfl, rfl, by decide +kernel, rfl, by decide +kernel, by decide +kernel⟩
theorem sc_UnknownName__init_ : FnScope ["self", "given"] ["self", "given"] (defScope s_UnknownName__init_) := ⟨rfl, rfl, rfl, by decide +kernel, rfl, by decide +kernel, by decide +kernel⟩
theorem sc_InvalidEntries__init_ : FnScope ["self", "index"] ["self", "index"] (defScope s_InvalidEntries__init_) := ⟨rfl, rfl, rfl, by decide +kernel, rfl, by decide +kernel, by decide +kernel⟩
theorem sc_InvalidMatches__init_ : FnScope ["self", "index"] ["self", "index"] (defScope s_InvalidMatches__init_) := ⟨rfl, rfl, rfl, by decide +kernel, rfl, by decide +kernel, by decide +kernel⟩
theorem sc_InvalidPlaces__init_ : FnScope ["self", "index"] ["self", "index"] (defScope s_InvalidPlaces__init_) := ⟨rfl, rfl, rfl, by decide +kernel, rfl, by decide +kernel, by decide +kernel⟩
theorem sc_InvalidKnown__init_ : FnScope ["self", "index"] ["self", "index"] (defScope s_InvalidKnown__init_) := ⟨rfl, rfl, rfl, by decide +kernel, rfl, by decide +kernel, by decide +kernel⟩
theorem sc_InvalidUpsets__init_ : FnScope ["self", "index"] ["self", "index"] (defScope s_InvalidUpsets__init_) := ⟨rfl, rfl, rfl, by decide +kernel, rfl, by decide +kernel, by decide +kernel⟩
theorem sc_InvalidThrows__init_ : FnScope ["self", "index"] ["self", "index"] (defScope s_InvalidThrows__init_) := ⟨rfl, rfl, rfl, by decide +kernel, rfl, by decide +kernel, by decide +kernel⟩
theorem sc_InvalidChanges__init_ : FnScope ["self", "index"] ["self", "index"] (defScope s_InvalidChanges__init_) := ⟨rfl, rfl, rfl, by decide +kernel, rfl, by decide +kernel, by decide +kernel⟩
theorem sc_InvalidWishes__init_ : FnScope ["self", "index"] ["self", "index"] (defScope s_InvalidWishes__init_) := ⟨rfl, rfl, rfl, by decide +kernel, rfl, by decide +kernel, by decide +kernel⟩
theorem sc_InUse__init_ : FnScope ["self", "index"] ["self", "index"] (defScope s_InUse__init_) := ⟨rfl, rfl, rfl, by decide +kernel, rfl, by decide +kernel, by decide +kernel⟩
theorem sc_Broken__init_ : FnScope ["self", "index"] ["self", "index"] (defScope s_Broken__init_) := ⟨rfl, rfl, rfl, by decide +kernel, rfl, by decide +kernel, by decide +kernel⟩
theorem sc_NothingToUndo__init_ : FnScope ["self"] ["self"] (defScope s_NothingToUndo__init_) := ⟨rfl, rfl, rfl, by decide +kernel, rfl, by decide +kernel, by decide +kernel⟩
theorem facts {P : Program} {w : World} {K : PySem.W.Frag} {h : Heap} {mg : Str → Option Value} (X : K.In h) (G : h.Ns mainGlobals mg) (c : He6.SaysM faL exL fnL K) :
    ∃ fd : FuncData, (∀ (s : Shared) (v : Value), BindsTo s fd ⟨[v], []⟩ [("_law_cells", v)]) ∧ mg "law" = some (.ref (He.fAd K ("law", none))) ∧ ∀ base : Heap, FnG P w K mg base (L2.CX P w) 5 (He.fAd K ("law", none)) fd ["_law_cells"] (lift K (cx K) [] sp_law) := by
  have B : Bt mg := ⟨He.free_ok X G (c.fact 0 rfl), He.free_ok X G (c.fact 1 rfl), He.free_ok X G (c.fact 2 rfl), He.free_ok X G (c.fact 3 rfl), He.free_ok X G (c.fact 4 rfl), He.free_ok X G (c.fact 5 rfl), He.free_ok X G (c.fact 6 rfl), He.free_ok X G (c.fact 7 rfl), He.free_ok X G (c.fact 8 rfl), He.free_ok X G (c.fact 9 rfl), He.free_ok X G (c.fact 10 rfl), He.free_ok X G (c.fact 11 rfl), He.free_ok X G (c.fact 12 rfl), He.free_ok X G (c.fact 13 rfl), He.free_ok X G (c.fact 14 rfl), He.free_ok X G (c.fact 15 rfl), He.free_ok X G (c.fact 16 rfl), He.free_ok X G (c.fact 17 rfl), He.free_ok X G (c.fact 18 rfl), He.free_ok X G (c.fact 19 rfl), He.free_ok X G (c.fact 20 rfl), He.free_ok X G (c.fact 21 rfl)⟩
  obtain ⟨fd__law_pot, F__law_pot⟩ := c.def_ 0 (d := dA__law_pot) rfl
  obtain ⟨fd__law_cell, F__law_cell⟩ := c.def_ 1 (d := dA__law_cell) rfl
  obtain ⟨fd__law_with_given, F__law_with_given⟩ := c.def_ 2 (d := dA__law_with_given) rfl
  obtain ⟨fd__law_sorts, F__law_sorts⟩ := c.def_ 3 (d := dA__law_sorts) rfl
  obtain ⟨fd__law_is_of, F__law_is_of⟩ := c.def_ 4 (d := dA__law_is_of) rfl
  obtain ⟨fd__law_with_index, F__law_with_index⟩ := c.def_ 5 (d := dA__law_with_index) rfl
  obtain ⟨fd__law_right, F__law_right⟩ := c.def_ 6 (d := dA__law_right) rfl
  obtain ⟨fd__law_draw, F__law_draw⟩ := c.def_ 7 (d := dA__law_draw) rfl
  obtain ⟨fd__law_thing, F__law_thing⟩ := c.def_ 8 (d := dA__law_thing) rfl
  obtain ⟨fd_law, F_law⟩ := c.def_ 9 (d := dA_law) rfl
  obtain ⟨fd_InvalidText__init_, F_InvalidText__init_⟩ := c.def_ 10 (d := dA_InvalidText__init_) rfl
  obtain ⟨fd_InvalidName__init_, F_InvalidName__init_⟩ := c.def_ 11 (d := dA_InvalidName__init_) rfl
  obtain ⟨fd_InvalidNumber__init_, F_InvalidNumber__init_⟩ := c.def_ 12 (d := dA_InvalidNumber__init_) rfl
  obtain ⟨fd_InvalidOrder__init_, F_InvalidOrder__init_⟩ := c.def_ 13 (d := dA_InvalidOrder__init_) rfl
  obtain ⟨fd_InvalidWho__init_, F_InvalidWho__init_⟩ := c.def_ 14 (d := dA_InvalidWho__init_) rfl
  obtain ⟨fd_InvalidPlace__init_, F_InvalidPlace__init_⟩ := c.def_ 15 (d := dA_InvalidPlace__init_) rfl
  obtain ⟨fd_InvalidChange__init_, F_InvalidChange__init_⟩ := c.def_ 16 (d := dA_InvalidChange__init_) rfl
  obtain ⟨fd_InvalidWish__init_, F_InvalidWish__init_⟩ := c.def_ 17 (d := dA_InvalidWish__init_) rfl
  obtain ⟨fd_InvalidIndex__init_, F_InvalidIndex__init_⟩ := c.def_ 18 (d := dA_InvalidIndex__init_) rfl
  obtain ⟨fd_NotAPlan__init_, F_NotAPlan__init_⟩ := c.def_ 19 (d := dA_NotAPlan__init_) rfl
  obtain ⟨fd_OtherKind__init_, F_OtherKind__init_⟩ := c.def_ 20 (d := dA_OtherKind__init_) rfl
  obtain ⟨fd_UnknownName__init_, F_UnknownName__init_⟩ := c.def_ 21 (d := dA_UnknownName__init_) rfl
  obtain ⟨fd_InvalidEntries__init_, F_InvalidEntries__init_⟩ := c.def_ 22 (d := dA_InvalidEntries__init_) rfl
  obtain ⟨fd_InvalidMatches__init_, F_InvalidMatches__init_⟩ := c.def_ 23 (d := dA_InvalidMatches__init_) rfl
  obtain ⟨fd_InvalidPlaces__init_, F_InvalidPlaces__init_⟩ := c.def_ 24 (d := dA_InvalidPlaces__init_) rfl
  obtain ⟨fd_InvalidKnown__init_, F_InvalidKnown__init_⟩ := c.def_ 25 (d := dA_InvalidKnown__init_) rfl
  obtain ⟨fd_InvalidUpsets__init_, F_InvalidUpsets__init_⟩ := c.def_ 26 (d := dA_InvalidUpsets__init_) rfl
  obtain ⟨fd_InvalidThrows__init_, F_InvalidThrows__init_⟩ := c.def_ 27 (d := dA_InvalidThrows__init_) rfl
  obtain ⟨fd_InvalidChanges__init_, F_InvalidChanges__init_⟩ := c.def_ 28 (d := dA_InvalidChanges__init_) rfl
  obtain ⟨fd_InvalidWishes__init_, F_InvalidWishes__init_⟩ := c.def_ 29 (d := dA_InvalidWishes__init_) rfl
  obtain ⟨fd_InUse__init_, F_InUse__init_⟩ := c.def_ 30 (d := dA_InUse__init_) rfl
  obtain ⟨fd_Broken__init_, F_Broken__init_⟩ := c.def_ 31 (d := dA_Broken__init_) rfl
  obtain ⟨fd_NothingToUndo__init_, F_NothingToUndo__init_⟩ := c.def_ 32 (d := dA_NothingToUndo__init_) rfl
  refine ⟨fd_law, fun s v => FunD.bindsA (ps := ["_law_cells"]) F_law (fun _ _ _ _ _ _ us hl => match us, hl with | [_], _ => rfl) s [v] rfl, He.glo_ok X G (c.fact 22 rfl), fun base => ?_⟩
  have G__law_pot : FnG P w K mg base (L2.CX P w) 1 _ fd__law_pot ["_law_cell_here"] (lift K (cx K) [] sp__law_pot) := ok__law_pot F__law_pot B  (by first | (intro ds Qd Ed h; (first | (obtain ⟨_, rfl, _⟩ := h; rfl; done) | (obtain ⟨_, _, rfl, _⟩ := h; rfl; done) | (obtain ⟨_, _, _, rfl, _⟩ := h; rfl; done) | (obtain ⟨_, _, _, _, rfl, _⟩ := h; rfl; done) | (obtain ⟨_, _, _, _, _, rfl, _⟩ := h; rfl; done) | (obtain ⟨_, _, _, _, _, _, rfl, _⟩ := h; rfl; done) | (obtain ⟨_, _, _, _, _, _, _, rfl, _⟩ := h; rfl; done) | (obtain ⟨_, _, _, _, _, _, _, _, rfl, _⟩ := h; rfl; done)); done) | (intro ds Qd Ed h; rcases h with h | h <;> (first | (obtain ⟨_, rfl, _⟩ := h; rfl; done) | (obtain ⟨_, _, rfl, _⟩ := h; rfl; done) | (obtain ⟨_, _, _, rfl, _⟩ := h; rfl; done) | (obtain ⟨_, _, _, _, rfl, _⟩ := h; rfl; done) | (obtain ⟨_, _, _, _, _, rfl, _⟩ := h; rfl; done) | (obtain ⟨_, _, _, _, _, _, rfl, _⟩ := h; rfl; done) | (obtain ⟨_, _, _, _, _, _, _, rfl, _⟩ := h; rfl; done) | (obtain ⟨_, _, _, _, _, _, _, _, rfl, _⟩ := h; rfl; done)); done) | (intro ds Qd Ed h; rcases h with h | h | h <;> (first | (obtain ⟨_, rfl, _⟩ := h; rfl; done) | (obtain ⟨_, _, rfl, _⟩ := h; rfl; done) | (obtain ⟨_, _, _, rfl, _⟩ := h; rfl; done) | (obtain ⟨_, _, _, _, rfl, _⟩ := h; rfl; done) | (obtain ⟨_, _, _, _, _, rfl, _⟩ := h; rfl; done) | (obtain ⟨_, _, _, _, _, _, rfl, _⟩ := h; rfl; done) | (obtain ⟨_, _, _, _, _, _, _, rfl, _⟩ := h; rfl; done) | (obtain ⟨_, _, _, _, _, _, _, _, rfl, _⟩ := h; rfl; done)); done)) hw__law_pot
  have G__law_cell : FnG P w K mg base (L2.CX P w) 1 _ fd__law_cell ["_law_cells", "_law_k"] (lift K (cx K) [] sp__law_cell) := ok__law_cell F__law_cell B  (by first | (intro ds Qd Ed h; (first | (obtain ⟨_, rfl, _⟩ := h; rfl; done) | (obtain ⟨_, _, rfl, _⟩ := h; rfl; done) | (obtain ⟨_, _, _, rfl, _⟩ := h; rfl; done) | (obtain ⟨_, _, _, _, rfl, _⟩ := h; rfl; done) | (obtain ⟨_, _, _, _, _, rfl, _⟩ := h; rfl; done) | (obtain ⟨_, _, _, _, _, _, rfl, _⟩ := h; rfl; done) | (obtain ⟨_, _, _, _, _, _, _, rfl, _⟩ := h; rfl; done) | (obtain ⟨_, _, _, _, _, _, _, _, rfl, _⟩ := h; rfl; done)); done) | (intro ds Qd Ed h; rcases h with h | h <;> (first | (obtain ⟨_, rfl, _⟩ := h; rfl; done) | (obtain ⟨_, _, rfl, _⟩ := h; rfl; done) | (obtain ⟨_, _, _, rfl, _⟩ := h; rfl; done) | (obtain ⟨_, _, _, _, rfl, _⟩ := h; rfl; done) | (obtain ⟨_, _, _, _, _, rfl, _⟩ := h; rfl; done) | (obtain ⟨_, _, _, _, _, _, rfl, _⟩ := h; rfl; done) | (obtain ⟨_, _, _, _, _, _, _, rfl, _⟩ := h; rfl; done) | (obtain ⟨_, _, _, _, _, _, _, _, rfl, _⟩ := h; rfl; done)); done) | (intro ds Qd Ed h; rcases h with h | h | h <;> (first | (obtain ⟨_, rfl, _⟩ := h; rfl; done) | (obtain ⟨_, _, rfl, _⟩ := h; rfl; done) | (obtain ⟨_, _, _, rfl, _⟩ := h; rfl; done) | (obtain ⟨_, _, _, _, rfl, _⟩ := h; rfl; done) | (obtain ⟨_, _, _, _, _, rfl, _⟩ := h; rfl; done) | (obtain ⟨_, _, _, _, _, _, rfl, _⟩ := h; rfl; done) | (obtain ⟨_, _, _, _, _, _, _, rfl, _⟩ := h; rfl; done) | (obtain ⟨_, _, _, _, _, _, _, _, rfl, _⟩ := h; rfl; done)); done)) hw__law_cell
  have h__law_with_given_xa_InvalidText : XclA P w K (cx K) mg base "InvalidText" "given" := He6.xclAB_ok (c.more 0 rfl) (He.glo_ok X G (c.fact 23 rfl)) (xinitA_ok F_InvalidText__init_ sc_InvalidText__init_ rfl rfl (by decide) (by decide)) (F_InvalidText__init_.bindsN fun _ _ _ _ _ _ us hl => match us, hl with | [_, _], _ => rfl) (kbindsP F_InvalidText__init_ 1 ["given"] [0, 1] (fun _ _ _ _ _ _ us ws h1 h2 => match us, ws, h1, h2 with | [_], [_], _, _ => rfl))
  have h__law_with_given_xa_InvalidName : XclA P w K (cx K) mg base "InvalidName" "given" := He6.xclAB_ok (c.more 1 rfl) (He.glo_ok X G (c.fact 24 rfl)) (xinitA_ok F_InvalidName__init_ sc_InvalidName__init_ rfl rfl (by decide) (by decide)) (F_InvalidName__init_.bindsN fun _ _ _ _ _ _ us hl => match us, hl with | [_, _], _ => rfl) (kbindsP F_InvalidName__init_ 1 ["given"] [0, 1] (fun _ _ _ _ _ _ us ws h1 h2 => match us, ws, h1, h2 with | [_], [_], _, _ => rfl))
  have h__law_with_given_xa_InvalidNumber : XclA P w K (cx K) mg base "InvalidNumber" "given" := He6.xclAB_ok (c.more 2 rfl) (He.glo_ok X G (c.fact 25 rfl)) (xinitA_ok F_InvalidNumber__init_ sc_InvalidNumber__init_ rfl rfl (by decide) (by decide)) (F_InvalidNumber__init_.bindsN fun _ _ _ _ _ _ us hl => match us, hl with | [_, _], _ => rfl) (kbindsP F_InvalidNumber__init_ 1 ["given"] [0, 1] (fun _ _ _ _ _ _ us ws h1 h2 => match us, ws, h1, h2 with | [_], [_], _, _ => rfl))
  have h__law_with_given_xa_InvalidOrder : XclA P w K (cx K) mg base "InvalidOrder" "given" := He6.xclAB_ok (c.more 3 rfl) (He.glo_ok X G (c.fact 26 rfl)) (xinitA_ok F_InvalidOrder__init_ sc_InvalidOrder__init_ rfl rfl (by decide) (by decide)) (F_InvalidOrder__init_.bindsN fun _ _ _ _ _ _ us hl => match us, hl with | [_, _], _ => rfl) (kbindsP F_InvalidOrder__init_ 1 ["given"] [0, 1] (fun _ _ _ _ _ _ us ws h1 h2 => match us, ws, h1, h2 with | [_], [_], _, _ => rfl))
  have h__law_with_given_xa_InvalidWho : XclA P w K (cx K) mg base "InvalidWho" "given" := He6.xclAB_ok (c.more 4 rfl) (He.glo_ok X G (c.fact 27 rfl)) (xinitA_ok F_InvalidWho__init_ sc_InvalidWho__init_ rfl rfl (by decide) (by decide)) (F_InvalidWho__init_.bindsN fun _ _ _ _ _ _ us hl => match us, hl with | [_, _], _ => rfl) (kbindsP F_InvalidWho__init_ 1 ["given"] [0, 1] (fun _ _ _ _ _ _ us ws h1 h2 => match us, ws, h1, h2 with | [_], [_], _, _ => rfl))
  have h__law_with_given_xa_InvalidPlace : XclA P w K (cx K) mg base "InvalidPlace" "given" := He6.xclAB_ok (c.more 5 rfl) (He.glo_ok X G (c.fact 28 rfl)) (xinitA_ok F_InvalidPlace__init_ sc_InvalidPlace__init_ rfl rfl (by decide) (by decide)) (F_InvalidPlace__init_.bindsN fun _ _ _ _ _ _ us hl => match us, hl with | [_, _], _ => rfl) (kbindsP F_InvalidPlace__init_ 1 ["given"] [0, 1] (fun _ _ _ _ _ _ us ws h1 h2 => match us, ws, h1, h2 with | [_], [_], _, _ => rfl))
  have h__law_with_given_xa_InvalidChange : XclA P w K (cx K) mg base "InvalidChange" "given" := He6.xclAB_ok (c.more 6 rfl) (He.glo_ok X G (c.fact 29 rfl)) (xinitA_ok F_InvalidChange__init_ sc_InvalidChange__init_ rfl rfl (by decide) (by decide)) (F_InvalidChange__init_.bindsN fun _ _ _ _ _ _ us hl => match us, hl with | [_, _], _ => rfl) (kbindsP F_InvalidChange__init_ 1 ["given"] [0, 1] (fun _ _ _ _ _ _ us ws h1 h2 => match us, ws, h1, h2 with | [_], [_], _, _ => rfl))
  have h__law_with_given_xa_InvalidWish : XclA P w K (cx K) mg base "InvalidWish" "given" := He6.xclAB_ok (c.more 7 rfl) (He.glo_ok X G (c.fact 30 rfl)) (xinitA_ok F_InvalidWish__init_ sc_InvalidWish__init_ rfl rfl (by decide) (by decide)) (F_InvalidWish__init_.bindsN fun _ _ _ _ _ _ us hl => match us, hl with | [_, _], _ => rfl) (kbindsP F_InvalidWish__init_ 1 ["given"] [0, 1] (fun _ _ _ _ _ _ us ws h1 h2 => match us, ws, h1, h2 with | [_], [_], _, _ => rfl))
  have h__law_with_given_xa_InvalidIndex : XclA P w K (cx K) mg base "InvalidIndex" "given" := He6.xclAB_ok (c.more 8 rfl) (He.glo_ok X G (c.fact 31 rfl)) (xinitA_ok F_InvalidIndex__init_ sc_InvalidIndex__init_ rfl rfl (by decide) (by decide)) (F_InvalidIndex__init_.bindsN fun _ _ _ _ _ _ us hl => match us, hl with | [_, _], _ => rfl) (kbindsP F_InvalidIndex__init_ 1 ["given"] [0, 1] (fun _ _ _ _ _ _ us ws h1 h2 => match us, ws, h1, h2 with | [_], [_], _, _ => rfl))
  have h__law_with_given_xa_NotAPlan : XclA P w K (cx K) mg base "NotAPlan" "given" := He6.xclAB_ok (c.more 9 rfl) (He.glo_ok X G (c.fact 32 rfl)) (xinitA_ok F_NotAPlan__init_ sc_NotAPlan__init_ rfl rfl (by decide) (by decide)) (F_NotAPlan__init_.bindsN fun _ _ _ _ _ _ us hl => match us, hl with | [_, _], _ => rfl) (kbindsP F_NotAPlan__init_ 1 ["given"] [0, 1] (fun _ _ _ _ _ _ us ws h1 h2 => match us, ws, h1, h2 with | [_], [_], _, _ => rfl))
  have h__law_with_given_xa_OtherKind : XclA P w K (cx K) mg base "OtherKind" "given" := He6.xclAB_ok (c.more 10 rfl) (He.glo_ok X G (c.fact 33 rfl)) (xinitA_ok F_OtherKind__init_ sc_OtherKind__init_ rfl rfl (by decide) (by decide)) (F_OtherKind__init_.bindsN fun _ _ _ _ _ _ us hl => match us, hl with | [_, _], _ => rfl) (kbindsP F_OtherKind__init_ 1 ["given"] [0, 1] (fun _ _ _ _ _ _ us ws h1 h2 => match us, ws, h1, h2 with | [_], [_], _, _ => rfl))
  have h__law_with_given_xa_UnknownName : XclA P w K (cx K) mg base "UnknownName" "given" := He6.xclAB_ok (c.more 11 rfl) (He.glo_ok X G (c.fact 34 rfl)) (xinitA_ok F_UnknownName__init_ sc_UnknownName__init_ rfl rfl (by decide) (by decide)) (F_UnknownName__init_.bindsN fun _ _ _ _ _ _ us hl => match us, hl with | [_, _], _ => rfl) (kbindsP F_UnknownName__init_ 1 ["given"] [0, 1] (fun _ _ _ _ _ _ us ws h1 h2 => match us, ws, h1, h2 with | [_], [_], _, _ => rfl))
  have G__law_with_given : FnG P w K mg base (L2.CX P w) 3 _ fd__law_with_given ["_law_k", "_law_thing_here", "_law_by_name"] (lift K (cx K) [] sp__law_with_given) := ok__law_with_given F__law_with_given B h__law_with_given_xa_InvalidText h__law_with_given_xa_InvalidName h__law_with_given_xa_InvalidNumber h__law_with_given_xa_InvalidOrder h__law_with_given_xa_InvalidWho h__law_with_given_xa_InvalidPlace h__law_with_given_xa_InvalidChange h__law_with_given_xa_InvalidWish h__law_with_given_xa_InvalidIndex h__law_with_given_xa_NotAPlan h__law_with_given_xa_OtherKind h__law_with_given_xa_UnknownName (by first | (intro ds Qd Ed h; (first | (obtain ⟨_, rfl, _⟩ := h; rfl; done) | (obtain ⟨_, _, rfl, _⟩ := h; rfl; done) | (obtain ⟨_, _, _, rfl, _⟩ := h; rfl; done) | (obtain ⟨_, _, _, _, rfl, _⟩ := h; rfl; done) | (obtain ⟨_, _, _, _, _, rfl, _⟩ := h; rfl; done) | (obtain ⟨_, _, _, _, _, _, rfl, _⟩ := h; rfl; done) | (obtain ⟨_, _, _, _, _, _, _, rfl, _⟩ := h; rfl; done) | (obtain ⟨_, _, _, _, _, _, _, _, rfl, _⟩ := h; rfl; done)); done) | (intro ds Qd Ed h; rcases h with h | h <;> (first | (obtain ⟨_, rfl, _⟩ := h; rfl; done) | (obtain ⟨_, _, rfl, _⟩ := h; rfl; done) | (obtain ⟨_, _, _, rfl, _⟩ := h; rfl; done) | (obtain ⟨_, _, _, _, rfl, _⟩ := h; rfl; done) | (obtain ⟨_, _, _, _, _, rfl, _⟩ := h; rfl; done) | (obtain ⟨_, _, _, _, _, _, rfl, _⟩ := h; rfl; done) | (obtain ⟨_, _, _, _, _, _, _, rfl, _⟩ := h; rfl; done) | (obtain ⟨_, _, _, _, _, _, _, _, rfl, _⟩ := h; rfl; done)); done) | (intro ds Qd Ed h; rcases h with h | h | h <;> (first | (obtain ⟨_, rfl, _⟩ := h; rfl; done) | (obtain ⟨_, _, rfl, _⟩ := h; rfl; done) | (obtain ⟨_, _, _, rfl, _⟩ := h; rfl; done) | (obtain ⟨_, _, _, _, rfl, _⟩ := h; rfl; done) | (obtain ⟨_, _, _, _, _, rfl, _⟩ := h; rfl; done) | (obtain ⟨_, _, _, _, _, _, rfl, _⟩ := h; rfl; done) | (obtain ⟨_, _, _, _, _, _, _, rfl, _⟩ := h; rfl; done) | (obtain ⟨_, _, _, _, _, _, _, _, rfl, _⟩ := h; rfl; done)); done)) hw__law_with_given
  have h__law_sorts_ek : ErrK K (cx K) An := He6.errB_ok (c.more 12 rfl)
  have h__law_sorts_mc_InvalidNumber : mg "InvalidNumber" = some (.ref (cx K "InvalidNumber")) := He.glo_ok X G (c.fact 25 rfl)
  have h__law_sorts_mc_InvalidName : mg "InvalidName" = some (.ref (cx K "InvalidName")) := He.glo_ok X G (c.fact 24 rfl)
  have h__law_sorts_mc_InvalidText : mg "InvalidText" = some (.ref (cx K "InvalidText")) := He.glo_ok X G (c.fact 23 rfl)
  have h__law_sorts_mc_InvalidPlace : mg "InvalidPlace" = some (.ref (cx K "InvalidPlace")) := He.glo_ok X G (c.fact 28 rfl)
  have h__law_sorts_mc_InvalidWho : mg "InvalidWho" = some (.ref (cx K "InvalidWho")) := He.glo_ok X G (c.fact 27 rfl)
  have h__law_sorts_mc_InvalidOrder : mg "InvalidOrder" = some (.ref (cx K "InvalidOrder")) := He.glo_ok X G (c.fact 26 rfl)
  have h__law_sorts_mc_InvalidIndex : mg "InvalidIndex" = some (.ref (cx K "InvalidIndex")) := He.glo_ok X G (c.fact 31 rfl)
  have h__law_sorts_mc_InvalidWish : mg "InvalidWish" = some (.ref (cx K "InvalidWish")) := He.glo_ok X G (c.fact 30 rfl)
  have h__law_sorts_mc_InvalidChange : mg "InvalidChange" = some (.ref (cx K "InvalidChange")) := He.glo_ok X G (c.fact 29 rfl)
  have h__law_sorts_mc_UnknownName : mg "UnknownName" = some (.ref (cx K "UnknownName")) := He.glo_ok X G (c.fact 34 rfl)
  have h__law_sorts_mc_OtherKind : mg "OtherKind" = some (.ref (cx K "OtherKind")) := He.glo_ok X G (c.fact 33 rfl)
  have h__law_sorts_mc_NotAPlan : mg "NotAPlan" = some (.ref (cx K "NotAPlan")) := He.glo_ok X G (c.fact 32 rfl)
  have h__law_sorts_mc_InvalidPlaces : mg "InvalidPlaces" = some (.ref (cx K "InvalidPlaces")) := He.glo_ok X G (c.fact 35 rfl)
  have h__law_sorts_mc_InvalidMatches : mg "InvalidMatches" = some (.ref (cx K "InvalidMatches")) := He.glo_ok X G (c.fact 36 rfl)
  have h__law_sorts_mc_InvalidEntries : mg "InvalidEntries" = some (.ref (cx K "InvalidEntries")) := He.glo_ok X G (c.fact 37 rfl)
  have h__law_sorts_mc_InvalidThrows : mg "InvalidThrows" = some (.ref (cx K "InvalidThrows")) := He.glo_ok X G (c.fact 38 rfl)
  have h__law_sorts_mc_InvalidUpsets : mg "InvalidUpsets" = some (.ref (cx K "InvalidUpsets")) := He.glo_ok X G (c.fact 39 rfl)
  have h__law_sorts_mc_InvalidKnown : mg "InvalidKnown" = some (.ref (cx K "InvalidKnown")) := He.glo_ok X G (c.fact 40 rfl)
  have h__law_sorts_mc_InUse : mg "InUse" = some (.ref (cx K "InUse")) := He.glo_ok X G (c.fact 41 rfl)
  have h__law_sorts_mc_InvalidWishes : mg "InvalidWishes" = some (.ref (cx K "InvalidWishes")) := He.glo_ok X G (c.fact 42 rfl)
  have h__law_sorts_mc_InvalidChanges : mg "InvalidChanges" = some (.ref (cx K "InvalidChanges")) := He.glo_ok X G (c.fact 43 rfl)
  have h__law_sorts_mc_NothingToUndo : mg "NothingToUndo" = some (.ref (cx K "NothingToUndo")) := He.glo_ok X G (c.fact 44 rfl)
  have h__law_sorts_mc_Broken : mg "Broken" = some (.ref (cx K "Broken")) := He.glo_ok X G (c.fact 45 rfl)
  have G__law_sorts : FnG P w K mg base (L2.CX P w) 1 _ fd__law_sorts ["_law_e"] (lift K (cx K) [] sp__law_sorts) := ok__law_sorts F__law_sorts B h__law_sorts_ek h__law_sorts_mc_InvalidNumber h__law_sorts_mc_InvalidName h__law_sorts_mc_InvalidText h__law_sorts_mc_InvalidPlace h__law_sorts_mc_InvalidWho h__law_sorts_mc_InvalidOrder h__law_sorts_mc_InvalidIndex h__law_sorts_mc_InvalidWish h__law_sorts_mc_InvalidChange h__law_sorts_mc_UnknownName h__law_sorts_mc_OtherKind h__law_sorts_mc_NotAPlan h__law_sorts_mc_InvalidPlaces h__law_sorts_mc_InvalidMatches h__law_sorts_mc_InvalidEntries h__law_sorts_mc_InvalidThrows h__law_sorts_mc_InvalidUpsets h__law_sorts_mc_InvalidKnown h__law_sorts_mc_InUse h__law_sorts_mc_InvalidWishes h__law_sorts_mc_InvalidChanges h__law_sorts_mc_NothingToUndo h__law_sorts_mc_Broken (by first | (intro ds Qd Ed h; (first | (obtain ⟨_, rfl, _⟩ := h; rfl; done) | (obtain ⟨_, _, rfl, _⟩ := h; rfl; done) | (obtain ⟨_, _, _, rfl, _⟩ := h; rfl; done) | (obtain ⟨_, _, _, _, rfl, _⟩ := h; rfl; done) | (obtain ⟨_, _, _, _, _, rfl, _⟩ := h; rfl; done) | (obtain ⟨_, _, _, _, _, _, rfl, _⟩ := h; rfl; done) | (obtain ⟨_, _, _, _, _, _, _, rfl, _⟩ := h; rfl; done) | (obtain ⟨_, _, _, _, _, _, _, _, rfl, _⟩ := h; rfl; done)); done) | (intro ds Qd Ed h; rcases h with h | h <;> (first | (obtain ⟨_, rfl, _⟩ := h; rfl; done) | (obtain ⟨_, _, rfl, _⟩ := h; rfl; done) | (obtain ⟨_, _, _, rfl, _⟩ := h; rfl; done) | (obtain ⟨_, _, _, _, rfl, _⟩ := h; rfl; done) | (obtain ⟨_, _, _, _, _, rfl, _⟩ := h; rfl; done) | (obtain ⟨_, _, _, _, _, _, rfl, _⟩ := h; rfl; done) | (obtain ⟨_, _, _, _, _, _, _, rfl, _⟩ := h; rfl; done) | (obtain ⟨_, _, _, _, _, _, _, _, rfl, _⟩ := h; rfl; done)); done) | (intro ds Qd Ed h; rcases h with h | h | h <;> (first | (obtain ⟨_, rfl, _⟩ := h; rfl; done) | (obtain ⟨_, _, rfl, _⟩ := h; rfl; done) | (obtain ⟨_, _, _, rfl, _⟩ := h; rfl; done) | (obtain ⟨_, _, _, _, rfl, _⟩ := h; rfl; done) | (obtain ⟨_, _, _, _, _, rfl, _⟩ := h; rfl; done) | (obtain ⟨_, _, _, _, _, _, rfl, _⟩ := h; rfl; done) | (obtain ⟨_, _, _, _, _, _, _, rfl, _⟩ := h; rfl; done) | (obtain ⟨_, _, _, _, _, _, _, _, rfl, _⟩ := h; rfl; done)); done)) hw__law_sorts
  have h__law_is_of_c__law_sorts : Cal P w K (cx K) mg base 1 "_law_sorts" [] sp__law_sorts := ⟨_, fd__law_sorts, ["_law_e"], G__law_sorts, He.glo_ok X G (c.fact 46 rfl), F__law_sorts.kp, (F__law_sorts.bindsN fun _ _ _ _ _ _ us hl => match us, hl with | [_], _ => rfl)⟩
  have h__law_is_of_ek : ErrK K (cx K) An := He6.errB_ok (c.more 12 rfl)
  have h__law_is_of_mc_NoAnswer : mg "NoAnswer" = some (.ref (cx K "NoAnswer")) := He.glo_ok X G (c.fact 47 rfl)
  have h__law_is_of_mc_BadName : mg "BadName" = some (.ref (cx K "BadName")) := He.glo_ok X G (c.fact 48 rfl)
  have h__law_is_of_mc_BadValue : mg "BadValue" = some (.ref (cx K "BadValue")) := He.glo_ok X G (c.fact 49 rfl)
  have h__law_is_of_et : ErrT K (cx K) An Bn := He6.errTB_ok (c.more 13 rfl)
  have h__law_is_of_bn_ArithmeticError : mg "ArithmeticError" = none := He.free_ok X G (c.fact 50 rfl)
  have h__law_is_of_bn_LookupError : mg "LookupError" = none := He.free_ok X G (c.fact 51 rfl)
  have h__law_is_of_bn_ValueError : mg "ValueError" = none := He.free_ok X G (c.fact 52 rfl)
  have G__law_is_of : FnG P w K mg base (L2.CX P w) 2 _ fd__law_is_of ["_law_e", "_law_k"] (lift K (cx K) [] sp__law_is_of) := ok__law_is_of sp__law_sorts F__law_is_of B h__law_is_of_c__law_sorts h__law_is_of_ek h__law_is_of_mc_NoAnswer h__law_is_of_mc_BadName h__law_is_of_mc_BadValue h__law_is_of_et h__law_is_of_bn_ArithmeticError h__law_is_of_bn_LookupError h__law_is_of_bn_ValueError (by first | (intro ds Qd Ed h; (first | (obtain ⟨_, rfl, _⟩ := h; rfl; done) | (obtain ⟨_, _, rfl, _⟩ := h; rfl; done) | (obtain ⟨_, _, _, rfl, _⟩ := h; rfl; done) | (obtain ⟨_, _, _, _, rfl, _⟩ := h; rfl; done) | (obtain ⟨_, _, _, _, _, rfl, _⟩ := h; rfl; done) | (obtain ⟨_, _, _, _, _, _, rfl, _⟩ := h; rfl; done) | (obtain ⟨_, _, _, _, _, _, _, rfl, _⟩ := h; rfl; done) | (obtain ⟨_, _, _, _, _, _, _, _, rfl, _⟩ := h; rfl; done)); done) | (intro ds Qd Ed h; rcases h with h | h <;> (first | (obtain ⟨_, rfl, _⟩ := h; rfl; done) | (obtain ⟨_, _, rfl, _⟩ := h; rfl; done) | (obtain ⟨_, _, _, rfl, _⟩ := h; rfl; done) | (obtain ⟨_, _, _, _, rfl, _⟩ := h; rfl; done) | (obtain ⟨_, _, _, _, _, rfl, _⟩ := h; rfl; done) | (obtain ⟨_, _, _, _, _, _, rfl, _⟩ := h; rfl; done) | (obtain ⟨_, _, _, _, _, _, _, rfl, _⟩ := h; rfl; done) | (obtain ⟨_, _, _, _, _, _, _, _, rfl, _⟩ := h; rfl; done)); done) | (intro ds Qd Ed h; rcases h with h | h | h <;> (first | (obtain ⟨_, rfl, _⟩ := h; rfl; done) | (obtain ⟨_, _, rfl, _⟩ := h; rfl; done) | (obtain ⟨_, _, _, rfl, _⟩ := h; rfl; done) | (obtain ⟨_, _, _, _, rfl, _⟩ := h; rfl; done) | (obtain ⟨_, _, _, _, _, rfl, _⟩ := h; rfl; done) | (obtain ⟨_, _, _, _, _, _, rfl, _⟩ := h; rfl; done) | (obtain ⟨_, _, _, _, _, _, _, rfl, _⟩ := h; rfl; done) | (obtain ⟨_, _, _, _, _, _, _, _, rfl, _⟩ := h; rfl; done)); done)) hw__law_is_of
  have h__law_with_index_xa_InvalidEntries : XclA P w K (cx K) mg base "InvalidEntries" "index" := He6.xclAB_ok (c.more 14 rfl) (He.glo_ok X G (c.fact 37 rfl)) (xinitA_ok F_InvalidEntries__init_ sc_InvalidEntries__init_ rfl rfl (by decide) (by decide)) (F_InvalidEntries__init_.bindsN fun _ _ _ _ _ _ us hl => match us, hl with | [_, _], _ => rfl) (kbindsP F_InvalidEntries__init_ 1 ["index"] [0, 1] (fun _ _ _ _ _ _ us ws h1 h2 => match us, ws, h1, h2 with | [_], [_], _, _ => rfl))
  have h__law_with_index_xa_InvalidMatches : XclA P w K (cx K) mg base "InvalidMatches" "index" := He6.xclAB_ok (c.more 15 rfl) (He.glo_ok X G (c.fact 36 rfl)) (xinitA_ok F_InvalidMatches__init_ sc_InvalidMatches__init_ rfl rfl (by decide) (by decide)) (F_InvalidMatches__init_.bindsN fun _ _ _ _ _ _ us hl => match us, hl with | [_, _], _ => rfl) (kbindsP F_InvalidMatches__init_ 1 ["index"] [0, 1] (fun _ _ _ _ _ _ us ws h1 h2 => match us, ws, h1, h2 with | [_], [_], _, _ => rfl))
  have h__law_with_index_xa_InvalidPlaces : XclA P w K (cx K) mg base "InvalidPlaces" "index" := He6.xclAB_ok (c.more 16 rfl) (He.glo_ok X G (c.fact 35 rfl)) (xinitA_ok F_InvalidPlaces__init_ sc_InvalidPlaces__init_ rfl rfl (by decide) (by decide)) (F_InvalidPlaces__init_.bindsN fun _ _ _ _ _ _ us hl => match us, hl with | [_, _], _ => rfl) (kbindsP F_InvalidPlaces__init_ 1 ["index"] [0, 1] (fun _ _ _ _ _ _ us ws h1 h2 => match us, ws, h1, h2 with | [_], [_], _, _ => rfl))
  have h__law_with_index_xa_InvalidKnown : XclA P w K (cx K) mg base "InvalidKnown" "index" := He6.xclAB_ok (c.more 17 rfl) (He.glo_ok X G (c.fact 40 rfl)) (xinitA_ok F_InvalidKnown__init_ sc_InvalidKnown__init_ rfl rfl (by decide) (by decide)) (F_InvalidKnown__init_.bindsN fun _ _ _ _ _ _ us hl => match us, hl with | [_, _], _ => rfl) (kbindsP F_InvalidKnown__init_ 1 ["index"] [0, 1] (fun _ _ _ _ _ _ us ws h1 h2 => match us, ws, h1, h2 with | [_], [_], _, _ => rfl))
  have h__law_with_index_xa_InvalidUpsets : XclA P w K (cx K) mg base "InvalidUpsets" "index" := He6.xclAB_ok (c.more 18 rfl) (He.glo_ok X G (c.fact 39 rfl)) (xinitA_ok F_InvalidUpsets__init_ sc_InvalidUpsets__init_ rfl rfl (by decide) (by decide)) (F_InvalidUpsets__init_.bindsN fun _ _ _ _ _ _ us hl => match us, hl with | [_, _], _ => rfl) (kbindsP F_InvalidUpsets__init_ 1 ["index"] [0, 1] (fun _ _ _ _ _ _ us ws h1 h2 => match us, ws, h1, h2 with | [_], [_], _, _ => rfl))
  have h__law_with_index_xa_InvalidThrows : XclA P w K (cx K) mg base "InvalidThrows" "index" := He6.xclAB_ok (c.more 19 rfl) (He.glo_ok X G (c.fact 38 rfl)) (xinitA_ok F_InvalidThrows__init_ sc_InvalidThrows__init_ rfl rfl (by decide) (by decide)) (F_InvalidThrows__init_.bindsN fun _ _ _ _ _ _ us hl => match us, hl with | [_, _], _ => rfl) (kbindsP F_InvalidThrows__init_ 1 ["index"] [0, 1] (fun _ _ _ _ _ _ us ws h1 h2 => match us, ws, h1, h2 with | [_], [_], _, _ => rfl))
  have h__law_with_index_xa_InvalidChanges : XclA P w K (cx K) mg base "InvalidChanges" "index" := He6.xclAB_ok (c.more 20 rfl) (He.glo_ok X G (c.fact 43 rfl)) (xinitA_ok F_InvalidChanges__init_ sc_InvalidChanges__init_ rfl rfl (by decide) (by decide)) (F_InvalidChanges__init_.bindsN fun _ _ _ _ _ _ us hl => match us, hl with | [_, _], _ => rfl) (kbindsP F_InvalidChanges__init_ 1 ["index"] [0, 1] (fun _ _ _ _ _ _ us ws h1 h2 => match us, ws, h1, h2 with | [_], [_], _, _ => rfl))
  have h__law_with_index_xa_InvalidWishes : XclA P w K (cx K) mg base "InvalidWishes" "index" := He6.xclAB_ok (c.more 21 rfl) (He.glo_ok X G (c.fact 42 rfl)) (xinitA_ok F_InvalidWishes__init_ sc_InvalidWishes__init_ rfl rfl (by decide) (by decide)) (F_InvalidWishes__init_.bindsN fun _ _ _ _ _ _ us hl => match us, hl with | [_, _], _ => rfl) (kbindsP F_InvalidWishes__init_ 1 ["index"] [0, 1] (fun _ _ _ _ _ _ us ws h1 h2 => match us, ws, h1, h2 with | [_], [_], _, _ => rfl))
  have h__law_with_index_xa_InUse : XclA P w K (cx K) mg base "InUse" "index" := He6.xclAB_ok (c.more 22 rfl) (He.glo_ok X G (c.fact 41 rfl)) (xinitA_ok F_InUse__init_ sc_InUse__init_ rfl rfl (by decide) (by decide)) (F_InUse__init_.bindsN fun _ _ _ _ _ _ us hl => match us, hl with | [_, _], _ => rfl) (kbindsP F_InUse__init_ 1 ["index"] [0, 1] (fun _ _ _ _ _ _ us ws h1 h2 => match us, ws, h1, h2 with | [_], [_], _, _ => rfl))
  have h__law_with_index_xa_Broken : XclA P w K (cx K) mg base "Broken" "index" := He6.xclAB_ok (c.more 23 rfl) (He.glo_ok X G (c.fact 45 rfl)) (xinitA_ok F_Broken__init_ sc_Broken__init_ rfl rfl (by decide) (by decide)) (F_Broken__init_.bindsN fun _ _ _ _ _ _ us hl => match us, hl with | [_, _], _ => rfl) (kbindsP F_Broken__init_ 1 ["index"] [0, 1] (fun _ _ _ _ _ _ us ws h1 h2 => match us, ws, h1, h2 with | [_], [_], _, _ => rfl))
  have G__law_with_index : FnG P w K mg base (L2.CX P w) 3 _ fd__law_with_index ["_law_k", "_law_thing_here", "_law_by_name"] (lift K (cx K) [] sp__law_with_index) := ok__law_with_index F__law_with_index B h__law_with_index_xa_InvalidEntries h__law_with_index_xa_InvalidMatches h__law_with_index_xa_InvalidPlaces h__law_with_index_xa_InvalidKnown h__law_with_index_xa_InvalidUpsets h__law_with_index_xa_InvalidThrows h__law_with_index_xa_InvalidChanges h__law_with_index_xa_InvalidWishes h__law_with_index_xa_InUse h__law_with_index_xa_Broken (by first | (intro ds Qd Ed h; (first | (obtain ⟨_, rfl, _⟩ := h; rfl; done) | (obtain ⟨_, _, rfl, _⟩ := h; rfl; done) | (obtain ⟨_, _, _, rfl, _⟩ := h; rfl; done) | (obtain ⟨_, _, _, _, rfl, _⟩ := h; rfl; done) | (obtain ⟨_, _, _, _, _, rfl, _⟩ := h; rfl; done) | (obtain ⟨_, _, _, _, _, _, rfl, _⟩ := h; rfl; done) | (obtain ⟨_, _, _, _, _, _, _, rfl, _⟩ := h; rfl; done) | (obtain ⟨_, _, _, _, _, _, _, _, rfl, _⟩ := h; rfl; done)); done) | (intro ds Qd Ed h; rcases h with h | h <;> (first | (obtain ⟨_, rfl, _⟩ := h; rfl; done) | (obtain ⟨_, _, rfl, _⟩ := h; rfl; done) | (obtain ⟨_, _, _, rfl, _⟩ := h; rfl; done) | (obtain ⟨_, _, _, _, rfl, _⟩ := h; rfl; done) | (obtain ⟨_, _, _, _, _, rfl, _⟩ := h; rfl; done) | (obtain ⟨_, _, _, _, _, _, rfl, _⟩ := h; rfl; done) | (obtain ⟨_, _, _, _, _, _, _, rfl, _⟩ := h; rfl; done) | (obtain ⟨_, _, _, _, _, _, _, _, rfl, _⟩ := h; rfl; done)); done) | (intro ds Qd Ed h; rcases h with h | h | h <;> (first | (obtain ⟨_, rfl, _⟩ := h; rfl; done) | (obtain ⟨_, _, rfl, _⟩ := h; rfl; done) | (obtain ⟨_, _, _, rfl, _⟩ := h; rfl; done) | (obtain ⟨_, _, _, _, rfl, _⟩ := h; rfl; done) | (obtain ⟨_, _, _, _, _, rfl, _⟩ := h; rfl; done) | (obtain ⟨_, _, _, _, _, _, rfl, _⟩ := h; rfl; done) | (obtain ⟨_, _, _, _, _, _, _, rfl, _⟩ := h; rfl; done) | (obtain ⟨_, _, _, _, _, _, _, _, rfl, _⟩ := h; rfl; done)); done)) hw__law_with_index
  have h__law_right_sy : SysK K := (c.more 24 rfl)
  have h__law_right_c__law_with_given : Cal P w K (cx K) mg base 3 "_law_with_given" [] sp__law_with_given := ⟨_, fd__law_with_given, ["_law_k", "_law_thing_here", "_law_by_name"], G__law_with_given, He.glo_ok X G (c.fact 53 rfl), F__law_with_given.kp, (F__law_with_given.bindsN fun _ _ _ _ _ _ us hl => match us, hl with | [_, _, _], _ => rfl)⟩
  have h__law_right_c__law_is_of : Cal P w K (cx K) mg base 2 "_law_is_of" [] sp__law_is_of := ⟨_, fd__law_is_of, ["_law_e", "_law_k"], G__law_is_of, He.glo_ok X G (c.fact 54 rfl), F__law_is_of.kp, (F__law_is_of.bindsN fun _ _ _ _ _ _ us hl => match us, hl with | [_, _], _ => rfl)⟩
  have h__law_right_ek : ErrK K (cx K) An := He6.errB_ok (c.more 12 rfl)
  have h__law_right_c__law_with_index : Cal P w K (cx K) mg base 3 "_law_with_index" [] sp__law_with_index := ⟨_, fd__law_with_index, ["_law_k", "_law_thing_here", "_law_by_name"], G__law_with_index, He.glo_ok X G (c.fact 55 rfl), F__law_with_index.kp, (F__law_with_index.bindsN fun _ _ _ _ _ _ us hl => match us, hl with | [_, _, _], _ => rfl)⟩
  have h__law_right_x0_NothingToUndo : Xcl0 P w K (cx K) mg base "NothingToUndo" := He6.xcl0B_ok (c.more 25 rfl) (He.glo_ok X G (c.fact 44 rfl)) (xinit0_ok F_NothingToUndo__init_ sc_NothingToUndo__init_) (F_NothingToUndo__init_.bindsN fun _ _ _ _ _ _ us hl => match us, hl with | [_], _ => rfl)
  have G__law_right : FnG P w K mg base (L2.CX P w) 4 _ fd__law_right ["_law_thing_here"] (lift K (cx K) [] sp__law_right) := ok__law_right sp__law_with_given sp__law_is_of sp__law_with_index F__law_right B h__law_right_sy h__law_right_c__law_with_given h__law_right_c__law_is_of h__law_right_ek h__law_right_c__law_with_index h__law_right_x0_NothingToUndo (by first | (intro ds Qd Ed h; (first | (obtain ⟨_, rfl, _⟩ := h; rfl; done) | (obtain ⟨_, _, rfl, _⟩ := h; rfl; done) | (obtain ⟨_, _, _, rfl, _⟩ := h; rfl; done) | (obtain ⟨_, _, _, _, rfl, _⟩ := h; rfl; done) | (obtain ⟨_, _, _, _, _, rfl, _⟩ := h; rfl; done) | (obtain ⟨_, _, _, _, _, _, rfl, _⟩ := h; rfl; done) | (obtain ⟨_, _, _, _, _, _, _, rfl, _⟩ := h; rfl; done) | (obtain ⟨_, _, _, _, _, _, _, _, rfl, _⟩ := h; rfl; done)); done) | (intro ds Qd Ed h; rcases h with h | h <;> (first | (obtain ⟨_, rfl, _⟩ := h; rfl; done) | (obtain ⟨_, _, rfl, _⟩ := h; rfl; done) | (obtain ⟨_, _, _, rfl, _⟩ := h; rfl; done) | (obtain ⟨_, _, _, _, rfl, _⟩ := h; rfl; done) | (obtain ⟨_, _, _, _, _, rfl, _⟩ := h; rfl; done) | (obtain ⟨_, _, _, _, _, _, rfl, _⟩ := h; rfl; done) | (obtain ⟨_, _, _, _, _, _, _, rfl, _⟩ := h; rfl; done) | (obtain ⟨_, _, _, _, _, _, _, _, rfl, _⟩ := h; rfl; done)); done) | (intro ds Qd Ed h; rcases h with h | h | h <;> (first | (obtain ⟨_, rfl, _⟩ := h; rfl; done) | (obtain ⟨_, _, rfl, _⟩ := h; rfl; done) | (obtain ⟨_, _, _, rfl, _⟩ := h; rfl; done) | (obtain ⟨_, _, _, _, rfl, _⟩ := h; rfl; done) | (obtain ⟨_, _, _, _, _, rfl, _⟩ := h; rfl; done) | (obtain ⟨_, _, _, _, _, _, rfl, _⟩ := h; rfl; done) | (obtain ⟨_, _, _, _, _, _, _, rfl, _⟩ := h; rfl; done) | (obtain ⟨_, _, _, _, _, _, _, _, rfl, _⟩ := h; rfl; done)); done)) hw__law_right
  have G__law_draw : FnG P w K mg base (L2.CX P w) 1 _ fd__law_draw ["_law_pot_here", "_law_many"] (lift K (cx K) [0] sp__law_draw) := ok__law_draw F__law_draw B  (by first | (intro ds Qd Ed h; (first | (obtain ⟨_, rfl, _⟩ := h; rfl; done) | (obtain ⟨_, _, rfl, _⟩ := h; rfl; done) | (obtain ⟨_, _, _, rfl, _⟩ := h; rfl; done) | (obtain ⟨_, _, _, _, rfl, _⟩ := h; rfl; done) | (obtain ⟨_, _, _, _, _, rfl, _⟩ := h; rfl; done) | (obtain ⟨_, _, _, _, _, _, rfl, _⟩ := h; rfl; done) | (obtain ⟨_, _, _, _, _, _, _, rfl, _⟩ := h; rfl; done) | (obtain ⟨_, _, _, _, _, _, _, _, rfl, _⟩ := h; rfl; done)); done) | (intro ds Qd Ed h; rcases h with h | h <;> (first | (obtain ⟨_, rfl, _⟩ := h; rfl; done) | (obtain ⟨_, _, rfl, _⟩ := h; rfl; done) | (obtain ⟨_, _, _, rfl, _⟩ := h; rfl; done) | (obtain ⟨_, _, _, _, rfl, _⟩ := h; rfl; done) | (obtain ⟨_, _, _, _, _, rfl, _⟩ := h; rfl; done) | (obtain ⟨_, _, _, _, _, _, rfl, _⟩ := h; rfl; done) | (obtain ⟨_, _, _, _, _, _, _, rfl, _⟩ := h; rfl; done) | (obtain ⟨_, _, _, _, _, _, _, _, rfl, _⟩ := h; rfl; done)); done) | (intro ds Qd Ed h; rcases h with h | h | h <;> (first | (obtain ⟨_, rfl, _⟩ := h; rfl; done) | (obtain ⟨_, _, rfl, _⟩ := h; rfl; done) | (obtain ⟨_, _, _, rfl, _⟩ := h; rfl; done) | (obtain ⟨_, _, _, _, rfl, _⟩ := h; rfl; done) | (obtain ⟨_, _, _, _, _, rfl, _⟩ := h; rfl; done) | (obtain ⟨_, _, _, _, _, _, rfl, _⟩ := h; rfl; done) | (obtain ⟨_, _, _, _, _, _, _, rfl, _⟩ := h; rfl; done) | (obtain ⟨_, _, _, _, _, _, _, _, rfl, _⟩ := h; rfl; done)); done)) hw__law_draw
  have h__law_thing_c__law_draw : Cal P w K (cx K) mg base 1 "_law_draw" [0] sp__law_draw := ⟨_, fd__law_draw, ["_law_pot_here", "_law_many"], G__law_draw, He.glo_ok X G (c.fact 56 rfl), F__law_draw.kp, (F__law_draw.bindsN fun _ _ _ _ _ _ us hl => match us, hl with | [_, _], _ => rfl)⟩
  have G__law_thing : FnG P w K mg base (L2.CX P w) 2 _ fd__law_thing ["_law_pot_here"] (lift K (cx K) [0] sp__law_thing) := ok__law_thing sp__law_draw F__law_thing B h__law_thing_c__law_draw (by first | (intro ds Qd Ed h; (first | (obtain ⟨_, rfl, _⟩ := h; rfl; done) | (obtain ⟨_, _, rfl, _⟩ := h; rfl; done) | (obtain ⟨_, _, _, rfl, _⟩ := h; rfl; done) | (obtain ⟨_, _, _, _, rfl, _⟩ := h; rfl; done) | (obtain ⟨_, _, _, _, _, rfl, _⟩ := h; rfl; done) | (obtain ⟨_, _, _, _, _, _, rfl, _⟩ := h; rfl; done) | (obtain ⟨_, _, _, _, _, _, _, rfl, _⟩ := h; rfl; done) | (obtain ⟨_, _, _, _, _, _, _, _, rfl, _⟩ := h; rfl; done)); done) | (intro ds Qd Ed h; rcases h with h | h <;> (first | (obtain ⟨_, rfl, _⟩ := h; rfl; done) | (obtain ⟨_, _, rfl, _⟩ := h; rfl; done) | (obtain ⟨_, _, _, rfl, _⟩ := h; rfl; done) | (obtain ⟨_, _, _, _, rfl, _⟩ := h; rfl; done) | (obtain ⟨_, _, _, _, _, rfl, _⟩ := h; rfl; done) | (obtain ⟨_, _, _, _, _, _, rfl, _⟩ := h; rfl; done) | (obtain ⟨_, _, _, _, _, _, _, rfl, _⟩ := h; rfl; done) | (obtain ⟨_, _, _, _, _, _, _, _, rfl, _⟩ := h; rfl; done)); done) | (intro ds Qd Ed h; rcases h with h | h | h <;> (first | (obtain ⟨_, rfl, _⟩ := h; rfl; done) | (obtain ⟨_, _, rfl, _⟩ := h; rfl; done) | (obtain ⟨_, _, _, rfl, _⟩ := h; rfl; done) | (obtain ⟨_, _, _, _, rfl, _⟩ := h; rfl; done) | (obtain ⟨_, _, _, _, _, rfl, _⟩ := h; rfl; done) | (obtain ⟨_, _, _, _, _, _, rfl, _⟩ := h; rfl; done) | (obtain ⟨_, _, _, _, _, _, _, rfl, _⟩ := h; rfl; done) | (obtain ⟨_, _, _, _, _, _, _, _, rfl, _⟩ := h; rfl; done)); done)) hw__law_thing
  have h_law_g_MOST_WISHES : ∃ t, mg "MOST_WISHES" = some (.int 6 t) := He.int_ok X G (c.fact 57 rfl)
  have h_law_g_MOST_CHANGES : ∃ t, mg "MOST_CHANGES" = some (.int 6 t) := He.int_ok X G (c.fact 58 rfl)
  have h_law_g_MOST_KNOWN : ∃ t, mg "MOST_KNOWN" = some (.int 12 t) := He.int_ok X G (c.fact 59 rfl)
  have h_law_g_MOST_MATCHES : ∃ t, mg "MOST_MATCHES" = some (.int 24 t) := He.int_ok X G (c.fact 60 rfl)
  have h_law_g_MOST_ENTRIES : ∃ t, mg "MOST_ENTRIES" = some (.int 8 t) := He.int_ok X G (c.fact 61 rfl)
  have h_law_sy : SysK K := (c.more 24 rfl)
  have h_law_c__law_pot : Cal P w K (cx K) mg base 1 "_law_pot" [] sp__law_pot := ⟨_, fd__law_pot, ["_law_cell_here"], G__law_pot, He.glo_ok X G (c.fact 62 rfl), F__law_pot.kp, (F__law_pot.bindsN fun _ _ _ _ _ _ us hl => match us, hl with | [_], _ => rfl)⟩
  have h_law_c__law_cell : Cal P w K (cx K) mg base 1 "_law_cell" [] sp__law_cell := ⟨_, fd__law_cell, ["_law_cells", "_law_k"], G__law_cell, He.glo_ok X G (c.fact 63 rfl), F__law_cell.kp, (F__law_cell.bindsN fun _ _ _ _ _ _ us hl => match us, hl with | [_, _], _ => rfl)⟩
  have h_law_c__law_right : Cal P w K (cx K) mg base 4 "_law_right" [] sp__law_right := ⟨_, fd__law_right, ["_law_thing_here"], G__law_right, He.glo_ok X G (c.fact 64 rfl), F__law_right.kp, (F__law_right.bindsN fun _ _ _ _ _ _ us hl => match us, hl with | [_], _ => rfl)⟩
  have h_law_c__law_thing : Cal P w K (cx K) mg base 2 "_law_thing" [0] sp__law_thing := ⟨_, fd__law_thing, ["_law_pot_here"], G__law_thing, He.glo_ok X G (c.fact 65 rfl), F__law_thing.kp, (F__law_thing.bindsN fun _ _ _ _ _ _ us hl => match us, hl with | [_], _ => rfl)⟩
  have G_law : FnG P w K mg base (L2.CX P w) 5 _ fd_law ["_law_cells"] (lift K (cx K) [] sp_law) := ok_law sp__law_pot sp__law_cell sp__law_right sp__law_thing F_law B h_law_g_MOST_WISHES h_law_g_MOST_CHANGES h_law_g_MOST_KNOWN h_law_g_MOST_MATCHES h_law_g_MOST_ENTRIES h_law_sy h_law_c__law_pot h_law_c__law_cell h_law_c__law_right h_law_c__law_thing (by first | (intro ds Qd Ed h; (first | (obtain ⟨_, rfl, _⟩ := h; rfl; done) | (obtain ⟨_, _, rfl, _⟩ := h; rfl; done) | (obtain ⟨_, _, _, rfl, _⟩ := h; rfl; done) | (obtain ⟨_, _, _, _, rfl, _⟩ := h; rfl; done) | (obtain ⟨_, _, _, _, _, rfl, _⟩ := h; rfl; done) | (obtain ⟨_, _, _, _, _, _, rfl, _⟩ := h; rfl; done) | (obtain ⟨_, _, _, _, _, _, _, rfl, _⟩ := h; rfl; done) | (obtain ⟨_, _, _, _, _, _, _, _, rfl, _⟩ := h; rfl; done)); done) | (intro ds Qd Ed h; rcases h with h | h <;> (first | (obtain ⟨_, rfl, _⟩ := h; rfl; done) | (obtain ⟨_, _, rfl, _⟩ := h; rfl; done) | (obtain ⟨_, _, _, rfl, _⟩ := h; rfl; done) | (obtain ⟨_, _, _, _, rfl, _⟩ := h; rfl; done) | (obtain ⟨_, _, _, _, _, rfl, _⟩ := h; rfl; done) | (obtain ⟨_, _, _, _, _, _, rfl, _⟩ := h; rfl; done) | (obtain ⟨_, _, _, _, _, _, _, rfl, _⟩ := h; rfl; done) | (obtain ⟨_, _, _, _, _, _, _, _, rfl, _⟩ := h; rfl; done)); done) | (intro ds Qd Ed h; rcases h with h | h | h <;> (first | (obtain ⟨_, rfl, _⟩ := h; rfl; done) | (obtain ⟨_, _, rfl, _⟩ := h; rfl; done) | (obtain ⟨_, _, _, rfl, _⟩ := h; rfl; done) | (obtain ⟨_, _, _, _, rfl, _⟩ := h; rfl; done) | (obtain ⟨_, _, _, _, _, rfl, _⟩ := h; rfl; done) | (obtain ⟨_, _, _, _, _, _, rfl, _⟩ := h; rfl; done) | (obtain ⟨_, _, _, _, _, _, _, rfl, _⟩ := h; rfl; done) | (obtain ⟨_, _, _, _, _, _, _, _, rfl, _⟩ := h; rfl; done)); done)) hw_law
  exact G_law
end L
open PySem PySem.W PySem.Calls PyProof.Rows
theorem PySem.Challenge.cw_matchplans_k01_constants_and_errors_holds : PySem.Challenge.rw_matchplans_k01_constants_and_errors.Holds := by
  w_on; o_law
  refine HandSHeadRun.head_any (r := OpenLaw.row PySem.Challenge.rw_matchplans_k01_constants_and_errors) (q := view (OpenLaw.row PySem.Challenge.rw_matchplans_k01_constants_and_errors).prog [42]) (H := L.hk) (ob := L.ob) (M := 20000) (loose := L.looseL) (d := HandSHeadRun.topDef (OpenLaw.row PySem.Challenge.rw_matchplans_k01_constants_and_errors).prog 42) (kwd := []) L.ob_eq
    (by kernel_rfl) (fun s => by kernel_rfl) L.run (by kernel_rfl) (by kernel_rfl) (by kernel_rfl) (by rfl) (by first | assumption | decide +kernel) (by decide +kernel) ⟨rfl, rfl, rfl, rfl, rfl, by decide +kernel⟩ ?hw ?hc
  case hw => w_witness2
  case hc =>
    refine M.walk_ofG (l := PySem.Challenge.rw_matchplans_k01_constants_and_errors) (n := 63) (k := 5) (x := "_law_cells") rfl (by decide) (by kernel_rfl) ⟨rfl, by decide, by decide⟩ ?F
    intro w mg fa h Y G hmg0
    obtain ⟨K, KX, c⟩ := Y
    have hmg : mg ("law" : PySem.Str) = some (.ref fa) := by
      have e : (HandSHeadRun.topDef (OpenLaw.row PySem.Challenge.rw_matchplans_k01_constants_and_errors).prog 42).name = ("law" : PySem.Str) := by kernel_rfl
      rw [← e]
      exact hmg0
    obtain ⟨fd, hb, hl, hG⟩ := L.facts (P := (PySem.Challenge.rw_matchplans_k01_constants_and_errors).prog) (w := w) KX G c
    have e := hmg.symm.trans hl
    cases e
    exact ⟨K, fd, M.lift K (L.cx K) [] L.sp_law, KX, hb, fun H a ns hn hS => M.law_end (fun _ h => nomatch h) hS ⟨ns, rfl, rfl⟩, fun base _ _ => hG base⟩
