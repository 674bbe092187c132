import PyProof.Rows.All
import Wide.All
import OpenK.AllK
import Wide.FinOn
import HandS.ForMost
import HandS.Deep
import HandS.TupAny
import HandS.Star
import HandS.TryOnly
import HandS.Zip
import HandS.CallSlots
import HandS.ForExc
import HandS.Defaults
import HandS.Property
import HandS.MakeKw
import HandS.MakeKwOnly
import HandS.Ends
import HandS.Style
import KE.KCallOwn
import HandS.HeadHook4
import HandS.Dict
import HandS.DictComp
import HandS.Small
import HandS.Iter
import HandS.IsInst
import HandS.Codes
import KE.GoesMore
import KE.GoesEnum
import KE.DatumIndex
import HandS.FStr
import HandS.HeadEnd
import HandS.Head0
import HandS.Head1
import HandS.Head2
import HandS.HeadHook1
import HandS.HeadHook2
import HandS.HeadNt
import KE.KStateDown
import PySem.Challenge.RW_matchplans_k02_plans_made
set_option Elab.async false
set_option linter.all false
set_option maxRecDepth 100000
set_option maxHeartbeats 4000000
/-! M1: values as data, what represents them, states. -/
namespace M
open PySem PySem.Spec PyProof.Rows L2

/-- Python's values as data. The Bool of a list, a dict, an instance: true where its holder alone has it (it may be changed), false where it is shared and stays.
    What an owned list, dict, instance holds is shared; lso: an owned list whose items are owned; tpo: a tuple (a result) whose items may be owned.
    scr: the law's script. sl i: the object that the slot i holds (a result only) -/
inductive D where
  | non | bl (b : Bool) | int (i : Int) | str (x : Str)
  | tup (xs : List D)
  | tpo (xs : List D)
  | lst (o : Bool) (xs : List D)
  | lso (xs : List D)
  | dct (o : Bool) (ks : List Key) (xs : List D)
  | dcu (o : Bool) (ks : List (List Key)) (xs : List D)
  | ins (o : Bool) (c : Str) (fs : List Str) (xs : List D)
  | opq (v : V)
  | scr (ns : List Int)
  | sl (i : Nat)

/-- what is fixed in a def: the written part, the classes' addresses, the owned parameters with their values; the state where it began (or where a try began) -/
structure Gc where
  K : PySem.W.Frag
  ca : Str → Addr
  pm : List (Nat × V)
  F0 : Addr → Prop
  H0 : Hp
  fp0 : List Addr

def MutK : HO → Prop
  | .lst _ => True
  | .dK _ => True
  | .dT _ => True
  | .ins _ _ _ => True
  | .set _ _ => True
  | .ext _ => True
  | _ => False

mutual
/-- v stands for d in H; F: what is shared and stays; fp: the owned objects that it reaches -/
inductive Rp (K : PySem.W.Frag) (ca : Str → Addr) (F : Addr → Prop) (H : Hp) : V → D → List Addr → Prop
  | non : Rp K ca F H .non .non []
  | bl (b : Bool) : Rp K ca F H (.bl b) (.bl b) []
  | int (i : Int) : Rp K ca F H (.int i) (.int i) []
  | str (x : Str) : Rp K ca F H (.str x) (.str x) []
  | opq (v : V) : Rp K ca F H v (.opq v) []
  | scr {a : Addr} {ns : List Int} : ((∃ o, H a = some (.frz o (.lst (ns.map V.int)))) ∨ SqL K (fun _ => none) a (ns.map V.int)) → Rp K ca F H (.ref a) (.scr ns) []
  | tup {a : Addr} {vs : List V} {ds : List D} : SqT K H a vs → RpL K ca F H vs ds [] → Rp K ca F H (.ref a) (.tup ds) []
  | tpo {a : Addr} {vs : List V} {ds : List D} {fp : List Addr} : SqT K H a vs → RpL K ca F H vs ds fp → Rp K ca F H (.ref a) (.tpo ds) fp
  | lfz {a : Addr} {vs : List V} {ds : List D} : H a = some (.lst vs) → F a → RpL K ca F H vs ds [] → Rp K ca F H (.ref a) (.lst false ds) []
  | low {a : Addr} {vs : List V} {ds : List D} : H a = some (.lst vs) → ¬ F a → RpL K ca F H vs ds [] → Rp K ca F H (.ref a) (.lst true ds) [a]
  | lso {a : Addr} {vs : List V} {ds : List D} {fp : List Addr} : H a = some (.lst vs) → ¬ F a → RpL K ca F H vs ds fp → Rp K ca F H (.ref a) (.lso ds) (a :: fp)
  | dfz {a : Addr} {ks : List Key} {vs : List V} {ds : List D} : Rd H a (.dK (ks.zip vs)) → F a → ks.length = vs.length → RpL K ca F H vs ds [] → Rp K ca F H (.ref a) (.dct false ks ds) []
  | dow {a : Addr} {ks : List Key} {vs : List V} {ds : List D} : H a = some (.dK (ks.zip vs)) → ¬ F a → ks.length = vs.length → RpL K ca F H vs ds [] → Rp K ca F H (.ref a) (.dct true ks ds) [a]
  | ufz {a : Addr} {ks : List (List Key)} {vs : List V} {ds : List D} : Rd H a (.dT (ks.zip vs)) → F a → ks.length = vs.length → RpL K ca F H vs ds [] → Rp K ca F H (.ref a) (.dcu false ks ds) []
  | uow {a : Addr} {ks : List (List Key)} {vs : List V} {ds : List D} : H a = some (.dT (ks.zip vs)) → ¬ F a → ks.length = vs.length → RpL K ca F H vs ds [] → Rp K ca F H (.ref a) (.dcu true ks ds) [a]
  | ifz {a dx : Addr} {c : Str} {fs : List Str} {vs : List V} {ds : List D} : H a = some (.ins (ca c) dx (fs.zip vs)) → F a → fs.length = vs.length → RpL K ca F H vs ds [] → Rp K ca F H (.ref a) (.ins false c fs ds) []
  | iow {a dx : Addr} {c : Str} {fs : List Str} {vs : List V} {ds : List D} : H a = some (.ins (ca c) dx (fs.zip vs)) → ¬ F a → fs.length = vs.length → RpL K ca F H vs ds [] → Rp K ca F H (.ref a) (.ins true c fs ds) [a]
inductive RpL (K : PySem.W.Frag) (ca : Str → Addr) (F : Addr → Prop) (H : Hp) : List V → List D → List Addr → Prop
  | nil : RpL K ca F H [] [] []
  | cons {v : V} {vs : List V} {d : D} {ds : List D} {fp fq : List Addr} : Rp K ca F H v d fp → RpL K ca F H vs ds fq → RpL K ca F H (v :: vs) (d :: ds) (fp ++ fq)
end

mutual
/-- shared from now on -/
def fz : D → D
  | .tpo xs => .tup (fzL xs)
  | .lso xs => .lst false (fzL xs)
  | .lst _ xs => .lst false xs
  | .dct _ ks xs => .dct false ks xs
  | .dcu _ ks xs => .dcu false ks xs
  | .ins _ c fs xs => .ins false c fs xs
  | .tup xs => .tup xs
  | .non => .non
  | .bl b => .bl b
  | .int i => .int i
  | .str x => .str x
  | .opq v => .opq v
  | .scr ns => .scr ns
  | .sl i => .sl i
def fzL : List D → List D
  | [] => []
  | x :: xs => fz x :: fzL xs
end
/-- it owns something -/
def isOw : D → Bool
  | .tpo _ => true
  | .lso _ => true
  | .lst o _ => o
  | .dct o _ _ => o
  | .dcu o _ _ => o
  | .ins o _ _ _ => o
  | _ => false
mutual
/-- nothing shared in it: no list, dict, instance, but owned ones -/
def nfz : D → Bool
  | .tup xs => nfzL xs
  | .tpo xs => nfzL xs
  | .lso xs => nfzL xs
  | .lst o xs => o && nfzL xs
  | .dct o _ xs => o && nfzL xs
  | .dcu o _ xs => o && nfzL xs
  | .ins o _ _ xs => o && nfzL xs
  | .sl _ => false
  | .non => true
  | .bl _ => true
  | .int _ => true
  | .str _ => true
  | .opq _ => true
  | .scr _ => false
def nfzL : List D → Bool
  | [] => true
  | x :: xs => nfz x && nfzL xs
end

/-- from (F, H, fp) to (F', H', fp'): fp may have been changed, or shared; new objects; all else stands -/
structure Step (F : Addr → Prop) (H : Hp) (fp : List Addr) (F' : Addr → Prop) (H' : Hp) (fp' : List Addr) : Prop where
  mono : ∀ a, F a → F' a
  new : ∀ a, F' a → F a ∨ a ∈ fp ∨ H a = none
  keep : ∀ a o, H a = some o → (a ∉ fp ∨ ¬ MutK o) → H' a = some o
  there : ∀ a o, H a = some o → ∃ o', H' a = some o'
  fps : ∀ a, a ∈ fp' → a ∈ fp ∨ H a = none

theorem Step.refl {F : Addr → Prop} {H : Hp} {fp : List Addr} : Step F H fp F H fp := ⟨fun _ h => h, fun _ h => .inl h, fun _ _ h _ => h, fun _ o h => ⟨o, h⟩, fun _ h => .inl h⟩
theorem Step.trans {F F1 F2 : Addr → Prop} {H H1 H2 : Hp} {fp fp1 fp2 : List Addr} (a : Step F H fp F1 H1 fp1) (b : Step F1 H1 fp1 F2 H2 fp2) : Step F H fp F2 H2 fp2 where
  mono := fun x h => b.mono x (a.mono x h)
  new := fun x h => by
    have nn : H1 x = none → H x = none := fun q => by
      cases e : H x with
      | none => rfl
      | some o =>
        obtain ⟨o', e'⟩ := a.there x o e
        rw [q] at e'; cases e'
    rcases b.new x h with z | z | z
    · exact a.new x z
    · rcases a.fps x z with y | y
      · exact .inr (.inl y)
      · exact .inr (.inr y)
    · exact .inr (.inr (nn z))
  keep := fun x o h c => by
    refine b.keep x o (a.keep x o h c) ?_
    rcases c with c | c
    · refine .inl fun z => ?_
      rcases a.fps x z with y | y
      · exact c y
      · rw [h] at y; cases y
    · exact .inr c
  there := fun x o h => by
    obtain ⟨o', e⟩ := a.there x o h
    exact b.there x o' e
  fps := fun x h => by
    rcases b.fps x h with z | z
    · exact a.fps x z
    · refine .inr ?_
      cases e : H x with
      | none => rfl
      | some o =>
        obtain ⟨o', e'⟩ := a.there x o e
        rw [z] at e'; cases e'
theorem Step.none_of {F F1 : Addr → Prop} {H H1 : Hp} {fp fp1 : List Addr} (a : Step F H fp F1 H1 fp1) {x : Addr} (q : H1 x = none) : H x = none := by
  cases e : H x with
  | none => rfl
  | some o =>
    obtain ⟨o', e'⟩ := a.there x o e
    rw [q] at e'; cases e'
/-- fewer owned ones behind -/
theorem Step.less {F F1 : Addr → Prop} {H H1 : Hp} {fp fp1 fp2 : List Addr} (a : Step F H fp F1 H1 fp1) (h : ∀ x ∈ fp2, x ∈ fp1) : Step F H fp F1 H1 fp2 :=
  ⟨a.mono, a.new, a.keep, a.there, fun x q => a.fps x (h x q)⟩
/-- more owned ones ahead -/
theorem Step.more {F F1 : Addr → Prop} {H H1 : Hp} {fp fp1 fq : List Addr} (a : Step F H fp F1 H1 fp1) (h : ∀ x ∈ fp, x ∈ fq) : Step F H fq F1 H1 fp1 :=
  ⟨a.mono, fun x q => (a.new x q).imp id (Or.imp (h x) id), fun x o e c => a.keep x o e (c.imp (fun n z => n (h x z)) id), a.there, fun x q => (a.fps x q).imp (h x) id⟩
/-- a part that nobody touches, beside -/
theorem Step.frame {F F1 : Addr → Prop} {H H1 : Hp} {fp fp1 : List Addr} (a : Step F H fp F1 H1 fp1) (fr : List Addr) : Step F H (fr ++ fp) F1 H1 (fr ++ fp1) :=
  ⟨a.mono, fun x q => (a.new x q).imp id (Or.imp (List.mem_append_right _) id), fun x o e c => a.keep x o e (c.imp (fun n z => n (List.mem_append_right _ z)) id), a.there,
    fun x q => (List.mem_append.mp q).elim (fun z => .inl (List.mem_append_left _ z)) fun z => (a.fps x z).imp (List.mem_append_right _) id⟩

section
variable {K : PySem.W.Frag} {ca : Str → Addr} {F F' : Addr → Prop} {H H' : Hp} {fp fp' : List Addr}

theorem RpL.length : ∀ {vs : List V} {ds : List D} {fr : List Addr}, RpL K ca F H vs ds fr → vs.length = ds.length
  | _, _, _, .nil => rfl
  | _, _, _, .cons _ t => by simp [RpL.length t]

mutual
/-- what it owns stands in H, is of a kind that may change, is not shared -/
theorem Rp.own : ∀ {d : D} {v : V} {fr : List Addr}, Rp K ca F H v d fr → ∀ a ∈ fr, ¬ F a ∧ ∃ o, H a = some o ∧ MutK o
  | .non, _, _, .non => fun a h => by cases h
  | .bl _, _, _, .bl _ => fun a h => by cases h
  | .int _, _, _, .int _ => fun a h => by cases h
  | .str _, _, _, .str _ => fun a h => by cases h
  | .opq _, _, _, .opq _ => fun a h => by cases h
  | .scr _, _, _, .scr _ => fun a h => by cases h
  | .tup ds, _, _, .tup _ r => fun a h => by cases h
  | .tpo ds, _, _, .tpo _ r => RpL.own r
  | .lst false ds, _, _, .lfz _ _ r => fun a h => by cases h
  | .lst true ds, _, _, .low e n r => fun a h => by
    have z : a = _ := List.mem_singleton.mp h
    subst z; exact ⟨n, _, e, trivial⟩
  | .lso ds, _, _, .lso e n r => fun a h => by
    rcases List.mem_cons.mp h with z | z
    · subst z; exact ⟨n, _, e, trivial⟩
    · exact RpL.own r a z
  | .dct false ks ds, _, _, .dfz _ _ _ r => fun a h => by cases h
  | .dct true ks ds, _, _, .dow e n _ r => fun a h => by
    have z : a = _ := List.mem_singleton.mp h
    subst z; exact ⟨n, _, e, trivial⟩
  | .dcu false ks ds, _, _, .ufz _ _ _ r => fun a h => by cases h
  | .dcu true ks ds, _, _, .uow e n _ r => fun a h => by
    have z : a = _ := List.mem_singleton.mp h
    subst z; exact ⟨n, _, e, trivial⟩
  | .ins false c fs ds, _, _, .ifz _ _ _ r => fun a h => by cases h
  | .ins true c fs ds, _, _, .iow e n _ r => fun a h => by
    have z : a = _ := List.mem_singleton.mp h
    subst z; exact ⟨n, _, e, trivial⟩
theorem RpL.own : ∀ {ds : List D} {vs : List V} {fr : List Addr}, RpL K ca F H vs ds fr → ∀ a ∈ fr, ¬ F a ∧ ∃ o, H a = some o ∧ MutK o
  | [], _, _, .nil => fun a h => by cases h
  | _ :: _, _, _, .cons r t => fun a h => by
    rcases List.mem_append.mp h with z | z
    · exact Rp.own r a z
    · exact RpL.own t a z
end
theorem Rp.free {d : D} {v : V} {fr : List Addr} (r : Rp K ca F H v d fr) (h : isOw d = false) : fr = [] := by
  cases r <;> first | rfl | (simp [isOw] at h)

theorem sqT_keep {a : Addr} {vs : List V} (k : ∀ a o, H a = some o → ¬ MutK o → H' a = some o) (h : SqT K H a vs) : SqT K H' a vs := by
  rcases h with (h | ⟨o, h⟩) | h
  · exact .inl (.inl (k a _ h (fun z => z)))
  · exact .inl (.inr ⟨o, k a _ h (fun z => z)⟩)
  · exact .inr h
/-- a list, an instance; a dict -/
def LI : HO → Prop
  | .lst _ => True
  | .ins _ _ _ => True
  | _ => False
def DK : HO → Prop
  | .dK _ => True
  | .dT _ => True
  | _ => False
theorem rd_keep {a : Addr} {u : HO} (k : ∀ o, H a = some o → H' a = some o) (h : Rd H a u) : Rd H' a u := by
  rcases h with h | ⟨o, h⟩
  · exact .inl (k _ h)
  · exact .inr ⟨o, k _ h⟩

mutual
/-- it stands on where what it needs stands -/
theorem Rp.keep (k1 : ∀ a o, H a = some o → ¬ MutK o → H' a = some o) (k2 : ∀ a o, F a → H a = some o → LI o → H' a = some o) (kd : ∀ a u, F a → Rd H a u → DK u → Rd H' a u) (k3 : ∀ a, F a → F' a) : ∀ {d : D} {v : V} {fr : List Addr}, Rp K ca F H v d fr →
    (∀ a ∈ fr, ∀ o, H a = some o → H' a = some o) → (∀ a ∈ fr, ¬ F' a) → Rp K ca F' H' v d fr
  | .non, _, _, .non, _, _ => .non
  | .bl _, _, _, .bl _, _, _ => .bl _
  | .int _, _, _, .int _, _, _ => .int _
  | .str _, _, _, .str _, _, _ => .str _
  | .opq _, _, _, .opq _, _, _ => .opq _
  | .scr _, _, _, .scr e, _, _ => .scr (e.imp (fun ⟨o, e⟩ => ⟨o, k1 _ _ e (fun z => z)⟩) id)
  | .tup ds, _, _, .tup e r, h1, h2 => .tup (sqT_keep k1 e) (RpL.keep k1 k2 kd k3 r h1 h2)
  | .tpo ds, _, _, .tpo e r, h1, h2 => .tpo (sqT_keep k1 e) (RpL.keep k1 k2 kd k3 r h1 h2)
  | .lso ds, _, _, .lso e n r, h1, h2 => .lso (h1 _ List.mem_cons_self _ e) (h2 _ List.mem_cons_self) (RpL.keep k1 k2 kd k3 r (fun a z => h1 a (List.mem_cons_of_mem _ z)) fun a z => h2 a (List.mem_cons_of_mem _ z))
  | .lst false ds, _, _, .lfz e f r, h1, h2 => .lfz (k2 _ _ f e trivial) (k3 _ f) (RpL.keep k1 k2 kd k3 r h1 h2)
  | .lst true ds, _, _, .low e n r, h1, h2 => .low (h1 _ List.mem_cons_self _ e) (h2 _ List.mem_cons_self) (RpL.keep k1 k2 kd k3 r (fun a z => nomatch z) fun a z => nomatch z)
  | .dct false ks ds, _, _, .dfz e f l r, h1, h2 => .dfz (kd _ _ f e trivial) (k3 _ f) l (RpL.keep k1 k2 kd k3 r h1 h2)
  | .dct true ks ds, _, _, .dow e n l r, h1, h2 => .dow (h1 _ List.mem_cons_self _ e) (h2 _ List.mem_cons_self) l (RpL.keep k1 k2 kd k3 r (fun a z => nomatch z) fun a z => nomatch z)
  | .dcu false ks ds, _, _, .ufz e f l r, h1, h2 => .ufz (kd _ _ f e trivial) (k3 _ f) l (RpL.keep k1 k2 kd k3 r h1 h2)
  | .dcu true ks ds, _, _, .uow e n l r, h1, h2 => .uow (h1 _ List.mem_cons_self _ e) (h2 _ List.mem_cons_self) l (RpL.keep k1 k2 kd k3 r (fun a z => nomatch z) fun a z => nomatch z)
  | .ins false c fs ds, _, _, .ifz e f l r, h1, h2 => .ifz (k2 _ _ f e trivial) (k3 _ f) l (RpL.keep k1 k2 kd k3 r h1 h2)
  | .ins true c fs ds, _, _, .iow e n l r, h1, h2 => .iow (h1 _ List.mem_cons_self _ e) (h2 _ List.mem_cons_self) l (RpL.keep k1 k2 kd k3 r (fun a z => nomatch z) fun a z => nomatch z)
theorem RpL.keep (k1 : ∀ a o, H a = some o → ¬ MutK o → H' a = some o) (k2 : ∀ a o, F a → H a = some o → LI o → H' a = some o) (kd : ∀ a u, F a → Rd H a u → DK u → Rd H' a u) (k3 : ∀ a, F a → F' a) : ∀ {ds : List D} {vs : List V} {fr : List Addr}, RpL K ca F H vs ds fr →
    (∀ a ∈ fr, ∀ o, H a = some o → H' a = some o) → (∀ a ∈ fr, ¬ F' a) → RpL K ca F' H' vs ds fr
  | [], _, _, .nil, _, _ => .nil
  | _ :: _, _, _, .cons r t, h1, h2 => .cons (Rp.keep k1 k2 kd k3 r (fun a z => h1 a (List.mem_append_left _ z)) fun a z => h2 a (List.mem_append_left _ z)) (RpL.keep k1 k2 kd k3 t (fun a z => h1 a (List.mem_append_right _ z)) fun a z => h2 a (List.mem_append_right _ z))
end

/-- through a step that leaves its own ones alone -/
theorem Rp.step {d : D} {v : V} {fr : List Addr} (r : Rp K ca F H v d fr) (s : Step F H fp F' H' fp') (hF : ∀ a ∈ fp, ¬ F a) (dj : ∀ a ∈ fr, a ∉ fp) : Rp K ca F' H' v d fr := by
  refine r.keep (fun a o e n => s.keep a o e (.inr n)) (fun a o f e _ => s.keep a o e (.inl fun z => hF a z f)) (fun a u f e _ => rd_keep (fun o e => s.keep a o e (.inl fun z => hF a z f)) e) s.mono (fun a z o e => s.keep a o e (.inl (dj a z))) fun a z f => ?_
  obtain ⟨n, o, e, _⟩ := r.own a z
  rcases s.new a f with y | y | y
  · exact n y
  · exact dj a z y
  · rw [e] at y; cases y
theorem RpL.step {ds : List D} {vs : List V} {fr : List Addr} (r : RpL K ca F H vs ds fr) (s : Step F H fp F' H' fp') (hF : ∀ a ∈ fp, ¬ F a) (dj : ∀ a ∈ fr, a ∉ fp) : RpL K ca F' H' vs ds fr := by
  refine r.keep (fun a o e n => s.keep a o e (.inr n)) (fun a o f e _ => s.keep a o e (.inl fun z => hF a z f)) (fun a u f e _ => rd_keep (fun o e => s.keep a o e (.inl fun z => hF a z f)) e) s.mono (fun a z o e => s.keep a o e (.inl (dj a z))) fun a z f => ?_
  obtain ⟨n, o, e, _⟩ := r.own a z
  rcases s.new a f with y | y | y
  · exact n y
  · exact dj a z y
  · rw [e] at y; cases y

theorem RpL.kp (hd : ∀ a, F a → F' a) {ds : List D} {vs : List V} (r : RpL K ca F H vs ds []) : RpL K ca F' H vs ds [] :=
  r.keep (fun _ _ e _ => e) (fun _ _ _ e _ => e) (fun _ _ _ e _ => e) hd (fun a z => nomatch z) fun a z => nomatch z
mutual
/-- shared: its own ones join F -/
theorem Rp.fz (hd : ∀ a, F a → F' a) : ∀ {d : D} {v : V} {fr : List Addr}, Rp K ca F H v d fr → (∀ a ∈ fr, F' a) → Rp K ca F' H v (fz d) []
  | .non, _, _, .non, _ => .non
  | .bl _, _, _, .bl _, _ => .bl _
  | .int _, _, _, .int _, _ => .int _
  | .str _, _, _, .str _, _ => .str _
  | .opq _, _, _, .opq _, _ => .opq _
  | .scr _, _, _, .scr e, _ => .scr e
  | .tup ds, _, _, .tup e r, h => .tup e (RpL.kp hd r)
  | .tpo ds, _, _, .tpo e r, h => by unfold M.fz; exact .tup e (RpL.fz hd r h)
  | .lso ds, _, _, .lso e n r, h => by unfold M.fz; exact .lfz e (h _ List.mem_cons_self) (RpL.fz hd r fun a z => h a (List.mem_cons_of_mem _ z))
  | .lst false ds, _, _, .lfz e f r, h => .lfz e (hd _ f) (RpL.kp hd r)
  | .lst true ds, _, _, .low e n r, h => .lfz e (h _ List.mem_cons_self) (RpL.kp hd r)
  | .dct false ks ds, _, _, .dfz e f l r, h => .dfz e (hd _ f) l (RpL.kp hd r)
  | .dct true ks ds, _, _, .dow e n l r, h => .dfz (.inl e) (h _ List.mem_cons_self) l (RpL.kp hd r)
  | .dcu false ks ds, _, _, .ufz e f l r, h => .ufz e (hd _ f) l (RpL.kp hd r)
  | .dcu true ks ds, _, _, .uow e n l r, h => .ufz (.inl e) (h _ List.mem_cons_self) l (RpL.kp hd r)
  | .ins false c fs ds, _, _, .ifz e f l r, h => .ifz e (hd _ f) l (RpL.kp hd r)
  | .ins true c fs ds, _, _, .iow e n l r, h => .ifz e (h _ List.mem_cons_self) l (RpL.kp hd r)
theorem RpL.fz (hd : ∀ a, F a → F' a) : ∀ {ds : List D} {vs : List V} {fr : List Addr}, RpL K ca F H vs ds fr → (∀ a ∈ fr, F' a) → RpL K ca F' H vs (fzL ds) []
  | [], _, _, .nil, _ => .nil
  | _ :: _, _, _, .cons r t, h => .cons (fp := []) (fq := []) (Rp.fz hd r fun a z => h a (List.mem_append_left _ z)) (RpL.fz hd t fun a z => h a (List.mem_append_right _ z))
end
mutual
/-- nothing shared in it: F matters for its own ones alone -/
theorem Rp.nfz {F' : Addr → Prop} : ∀ {d : D} {v : V} {fr : List Addr}, Rp K ca F H v d fr → nfz d = true → (∀ a ∈ fr, ¬ F' a) → Rp K ca F' H v d fr
  | .non, _, _, .non, _, _ => .non
  | .bl _, _, _, .bl _, _, _ => .bl _
  | .int _, _, _, .int _, _, _ => .int _
  | .str _, _, _, .str _, _, _ => .str _
  | .opq _, _, _, .opq _, _, _ => .opq _
  | .scr _, _, _, .scr e, h, q => .scr e
  | .tup ds, _, _, .tup e r, h, q => .tup e (RpL.nfz r h q)
  | .tpo ds, _, _, .tpo e r, h, q => .tpo e (RpL.nfz r h q)
  | .lso ds, _, _, .lso e n r, h, q => .lso e (q _ List.mem_cons_self) (RpL.nfz r h fun a z => q a (List.mem_cons_of_mem _ z))
  | .lst false ds, _, _, .lfz e f r, h, q => by simp [M.nfz] at h
  | .lst true ds, _, _, .low e n r, h, q => .low e (q _ List.mem_cons_self) (RpL.nfz r (by simpa [M.nfz] using h) fun a z => nomatch z)
  | .dct false ks ds, _, _, .dfz e f l r, h, q => by simp [M.nfz] at h
  | .dct true ks ds, _, _, .dow e n l r, h, q => .dow e (q _ List.mem_cons_self) l (RpL.nfz r (by simpa [M.nfz] using h) fun a z => nomatch z)
  | .dcu false ks ds, _, _, .ufz e f l r, h, q => by simp [M.nfz] at h
  | .dcu true ks ds, _, _, .uow e n l r, h, q => .uow e (q _ List.mem_cons_self) l (RpL.nfz r (by simpa [M.nfz] using h) fun a z => nomatch z)
  | .ins false c fs ds, _, _, .ifz e f l r, h, q => by simp [M.nfz] at h
  | .ins true c fs ds, _, _, .iow e n l r, h, q => .iow e (q _ List.mem_cons_self) l (RpL.nfz r (by simpa [M.nfz] using h) fun a z => nomatch z)
theorem RpL.nfz {F' : Addr → Prop} : ∀ {ds : List D} {vs : List V} {fr : List Addr}, RpL K ca F H vs ds fr → nfzL ds = true → (∀ a ∈ fr, ¬ F' a) → RpL K ca F' H vs ds fr
  | [], _, _, .nil, _, _ => .nil
  | _ :: _, _, _, .cons r t, h, q => by
    have h' := Bool.and_eq_true_iff.mp h
    exact .cons (Rp.nfz r h'.1 fun a z => q a (List.mem_append_left _ z)) (RpL.nfz t h'.2 fun a z => q a (List.mem_append_right _ z))
end
end
end M
/-! M2: states, what an expression does on data, names, constants, two operands. -/
namespace M
open PySem PySem.Spec PyProof.Rows L2

abbrev Sl := List (Option D)

/-- the slots -/
inductive RpS (K : PySem.W.Frag) (ca : Str → Addr) (F : Addr → Prop) (H : Hp) : L2.St → Sl → List Addr → Prop
  | nil : RpS K ca F H [] [] []
  | no {x : Option V} {σ : L2.St} {ρ : Sl} {fp : List Addr} : RpS K ca F H σ ρ fp → RpS K ca F H (x :: σ) (none :: ρ) fp
  | has {v : V} {d : D} {σ : L2.St} {ρ : Sl} {fr fp : List Addr} : Rp K ca F H v d fr → RpS K ca F H σ ρ fp → RpS K ca F H (some v :: σ) (some d :: ρ) (fr ++ fp)

section
variable {K : PySem.W.Frag} {ca : Str → Addr} {F F' : Addr → Prop} {H H' : Hp} {σ : L2.St} {ρ : Sl} {fp fp' : List Addr}
theorem RpS.length (h : RpS K ca F H σ ρ fp) : σ.length = ρ.length := by
  induction h with
  | nil => rfl
  | no _ ih => simp [ih]
  | has _ _ ih => simp [ih]
theorem RpS.own (h : RpS K ca F H σ ρ fp) : ∀ a ∈ fp, ¬ F a ∧ ∃ o, H a = some o ∧ MutK o := by
  induction h with
  | nil => intro a z; cases z
  | no _ ih => exact ih
  | has r _ ih =>
    intro a z
    rcases List.mem_append.mp z with z | z
    · exact r.own a z
    · exact ih a z
/-- the slot i: its part of the footprint, and what else may stand there -/
theorem RpS.at_ (h : RpS K ca F H σ ρ fp) : ∀ {i : Nat}, i < ρ.length → ∃ l fr r : List Addr, fp = l ++ fr ++ r ∧
    (∀ d, ρ[i]? = some (some d) → ∃ v, σ[i]? = some (some v) ∧ Rp K ca F H v d fr) ∧ (ρ[i]? = some none → fr = []) ∧
    (∀ x, RpS K ca F H (σ.set i x) (ρ.set i none) (l ++ r)) ∧ ∀ v d fq, Rp K ca F H v d fq → RpS K ca F H (σ.set i (some v)) (ρ.set i (some d)) (l ++ fq ++ r) := by
  induction h with
  | nil => intro i hi; cases hi
  | @no x σ ρ fp h ih =>
    intro i hi
    cases i with
    | zero => exact ⟨[], [], fp, rfl, fun d e => by simp at e, fun _ => rfl, fun x => .no h, fun v d fq r => .has r h⟩
    | succ i =>
      obtain ⟨l, fr, r, e, h1, h2, h3, h4⟩ := ih (i := i) (by simpa using hi)
      exact ⟨l, fr, r, e, h1, h2, fun x => .no (h3 x), fun v d fq q => .no (h4 v d fq q)⟩
  | @has v d σ ρ fr fp r h ih =>
    intro i hi
    cases i with
    | zero => exact ⟨[], fr, fp, rfl, fun d' e => by simp at e; subst e; exact ⟨v, rfl, r⟩, fun e => by simp at e, fun x => .no h, fun v d fq q => .has q h⟩
    | succ i =>
      obtain ⟨l, f2, r2, e, h1, h2, h3, h4⟩ := ih (i := i) (by simpa using hi)
      refine ⟨fr ++ l, f2, r2, by rw [e]; simp [List.append_assoc], h1, h2, fun x => ?_, fun v' d' fq q => ?_⟩
      · have := RpS.has r (h3 x)
        rw [List.append_assoc]
        exact this
      · have := RpS.has r (h4 v' d' fq q)
        rw [List.append_assoc, List.append_assoc, ← List.append_assoc l]
        exact this
theorem RpS.keep (k1 : ∀ a o, H a = some o → ¬ MutK o → H' a = some o) (k2 : ∀ a o, F a → H a = some o → LI o → H' a = some o) (kd : ∀ a u, F a → Rd H a u → DK u → Rd H' a u) (k3 : ∀ a, F a → F' a) (h : RpS K ca F H σ ρ fp)
    (h1 : ∀ a ∈ fp, ∀ o, H a = some o → H' a = some o) (h2 : ∀ a ∈ fp, ¬ F' a) : RpS K ca F' H' σ ρ fp := by
  induction h with
  | nil => exact .nil
  | no _ ih => exact .no (ih h1 h2)
  | has r _ ih => exact .has (r.keep k1 k2 kd k3 (fun a z => h1 a (List.mem_append_left _ z)) fun a z => h2 a (List.mem_append_left _ z)) (ih (fun a z => h1 a (List.mem_append_right _ z)) fun a z => h2 a (List.mem_append_right _ z))
theorem RpS.step {fq fq' : List Addr} (r : RpS K ca F H σ ρ fp) (s : Step F H fq F' H' fq') (hF : ∀ a ∈ fq, ¬ F a) (dj : ∀ a ∈ fp, a ∉ fq) : RpS K ca F' H' σ ρ fp := by
  refine r.keep (fun a o e n => s.keep a o e (.inr n)) (fun a o f e _ => s.keep a o e (.inl fun z => hF a z f)) (fun a u f e _ => rd_keep (fun o e => s.keep a o e (.inl fun z => hF a z f)) e) s.mono (fun a z o e => s.keep a o e (.inl (dj a z))) fun a z f => ?_
  obtain ⟨n, o, e, _⟩ := r.own a z
  rcases s.new a f with y | y | y
  · exact n y
  · exact dj a z y
  · rw [e] at y; cases y
end

/-- a state: the slots hold the data ρ -/
structure Ok (G : Gc) (F : Addr → Prop) (H : Hp) (σ : L2.St) (ρ : Sl) (fp : List Addr) : Prop where
  rs : RpS G.K G.ca F H σ ρ fp
  nd : fp.Nodup
  dom : ∀ a, F a → ∃ o, H a = some o
  pm : ∀ p ∈ G.pm, σ[p.1]? = some (some p.2)
  rch : Step G.F0 G.H0 G.fp0 F H fp
/-- a result: data, or what a slot holds -/
def Rr (G : Gc) (F : Addr → Prop) (H : Hp) (σ : L2.St) (v : V) (r : D) (fr : List Addr) : Prop :=
  Rp G.K G.ca F H v r fr ∨ ∃ i, r = .sl i ∧ σ[i]? = some (some v) ∧ fr = []

/-- what an expression does to data: the slots, what is wanted -/
abbrev WE := Sl → (D → Sl → Prop) → Prop
abbrev WT := Sl → (Bool → Sl → Prop) → Prop
abbrev WA := Sl → (List D → Sl → Prop) → Prop
structure EndD where
  nx : Sl → Prop
  rt : D → Sl → Prop
  bk : Sl → Prop := fun _ => False
  ct : Sl → Prop := fun _ => False
abbrev WS := EndD → Sl → Prop

/-- an end reached from (F, H, fp) with the slots' values σ -/
structure En (G : Gc) (F : Addr → Prop) (H : Hp) (fp : List Addr) (σ : L2.St) (F' : Addr → Prop) (H' : Hp) (ρ' : Sl) (fp' fr : List Addr) : Prop where
  st : Step F H fp F' H' (fr ++ fp')
  ok : Ok G F' H' σ ρ' fp'
  nd : (fr ++ fp').Nodup
def LE (G : Gc) (w : WE) : TE := fun σ H Q => ∃ F ρ fp Qd, Ok G F H σ ρ fp ∧ w ρ Qd ∧
  ∀ v H' F' ρ' fp' r fr, En G F H fp σ F' H' ρ' fp' fr → Rr G F' H' σ v r fr → Qd r ρ' → Q v H'
def LT (G : Gc) (w : WT) : TT := fun σ H Q => ∃ F ρ fp Qd, Ok G F H σ ρ fp ∧ w ρ Qd ∧
  ∀ b H' F' ρ' fp', En G F H fp σ F' H' ρ' fp' [] → Qd b ρ' → Q b H'
/-- results of an argument list -/
inductive RrL (G : Gc) (F : Addr → Prop) (H : Hp) (σ : L2.St) : List V → List D → List Addr → Prop
  | nil : RrL G F H σ [] [] []
  | cons {v : V} {vs : List V} {d : D} {ds : List D} {fp fq : List Addr} : Rr G F H σ v d fp → RrL G F H σ vs ds fq → RrL G F H σ (v :: vs) (d :: ds) (fp ++ fq)
def LA (G : Gc) (w : WA) : TA := fun σ H Q => ∃ F ρ fp Qd, Ok G F H σ ρ fp ∧ w ρ Qd ∧
  ∀ vs H' F' ρ' fp' rs fr, En G F H fp σ F' H' ρ' fp' fr → RrL G F' H' σ vs rs fr → Qd rs ρ' → Q vs H'
structure EnS (G : Gc) (F : Addr → Prop) (H : Hp) (fp : List Addr) (Dd : EndD) (D : Ends) : Prop where
  nx : ∀ σ' H' F' ρ' fp', Step F H fp F' H' fp' → Ok G F' H' σ' ρ' fp' → Dd.nx ρ' → D.nx σ' H'
  rt : ∀ v σ' H' F' ρ' fp' r fr, Step F H fp F' H' (fr ++ fp') → Ok G F' H' σ' ρ' fp' → (fr ++ fp').Nodup → Rr G F' H' σ' v r fr → Dd.rt r ρ' → D.rt v H'
  bk : ∀ σ' H' F' ρ' fp', Step F H fp F' H' fp' → Ok G F' H' σ' ρ' fp' → Dd.bk ρ' → D.bk σ' H'
  ct : ∀ σ' H' F' ρ' fp', Step F H fp F' H' fp' → Ok G F' H' σ' ρ' fp' → Dd.ct ρ' → D.ct σ' H'
def LS (G : Gc) (w : WS) : TS := fun D σ H => ∃ F ρ fp Dd, Ok G F H σ ρ fp ∧ w Dd ρ ∧ EnS G F H fp Dd D

/-! ### weakening of readings -/
section
variable {X : Cx}
theorem imE {e : Expr} {t u : TE} (h : PE X e t) (i : ∀ σ H Q, u σ H Q → t σ H Q) : PE X e u := ⟨fun pins s σ H Q I q => h.run pins s σ H Q I (i σ H Q q)⟩
theorem imT {e : Expr} {t u : TT} (h : PT X e t) (i : ∀ σ H Q, u σ H Q → t σ H Q) : PT X e u := ⟨fun pins s σ H Q I q => h.run pins s σ H Q I (i σ H Q q)⟩
theorem imA {e : List Expr} {t u : TA} (h : PA X e t) (i : ∀ σ H Q, u σ H Q → t σ H Q) : PA X e u := ⟨fun pos pins s σ H Q I q => h.run pos pins s σ H Q I (i σ H Q q)⟩
theorem imS {e : Stmt} {t u : TS} (h : PS X e t) (i : ∀ D σ H, u D σ H → t D σ H) : PS X e u := ⟨fun pins s σ H D I q => h.run pins s σ H D I (i D σ H q)⟩
theorem imSs {e : List Stmt} {t u : TS} (h : PSs X e t) (i : ∀ D σ H, u D σ H → t D σ H) : PSs X e u := ⟨fun pins s σ H D I q => h.run pins s σ H D I (i D σ H q)⟩
end

section
variable {G : Gc} {F F' F1 F2 : Addr → Prop} {H H' H1 H2 : Hp} {σ : L2.St} {ρ ρ' ρ1 ρ2 : Sl} {fp fp' fp1 fp2 fr fr1 fr2 : List Addr} {v v1 v2 : V} {r r1 r2 : D}

theorem Ok.nf (o : Ok G F H σ ρ fp) : ∀ a ∈ fp, ¬ F a := fun a z => (o.rs.own a z).1
theorem nodup_r {l r : List Addr} (h : (l ++ r).Nodup) : r.Nodup := (List.nodup_append.mp h).2.1
theorem nodup_l {l r : List Addr} (h : (l ++ r).Nodup) : l.Nodup := (List.nodup_append.mp h).1
theorem nodup_d {l r : List Addr} (h : (l ++ r).Nodup) : ∀ a ∈ l, a ∉ r := fun a z y => (List.nodup_append.mp h).2.2 a z a y rfl
theorem nodup_of {l r : List Addr} (h1 : l.Nodup) (h2 : r.Nodup) (h3 : ∀ a ∈ l, a ∉ r) : (l ++ r).Nodup := List.nodup_append.mpr ⟨h1, h2, fun a z b y e => h3 a z (e ▸ y)⟩

theorem En.refl (o : Ok G F H σ ρ fp) : En G F H fp σ F H ρ fp [] := ⟨.refl, o, by simpa using o.nd⟩
/-- one end behind another one; the first one's result is carried -/
theorem En.trans (a : En G F H fp σ F1 H1 ρ1 fp1 fr1) (b : En G F1 H1 fp1 σ F2 H2 ρ2 fp2 fr2) (h1 : ∀ x ∈ fr1, ∃ o, H1 x = some o) : En G F H fp σ F2 H2 ρ2 fp2 (fr1 ++ fr2) where
  st := by
    have q := b.st.frame fr1
    rw [← List.append_assoc] at q
    exact a.st.trans q
  ok := b.ok
  nd := by
    rw [List.append_assoc]
    refine nodup_of (nodup_l a.nd) b.nd fun x z y => ?_
    rcases b.st.fps x y with w | w
    · exact nodup_d a.nd x z w
    · obtain ⟨o, e⟩ := h1 x z
      rw [e] at w; cases w
theorem Rr.own (h : Rr G F H σ v r fr) : ∀ a ∈ fr, ¬ F a ∧ ∃ o, H a = some o ∧ MutK o := by
  rcases h with h | ⟨i, _, _, e⟩
  · exact h.own
  · subst e; intro a z; cases z
theorem Rr.dom (h : Rr G F H σ v r fr) : ∀ a ∈ fr, ∃ o, H a = some o := fun a z => let ⟨_, o, e, _⟩ := h.own a z; ⟨o, e⟩
theorem Rr.step (h : Rr G F H σ v r fr) (s : Step F H fp F' H' fp') (hF : ∀ a ∈ fp, ¬ F a) (dj : ∀ a ∈ fr, a ∉ fp) : Rr G F' H' σ v r fr := by
  rcases h with h | h
  · exact .inl (h.step s hF dj)
  · exact .inr h
theorem RrL.step {vs : List V} {rs : List D} (h : RrL G F H σ vs rs fr) (s : Step F H fp F' H' fp') (hF : ∀ a ∈ fp, ¬ F a) (dj : ∀ a ∈ fr, a ∉ fp) : RrL G F' H' σ vs rs fr := by
  induction h with
  | nil => exact .nil
  | cons r _ ih => exact .cons (r.step s hF fun a z => dj a (List.mem_append_left _ z)) (ih fun a z => dj a (List.mem_append_right _ z))
theorem RrL.own {vs : List V} {rs : List D} (h : RrL G F H σ vs rs fr) : ∀ a ∈ fr, ¬ F a ∧ ∃ o, H a = some o ∧ MutK o := by
  induction h with
  | nil => intro a z; cases z
  | cons r _ ih =>
    intro a z
    rcases List.mem_append.mp z with z | z
    · exact r.own a z
    · exact ih a z

/-- a reading, from data -/
theorem LE.mk (o : Ok G F H σ ρ fp) {w : WE} {Qd : D → Sl → Prop} {Q : VK} (h : w ρ Qd) (k : ∀ v H' F' ρ' fp' r fr, En G F H fp σ F' H' ρ' fp' fr → Rr G F' H' σ v r fr → Qd r ρ' → Q v H') : LE G w σ H Q := ⟨F, ρ, fp, Qd, o, h, k⟩

/-! ### names, constants -/
def rd (i : Nat) (d : D) : D := if isOw d then .sl i else d
def wVar (i : Nat) : WE := fun ρ Q => ∃ d, ρ[i]? = some (some d) ∧ Q (rd i d) ρ
def wC (d : D) : WE := fun ρ Q => Q d ρ
theorem le_var {X : Cx} {e : Expr} {i : Nat} (h : PE X e (tVar i)) : PE X e (LE G (wVar i)) := imE h fun σ H Q q => by
  obtain ⟨F, ρ, fp, Qd, o, ⟨d, e, q⟩, k⟩ := q
  obtain ⟨l, fr, r, e1, h1, _, _, _⟩ := o.rs.at_ (i := i) (by rw [List.getElem?_eq_some_iff] at e; exact e.1)
  obtain ⟨v, ev, rp⟩ := h1 d e
  refine ⟨v, ev, k v H F ρ fp (rd i d) [] (En.refl o) ?_ q⟩
  unfold rd
  cases hd : isOw d with
  | true => exact .inr ⟨i, by simp, ev, rfl⟩
  | false =>
    have := rp.free hd
    subst this
    exact .inl (by simpa using rp)
theorem le_c {X : Cx} {e : Expr} {v : V} {d : D} (h : PE X e (tC v)) (r : ∀ K ca F H, Rp K ca F H v d []) : PE X e (LE G (wC d)) := imE h fun σ H Q q => by
  obtain ⟨F, ρ, fp, Qd, o, q, k⟩ := q
  exact k v H F ρ fp d [] (En.refl o) (.inl (r _ _ _ _)) q
theorem d_int {X : Cx} {i j pos} : PE X (.Constant (.int i) j pos) (LE G (wC (.int i))) := le_c pe_int fun _ _ _ _ => .int i
theorem d_bl {X : Cx} {b j pos} : PE X (.Constant (.bool b) j pos) (LE G (wC (.bl b))) := le_c pe_bl fun _ _ _ _ => .bl b
theorem d_non {X : Cx} {j pos} : PE X (.Constant .none j pos) (LE G (wC .non)) := le_c pe_non fun _ _ _ _ => .non
theorem d_str {X : Cx} {x j pos} : PE X (.Constant (.str x) j pos) (LE G (wC (.str x))) := le_c pe_str fun _ _ _ _ => .str x

/-- what a result is, seen without taking it -/
def pk (ρ : Sl) : D → Option D
  | .sl i => (ρ[i]?).join
  | d => some d
/-- a result seen: it stands for d, whose own ones are the slots' or the result's -/
theorem Rr.see (o : Ok G F H σ ρ fp) (h : Rr G F H σ v r fr) {d : D} (e : pk ρ r = some d) : ∃ fs, Rp G.K G.ca F H v d fs ∧ ∀ a ∈ fs, a ∈ fr ++ fp := by
  rcases h with h | ⟨i, rfl, ev, rfl⟩
  · have : pk ρ r = some r := by cases h <;> rfl
    rw [this] at e
    cases e
    exact ⟨fr, h, fun a z => List.mem_append_left _ z⟩
  · have e' : ρ[i]? = some (some d) := by
      have : (ρ[i]?).join = some d := e
      cases q : ρ[i]? with
      | none => rw [q] at this; cases this
      | some x => rw [q] at this; cases x with
        | none => cases this
        | some y => cases this; rfl
    obtain ⟨l, fs, r, e1, h1, _, _, _⟩ := o.rs.at_ (i := i) (by rw [List.getElem?_eq_some_iff] at e'; exact e'.1)
    obtain ⟨v', ev', rp⟩ := h1 d e'
    rw [ev] at ev'; cases ev'
    exact ⟨fs, rp, fun a z => by rw [e1]; simp [z]⟩

/-! ### two operands -/
/-- an operation on results that changes nothing but may make new things: the slots, the operands, what is wanted of the (plain or owned) value -/
abbrev O2 := Sl → D → D → (D → Prop) → Prop
def wOp (o : O2) (wa wb : WE) : WE := fun ρ Q => wa ρ fun x ρ1 => wb ρ1 fun y ρ2 => o ρ2 x y fun d => Q d ρ2
/-- o is a reading of r -/
def O2Ok (G : Gc) (r : R2) (o : O2) : Prop := ∀ (F : Addr → Prop) (H : Hp) (σ : L2.St) (ρ : Sl) (fp : List Addr) (v1 v2 : V) (x y : D) (f1 f2 : List Addr) (Kd : D → Prop) (Q : VK),
  Ok G F H σ ρ fp → Rr G F H σ v1 x f1 → Rr G F H σ v2 y f2 → (f1 ++ f2 ++ fp).Nodup → o ρ x y Kd →
  (∀ v H' F' d fr, En G F H fp σ F' H' ρ fp fr → Rp G.K G.ca F' H' v d fr → Kd d → Q v H') → r v1 v2 H Q
theorem bin2 {wa wb : WE} {k : D → D → Sl → Prop} {R : V → V → Hp → Prop} (o : Ok G F H σ ρ fp) (h : wa ρ fun x ρ1 => wb ρ1 fun y ρ2 => k x y ρ2)
    (hk : ∀ v1 v2 H2 F2 ρ2 fp2 x y f1 f2, En G F H fp σ F2 H2 ρ2 fp2 (f1 ++ f2) → Rr G F2 H2 σ v1 x f1 → Rr G F2 H2 σ v2 y f2 → k x y ρ2 → R v1 v2 H2) :
    LE G wa σ H fun v1 H1 => LE G wb σ H1 fun v2 H2 => R v1 v2 H2 := by
  refine ⟨F, ρ, fp, _, o, h, fun v1 H1 F1 ρ1 fp1 x f1 en1 rr1 q1 => ?_⟩
  refine ⟨F1, ρ1, fp1, _, en1.ok, q1, fun v2 H2 F2 ρ2 fp2 y f2 en2 rr2 q2 => ?_⟩
  exact hk v1 v2 H2 F2 ρ2 fp2 x y f1 f2 (en1.trans en2 rr1.dom) (rr1.step en2.st en1.ok.nf (nodup_d en1.nd)) rr2 q2
/-- the results' own ones are dropped -/
theorem En.drop (a : En G F H fp σ F1 H1 ρ1 fp1 fr1) (b : En G F1 H1 fp1 σ F2 H2 ρ2 fp2 fr2) : En G F H fp σ F2 H2 ρ2 fp2 fr2 where
  st := (a.st.less (fp2 := fp1) fun x z => List.mem_append_right _ z).trans b.st
  ok := b.ok
  nd := b.nd
theorem LE.op {r : R2} {o : O2} {wa wb : WE} (ho : O2Ok G r o) : ∀ σ H Q, LE G (wOp o wa wb) σ H Q → tOp r (LE G wa) (LE G wb) σ H Q := fun σ H Q q => by
  obtain ⟨F, ρ, fp, Qd, ok, h, k⟩ := q
  refine bin2 (k := fun x y ρ2 => o ρ2 x y fun d => Qd d ρ2) ok h fun v1 v2 H2 F2 ρ2 fp2 x y f1 f2 en r1 r2 q => ?_
  refine ho F2 H2 σ ρ2 fp2 v1 v2 x y f1 f2 (fun d => Qd d ρ2) Q en.ok r1 r2 en.nd q fun v H' F' d fr en' rp qd => ?_
  exact k v H' F' ρ2 fp2 d fr (en.drop en') (.inl rp) qd
theorem d_op {X : Cx} {op : Operator} {r : R2} {o : O2} {a b : Expr} {wa wb : WE} {pos : Pos} (hr : OpR X (binaryOp op) r) (ho : O2Ok G r o) (ha : PE X a (LE G wa)) (hb : PE X b (LE G wb)) : PE X (.BinOp a op b pos) (LE G (wOp o wa wb)) :=
  imE (pe_op hr ha hb) (LE.op ho)
theorem d_cmp {X : Cx} {op : CmpOp} {r : R2} {o : O2} {a b : Expr} {wa wb : WE} {pos : Pos} (hr : OpR X (compareOp op) r) (ho : O2Ok G r o) (ha : PE X a (LE G wa)) (hb : PE X b (LE G wb)) (hm : behindInMarks op b = false) : PE X (.Compare a [op] [b] pos) (LE G (wOp o wa wb)) :=
  imE (pe_cmpR hr ha hb hm) (LE.op ho)
/-- either of two rules -/
theorem OpR.or {X : Cx} {f : Value → Value → Sem Value} {r s : R2} (h1 : OpR X f r) (h2 : OpR X f s) : OpR X f fun x y H Q => r x y H Q ∨ s x y H Q := fun pins s σ H x y u v Q I rx ry h => by
  rcases h with h | h
  · exact h1 pins s σ H x y u v Q I rx ry h
  · exact h2 pins s σ H x y u v Q I rx ry h
def oOr (o p : O2) : O2 := fun ρ x y K => o ρ x y K ∨ p ρ x y K
theorem O2Ok.or {r s : R2} {o p : O2} (h1 : O2Ok G r o) (h2 : O2Ok G s p) : O2Ok G (fun x y H Q => r x y H Q ∨ s x y H Q) (oOr o p) := fun F H σ ρ fp v1 v2 x y f1 f2 Kd Q ok r1 r2 nd h k => by
  rcases h with h | h
  · exact .inl (h1 F H σ ρ fp v1 v2 x y f1 f2 Kd Q ok r1 r2 nd h k)
  · exact .inr (h2 F H σ ρ fp v1 v2 x y f1 f2 Kd Q ok r1 r2 nd h k)
end
end M
/-! M3: operators and comparisons on data. -/
namespace M
open PySem PySem.Spec PyProof.Rows L2

section
variable {G : Gc} {F F' F1 F2 : Addr → Prop} {H H' H1 H2 : Hp} {σ : L2.St} {ρ ρ' ρ1 ρ2 : Sl} {fp fp' fp1 fp2 fr fr1 fr2 : List Addr} {v v1 v2 : V} {r r1 r2 : D} {p : Addr} {o : HO}

theorem step_new (hp : H p = none) : Step F H [] F (upd H p o) [p] where
  mono := fun _ h => h
  new := fun _ h => .inl h
  keep := fun a u e _ => by rw [upd_ne (ne_of_none e hp)]; exact e
  there := fun a u e => ⟨u, by rw [upd_ne (ne_of_none e hp)]; exact e⟩
  fps := fun a h => .inr (by rw [List.mem_singleton.mp h]; exact hp)
theorem Ok.not_none (ok : Ok G F H σ ρ fp) (hp : H p = none) : ¬ F p ∧ p ∉ fp := by
  refine ⟨fun f => ?_, fun z => ?_⟩
  · obtain ⟨o, e⟩ := ok.dom p f; rw [hp] at e; cases e
  · obtain ⟨_, o, e, _⟩ := ok.rs.own p z; rw [hp] at e; cases e
/-- the state through a step that leaves the slots' own ones alone -/
theorem Ok.step {fq fq' : List Addr} (ok : Ok G F H σ ρ fp) (s : Step F H fq F' H' fq') (hF : ∀ a ∈ fq, ¬ F a) (dj : ∀ a ∈ fp, a ∉ fq) (dm : ∀ a, F' a → ∃ o, H' a = some o) (hr : Step G.F0 G.H0 G.fp0 F' H' fp) : Ok G F' H' σ ρ fp :=
  ⟨ok.rs.step s hF dj, ok.nd, dm, ok.pm, hr⟩
/-- what is new is reached -/
theorem step_new2 (hp : H p = none) : Step F H fp F (upd H p o) (p :: fp) where
  mono := fun _ h => h
  new := fun _ h => .inl h
  keep := fun a u e _ => by rw [upd_ne (ne_of_none e hp)]; exact e
  there := fun a u e => ⟨u, by rw [upd_ne (ne_of_none e hp)]; exact e⟩
  fps := fun a h => by
    rcases List.mem_cons.mp h with z | z
    · rw [z]; exact .inr hp
    · exact .inl z
theorem Ok.new (ok : Ok G F H σ ρ fp) (hp : H p = none) : Ok G F (upd H p o) σ ρ fp :=
  ok.step (step_new (F := F) hp) (fun a z => nomatch z) (fun a _ z => nomatch z) (fun a f => let ⟨u, e⟩ := ok.dom a f; ⟨u, by rw [upd_ne (ne_of_none e hp)]; exact e⟩) (ok.rch.trans ((step_new2 hp).less fun a z => List.mem_cons_of_mem _ z))
/-- a new owned object -/
theorem En.own (ok : Ok G F H σ ρ fp) (hp : H p = none) : En G F H fp σ F (upd H p o) ρ fp [p] where
  st := (step_new (F := F) (o := o) hp).more (fq := fp) (fun a z => nomatch z) |>.less (fp2 := [p]) (fun a z => z) |> fun s => by
    refine ⟨s.mono, s.new, s.keep, s.there, fun a z => ?_⟩
    rcases List.mem_append.mp z with z | z
    · exact s.fps a z
    · exact .inl z
  ok := ok.new hp
  nd := nodup_of (by simp) ok.nd fun a z => by rw [List.mem_singleton.mp z]; exact (ok.not_none hp).2
/-- a new object that nobody owns (a tuple) -/
theorem En.tup (ok : Ok G F H σ ρ fp) (hp : H p = none) : En G F H fp σ F (upd H p o) ρ fp [] where
  st := (En.own (o := o) ok hp).st.less fun a z => List.mem_append_right _ z
  ok := ok.new hp
  nd := by simpa using ok.nd
theorem RpL.new {K : PySem.W.Frag} {ca : Str → Addr} {vs : List V} {ds : List D} (h : RpL K ca F H vs ds fr) (hp : H p = none) : RpL K ca F (upd H p o) vs ds fr := h.step (step_new (F := F) hp) (fun a z => nomatch z) fun a _ z => nomatch z
theorem Rp.new {K : PySem.W.Frag} {ca : Str → Addr} {v : V} {d : D} (h : Rp K ca F H v d fr) (hp : H p = none) : Rp K ca F (upd H p o) v d fr := h.step (step_new (F := F) hp) (fun a z => nomatch z) fun a _ z => nomatch z

/-! ### what is seen of lists and tuples -/
/-- the items of a list or tuple -/
def its : D → Option (List D)
  | .tup xs => some xs
  | .lst _ xs => some xs
  | _ => none
theorem RpL.nil_of {K : PySem.W.Frag} {ca : Str → Addr} {d : D} {ds : List D} {v : V} {vs : List V} (h : RpL K ca F H (v :: vs) (d :: ds) []) : Rp K ca F H v d [] ∧ RpL K ca F H vs ds [] := by
  generalize e : ([] : List Addr) = z at h
  cases h with
  | cons r t =>
    obtain ⟨e1, e2⟩ := List.append_eq_nil_iff.mp e.symm
    subst e1; subst e2
    exact ⟨r, t⟩
theorem RpL.app {K : PySem.W.Frag} {ca : Str → Addr} : ∀ {ds es : List D} {vs us : List V}, RpL K ca F H vs ds [] → RpL K ca F H us es [] → RpL K ca F H (vs ++ us) (ds ++ es) []
  | [], es, [], us, _, h => h
  | d :: ds, es, v :: vs, us, h, h' => by
    obtain ⟨r, t⟩ := h.nil_of
    exact .cons (fp := []) (fq := []) r (RpL.app t h')
theorem RpL.at_ {K : PySem.W.Frag} {ca : Str → Addr} : ∀ {ds : List D} {vs : List V}, RpL K ca F H vs ds [] → ∀ {i : Nat} {d : D}, ds[i]? = some d → ∃ v, vs[i]? = some v ∧ Rp K ca F H v d []
  | [], _, _, i, d, e => by simp at e
  | x :: ds, v :: vs, h, 0, d, e => by
    simp at e; subst e
    exact ⟨v, rfl, h.nil_of.1⟩
  | x :: ds, v :: vs, h, i + 1, d, e => by
    obtain ⟨v', e1, r⟩ := RpL.at_ h.nil_of.2 (i := i) (d := d) (by simpa using e)
    exact ⟨v', by simpa using e1, r⟩
theorem RpL.at_v {K : PySem.W.Frag} {ca : Str → Addr} : ∀ {ds : List D} {vs : List V}, RpL K ca F H vs ds [] → ∀ {i : Nat} {v : V}, vs[i]? = some v → ∃ d, ds[i]? = some d ∧ Rp K ca F H v d []
  | _, [], _, i, d, e => by simp at e
  | x :: ds, v :: vs, h, 0, d, e => by
    simp at e; subst e
    exact ⟨x, rfl, h.nil_of.1⟩
  | x :: ds, v :: vs, h, i + 1, d, e => by
    obtain ⟨v', e1, r⟩ := RpL.at_v h.nil_of.2 (i := i) (v := d) (by simpa using e)
    exact ⟨v', by simpa using e1, r⟩
theorem RpL.take {K : PySem.W.Frag} {ca : Str → Addr} : ∀ {ds : List D} {vs : List V} (n : Nat), RpL K ca F H vs ds [] → RpL K ca F H (vs.take n) (ds.take n) []
  | _, _, 0, _ => by simp; exact .nil
  | [], [], n + 1, _ => by simp; exact .nil
  | d :: ds, v :: vs, n + 1, h => .cons (fp := []) (fq := []) h.nil_of.1 (RpL.take n h.nil_of.2)
theorem RpL.drop {K : PySem.W.Frag} {ca : Str → Addr} : ∀ {ds : List D} {vs : List V} (n : Nat), RpL K ca F H vs ds [] → RpL K ca F H (vs.drop n) (ds.drop n) []
  | _, _, 0, h => by simpa using h
  | [], [], n + 1, h => by simp; exact .nil
  | d :: ds, v :: vs, n + 1, h => RpL.drop n h.nil_of.2
theorem RpL.set {K : PySem.W.Frag} {ca : Str → Addr} {u : V} {e : D} (re : Rp K ca F H u e []) : ∀ {ds : List D} {vs : List V} (n : Nat), RpL K ca F H vs ds [] → RpL K ca F H (vs.set n u) (ds.set n e) []
  | [], [], n, h => by simpa using h
  | d :: ds, v :: vs, 0, h => .cons (fp := []) (fq := []) re h.nil_of.2
  | d :: ds, v :: vs, n + 1, h => .cons (fp := []) (fq := []) h.nil_of.1 (RpL.set re n h.nil_of.2)
theorem RpL.erase {K : PySem.W.Frag} {ca : Str → Addr} : ∀ {ds : List D} {vs : List V} (n : Nat), RpL K ca F H vs ds [] → RpL K ca F H (vs.eraseIdx n) (ds.eraseIdx n) []
  | [], [], n, h => by simpa using h
  | d :: ds, v :: vs, 0, h => h.nil_of.2
  | d :: ds, v :: vs, n + 1, h => .cons (fp := []) (fq := []) h.nil_of.1 (RpL.erase n h.nil_of.2)
theorem RpL.one {K : PySem.W.Frag} {ca : Str → Addr} {u : V} {e : D} (re : Rp K ca F H u e []) : RpL K ca F H [u] [e] [] := .cons (fp := []) (fq := []) re .nil

/-- a list or tuple that is seen -/
theorem Rp.its {K : PySem.W.Frag} {ca : Str → Addr} {d : D} {xs : List D} (h : Rp K ca F H v d fr) (e : its d = some xs) :
    ∃ (a : Addr) (vs : List V), v = .ref a ∧ RpL K ca F H vs xs [] ∧ ((H a = some (.lst vs) ∧ ∃ b, d = .lst b xs) ∨ (SqT K H a vs ∧ d = .tup xs)) := by
  cases h <;> (try (simp [M.its] at e; done))
  · rename_i a vs ds s r
    have : ds = xs := by simpa [M.its] using e
    subst this
    exact ⟨a, vs, rfl, r, .inr ⟨s, rfl⟩⟩
  · rename_i a vs ds s f r
    have : ds = xs := by simpa [M.its] using e
    subst this
    exact ⟨a, vs, rfl, r, .inl ⟨s, false, rfl⟩⟩
  · rename_i a vs ds s f r
    have : ds = xs := by simpa [M.its] using e
    subst this
    exact ⟨a, vs, rfl, r, .inl ⟨s, true, rfl⟩⟩

/-! ### ints -/
/-- the ways of an operation on two ints -/
def oI (C : Int → Int → Prop) (g : Int → Int → D) : O2 := fun ρ x y K => ∃ i j, x = .int i ∧ y = .int j ∧ C i j ∧ K (g i j)
theorem Rr.int {i : Int} (h : Rr G F H σ v (.int i) fr) : v = .int i ∧ fr = [] := by
  rcases h with h | ⟨_, e, _⟩
  · cases h; exact ⟨rfl, rfl⟩
  · cases e
theorem Rr.str {x : Str} (h : Rr G F H σ v (.str x) fr) : v = .str x ∧ fr = [] := by
  rcases h with h | ⟨_, e, _⟩
  · cases h; exact ⟨rfl, rfl⟩
  · cases e
theorem Rr.bl {b : Bool} (h : Rr G F H σ v (.bl b) fr) : v = .bl b ∧ fr = [] := by
  rcases h with h | ⟨_, e, _⟩
  · cases h; exact ⟨rfl, rfl⟩
  · cases e
theorem oI_ok {C : Int → Int → Prop} {g : Int → Int → V} {g' : Int → Int → D} (hg : ∀ K ca F H i j, Rp K ca F H (g i j) (g' i j) []) : O2Ok G (rI C g) (oI C g') := fun F H σ ρ fp v1 v2 x y f1 f2 Kd Q ok r1 r2 nd h k => by
  obtain ⟨i, j, rfl, rfl, c, q⟩ := h
  obtain ⟨rfl, _⟩ := r1.int
  obtain ⟨rfl, _⟩ := r2.int
  exact ⟨i, j, rfl, rfl, c, k _ H F _ [] (En.refl ok) (hg _ _ _ _ i j) q⟩
theorem oI0_ok {g : Int → Int → V} {g' : Int → Int → D} (hg : ∀ K ca F H i j, Rp K ca F H (g i j) (g' i j) []) : O2Ok G (rI0 g) (oI (fun _ _ => True) g') := fun F H σ ρ fp v1 v2 x y f1 f2 Kd Q ok r1 r2 nd h k => by
  obtain ⟨i, j, rfl, rfl, c, q⟩ := h
  obtain ⟨rfl, _⟩ := r1.int
  obtain ⟨rfl, _⟩ := r2.int
  exact ⟨i, j, rfl, rfl, k _ H F _ [] (En.refl ok) (hg _ _ _ _ i j) q⟩
/-- strs -/
def oS (C : Str → Str → Prop) (g : Str → Str → D) : O2 := fun ρ x y K => ∃ i j, x = .str i ∧ y = .str j ∧ C i j ∧ K (g i j)
abbrev rS (C : Str → Str → Prop) (g : Str → Str → V) : R2 := fun x y H Q => ∃ i j, x = .str i ∧ y = .str j ∧ C i j ∧ Q (g i j) H
theorem oS_ok {C : Str → Str → Prop} {g : Str → Str → V} {g' : Str → Str → D} (hg : ∀ K ca F H i j, Rp K ca F H (g i j) (g' i j) []) : O2Ok G (rS C g) (oS C g') := fun F H σ ρ fp v1 v2 x y f1 f2 Kd Q ok r1 r2 nd h k => by
  obtain ⟨i, j, rfl, rfl, c, q⟩ := h
  obtain ⟨rfl, _⟩ := r1.str
  obtain ⟨rfl, _⟩ := r2.str
  exact ⟨i, j, rfl, rfl, c, k _ H F _ [] (En.refl ok) (hg _ _ _ _ i j) q⟩

/-! ### lists and tuples, one behind the other -/
def oCatL : O2 := fun ρ x y K => ∃ b c xs ys, pk ρ x = some (.lst b xs) ∧ pk ρ y = some (.lst c ys) ∧ xs.length + ys.length ≤ sizeLine ∧ K (.lst true (xs ++ ys))
def oCatT : O2 := fun ρ x y K => ∃ xs ys, x = .tup xs ∧ y = .tup ys ∧ xs.length + ys.length ≤ sizeLine ∧ K (.tup (xs ++ ys))
theorem Rr.lst {b : Bool} {xs : List D} (ok : Ok G F H σ ρ fp) (h : Rr G F H σ v r fr) (e : pk ρ r = some (.lst b xs)) : ∃ (a : Addr) (vs : List V), v = .ref a ∧ H a = some (.lst vs) ∧ RpL G.K G.ca F H vs xs [] := by
  obtain ⟨fs, rp, _⟩ := h.see ok e
  cases rp with
  | lfz s f r => exact ⟨_, _, rfl, s, r⟩
  | low s f r => exact ⟨_, _, rfl, s, r⟩
theorem Rr.tup {xs : List D} (h : Rr G F H σ v (.tup xs) fr) : ∃ (a : Addr) (vs : List V), v = .ref a ∧ SqT G.K H a vs ∧ RpL G.K G.ca F H vs xs [] := by
  rcases h with h | ⟨_, e, _⟩
  · cases h with
    | tup s r => exact ⟨_, _, rfl, s, r⟩
  · cases e
theorem oCatT_ok : O2Ok G (rCatA G.K) oCatT := fun F H σ ρ fp v1 v2 x y f1 f2 Kd Q ok r1 r2 nd h k => by
  obtain ⟨xs, ys, rfl, rfl, z, q⟩ := h
  obtain ⟨a, vs, rfl, s1, p1⟩ := r1.tup
  obtain ⟨b, us, rfl, s2, p2⟩ := r2.tup
  have l1 := p1.length
  have l2 := p2.length
  refine ⟨a, b, vs, us, rfl, rfl, s1, s2, by omega, fun e => ?_, fun _ e => ?_, fun _ _ p hp => ?_⟩
  · have e2 : xs = [] := List.length_eq_zero_iff.mp (by rw [← l1, e]; rfl)
    subst e2
    exact k _ H F _ [] (En.refl ok) (.tup s2 p2) q
  · have e2 : ys = [] := List.length_eq_zero_iff.mp (by rw [← l2, e]; rfl)
    subst e2
    refine k _ H F _ [] (En.refl ok) ?_ q
    rw [List.append_nil]
    exact .tup s1 p1
  · exact k _ _ F _ [] (En.tup ok hp) (.tup (.of upd_same) ((p1.app p2).new hp)) q
theorem oCatL_ok : O2Ok G rCat oCatL := fun F H σ ρ fp v1 v2 x y f1 f2 Kd Q ok r1 r2 nd h k => by
  obtain ⟨b, c, xs, ys, e1, e2, z, q⟩ := h
  obtain ⟨a, vs, rfl, s1, p1⟩ := r1.lst ok e1
  obtain ⟨d, us, rfl, s2, p2⟩ := r2.lst ok e2
  have l1 := p1.length
  have l2 := p2.length
  exact ⟨a, d, vs, us, rfl, rfl, s1, s2, by omega, fun p hp => k _ _ F _ [p] (En.own ok hp) (.low upd_same (ok.not_none hp).1 ((p1.app p2).new hp)) q⟩
end
end M
/-! M4: tests, and | or | not, arguments, displays; sharing and moving of results. -/
namespace M
open PySem PySem.Spec PyProof.Rows L2

section
variable {G : Gc} {X : Cx} {F F' F1 F2 : Addr → Prop} {H H' H1 H2 : Hp} {σ : L2.St} {ρ ρ' ρ1 ρ2 : Sl} {fp fp' fp1 fp2 fr fr1 fr2 : List Addr} {v v1 v2 : V} {r r1 r2 d : D} {p : Addr} {o : HO}
  {a b c : Expr} {wa wb wc : WE} {ta tb tc : WT} {rest : List Expr} {pos : Pos}

/-! ### tests -/
def wB (w : WE) : WT := fun ρ Q => w ρ fun x ρ1 => ∃ b, x = .bl b ∧ Q b ρ1
theorem le_b {w : WE} : ∀ σ H Q, LT G (wB w) σ H Q → LE G w σ H fun x H' => ∃ k, x = .bl k ∧ Q k H' := fun σ H Q q => by
  obtain ⟨F, ρ, fp, Qd, ok, h, k⟩ := q
  refine ⟨F, ρ, fp, _, ok, h, fun v H' F' ρ' fp' r fr en rr q => ?_⟩
  obtain ⟨b, rfl, q⟩ := q
  obtain ⟨rfl, rfl⟩ := rr.bl
  exact ⟨b, rfl, k b H' F' ρ' fp' en q⟩
theorem dt_cmp {op : CmpOp} {r : R2} {o : O2} (hr : OpR X (compareOp op) r) (ho : O2Ok G r o) (ha : PE X a (LE G wa)) (hb : PE X b (LE G wb)) (hm : behindInMarks op b = false) : PT X (.Compare a [op] [b] pos) (LT G (wB (wOp o wa wb))) :=
  imT (pt_cmpR hr ha hb hm) fun σ H Q q => LE.op ho σ H _ (le_b σ H Q q)
theorem dt_val {e : Expr} {w : WE} (h : PE X e (LE G w)) (he : ∀ whole, isTrue e X.env whole = (do let v ← whole; standAt e.pos; holding [v] (truthy v)) := by intro _; rfl) : PT X e (LT G (wB w)) :=
  imT (pt_val h he) fun σ H Q q => le_b σ H Q q
/-- truth of a value that may be no bool -/
def TruD (ρ : Sl) (x : D) (k : Bool) : Prop := ∃ d, pk ρ x = some d ∧ (match d with
  | .non => k = false
  | .bl b => k = b
  | .int i => k = (i != 0)
  | .str y => y.length ≤ sizeLine ∧ k = ((y.length : Int) != 0)
  | .lst _ xs => k = !xs.isEmpty
  | .tup xs => k = !xs.isEmpty
  | _ => False)
def wTru (w : WE) : WT := fun ρ Q => w ρ fun x ρ1 => ∃ k, TruD ρ1 x k ∧ Q k ρ1
theorem RpL.empty {K : PySem.W.Frag} {ca : Str → Addr} {vs : List V} {ds : List D} (h : RpL K ca F H vs ds fr) : (!vs.isEmpty) = !ds.isEmpty := by
  cases h <;> rfl
theorem dt_truth {e : Expr} {w : WE} (h : PE X e (LE G w)) (hK : X.K = G.K) (he : ∀ whole, isTrue e X.env whole = (do let v ← whole; standAt e.pos; holding [v] (truthy v)) := by intro _; rfl) : PT X e (LT G (wTru w)) :=
  imT (pt_truth h he) fun σ H Q q => by
    obtain ⟨F, ρ, fp, Qd, ok, h, k⟩ := q
    refine ⟨F, ρ, fp, _, ok, h, fun v H' F' ρ' fp' r fr en rr q => ?_⟩
    obtain ⟨b, ⟨d, e, t⟩, q⟩ := q
    refine ⟨b, ?_, k b H' F' ρ' fp' ⟨en.st.less fun a z => List.mem_append_right _ z, en.ok, by simpa using en.ok.nd⟩ q⟩
    rw [hK]
    obtain ⟨fs, rp, sub⟩ := rr.see en.ok e
    clear sub
    cases rp with
    | tup s rl => exact .inr (.inl ⟨_, s, by rw [rl.empty]; exact t⟩)
    | lfz s f rl => exact .inl ⟨_, .of s, by rw [rl.empty]; exact t⟩
    | low s f rl => exact .inl ⟨_, .of s, by rw [rl.empty]; exact t⟩
    | _ => first | exact t | exact t.elim
def wAnd (t u : WT) : WT := fun ρ Q => t ρ fun c ρ1 => if c = true then u ρ1 Q else Q false ρ1
def wOr (t u : WT) : WT := fun ρ Q => t ρ fun c ρ1 => if c = true then Q true ρ1 else u ρ1 Q
def wNot (t : WT) : WT := fun ρ Q => t ρ fun c ρ1 => Q (!c) ρ1
theorem En.trans0 (a : En G F H fp σ F1 H1 ρ1 fp1 []) (b : En G F1 H1 fp1 σ F2 H2 ρ2 fp2 fr2) : En G F H fp σ F2 H2 ρ2 fp2 fr2 := a.trans b fun x z => nomatch z
theorem lt_and {t u : WT} : ∀ σ H Q, LT G (wAnd t u) σ H Q → tAnd (LT G t) (LT G u) σ H Q := fun σ H Q q => by
  obtain ⟨F, ρ, fp, Qd, ok, h, k⟩ := q
  refine ⟨F, ρ, fp, _, ok, h, fun b H1 F1 ρ1 fp1 en q => ?_⟩
  cases b with
  | false => exact k false H1 F1 ρ1 fp1 en q
  | true => exact ⟨F1, ρ1, fp1, Qd, en.ok, q, fun b H2 F2 ρ2 fp2 en2 q2 => k b H2 F2 ρ2 fp2 (en.trans0 en2) q2⟩
theorem lt_or {t u : WT} : ∀ σ H Q, LT G (wOr t u) σ H Q → tOr (LT G t) (LT G u) σ H Q := fun σ H Q q => by
  obtain ⟨F, ρ, fp, Qd, ok, h, k⟩ := q
  refine ⟨F, ρ, fp, _, ok, h, fun b H1 F1 ρ1 fp1 en q => ?_⟩
  cases b with
  | true => exact k true H1 F1 ρ1 fp1 en q
  | false => exact ⟨F1, ρ1, fp1, Qd, en.ok, q, fun b H2 F2 ρ2 fp2 en2 q2 => k b H2 F2 ρ2 fp2 (en.trans0 en2) q2⟩
theorem dw_and1 (ha : PT X a (LT G ta)) : PW X (.BoolOp .And [a] pos) (LT G ta) := pw_and1 ha
theorem dw_or1 (ha : PT X a (LT G ta)) : PW X (.BoolOp .Or [a] pos) (LT G ta) := pw_or1 ha
theorem imW {e : Expr} {t u : TT} (h : PW X e t) (i : ∀ σ H Q, u σ H Q → t σ H Q) : PW X e u := ⟨fun wh pins s σ H Q I q => h.run wh pins s σ H Q I (i σ H Q q)⟩
theorem dw_and (ha : PT X a (LT G ta)) (hb : PW X (.BoolOp .And (b :: rest) pos) (LT G tb)) : PW X (.BoolOp .And (a :: b :: rest) pos) (LT G (wAnd ta tb)) := imW (pw_and ha hb) lt_and
theorem dw_or (ha : PT X a (LT G ta)) (hb : PW X (.BoolOp .Or (b :: rest) pos) (LT G tb)) : PW X (.BoolOp .Or (a :: b :: rest) pos) (LT G (wOr ta tb)) := imW (pw_or ha hb) lt_or
theorem dt_not (ha : PT X a (LT G ta)) : PT X (.UnaryOp .Not a pos) (LT G (wNot ta)) := imT (pt_not ha) fun σ H Q q => by
  obtain ⟨F, ρ, fp, Qd, ok, h, k⟩ := q
  exact ⟨F, ρ, fp, _, ok, h, fun b H1 F1 ρ1 fp1 en q => k _ H1 F1 ρ1 fp1 en q⟩
/-- as values -/
def wAndV (wa wb : WE) : WE := fun ρ Q => wa ρ fun x ρ1 => ∃ c, x = .bl c ∧ if c = true then wb ρ1 Q else Q (.bl false) ρ1
def wOrV (wa wb : WE) : WE := fun ρ Q => wa ρ fun x ρ1 => ∃ c, x = .bl c ∧ if c = true then Q (.bl true) ρ1 else wb ρ1 Q
def wNotV (wa : WE) : WE := fun ρ Q => wa ρ fun x ρ1 => ∃ c, x = .bl c ∧ Q (.bl (!c)) ρ1
theorem d_one {op} (h : PE X a (LE G wa)) : PE X (.BoolOp op [a] pos) (LE G wa) := pe_one h
theorem d_and (ha : PE X a (LE G wa)) (hb : PE X (.BoolOp .And (b :: rest) pos) (LE G wb)) : PE X (.BoolOp .And (a :: b :: rest) pos) (LE G (wAndV wa wb)) := imE (pe_and ha hb) fun σ H Q q => by
  obtain ⟨F, ρ, fp, Qd, ok, h, k⟩ := q
  refine ⟨F, ρ, fp, _, ok, h, fun v H1 F1 ρ1 fp1 r fr en rr q => ?_⟩
  obtain ⟨c, rfl, q⟩ := q
  obtain ⟨rfl, rfl⟩ := rr.bl
  refine ⟨c, rfl, ?_⟩
  cases c with
  | false => exact k _ H1 F1 ρ1 fp1 _ [] en (.inl (.bl _)) q
  | true => exact ⟨F1, ρ1, fp1, Qd, en.ok, q, fun v H2 F2 ρ2 fp2 r fr en2 rr2 q2 => k v H2 F2 ρ2 fp2 r fr (en.trans0 en2) rr2 q2⟩
theorem d_or (ha : PE X a (LE G wa)) (hb : PE X (.BoolOp .Or (b :: rest) pos) (LE G wb)) : PE X (.BoolOp .Or (a :: b :: rest) pos) (LE G (wOrV wa wb)) := imE (pe_or ha hb) fun σ H Q q => by
  obtain ⟨F, ρ, fp, Qd, ok, h, k⟩ := q
  refine ⟨F, ρ, fp, _, ok, h, fun v H1 F1 ρ1 fp1 r fr en rr q => ?_⟩
  obtain ⟨c, rfl, q⟩ := q
  obtain ⟨rfl, rfl⟩ := rr.bl
  refine ⟨c, rfl, ?_⟩
  cases c with
  | true => exact k _ H1 F1 ρ1 fp1 _ [] en (.inl (.bl _)) q
  | false => exact ⟨F1, ρ1, fp1, Qd, en.ok, q, fun v H2 F2 ρ2 fp2 r fr en2 rr2 q2 => k v H2 F2 ρ2 fp2 r fr (en.trans0 en2) rr2 q2⟩
theorem d_not (ha : PE X a (LE G wa)) : PE X (.UnaryOp .Not a pos) (LE G (wNotV wa)) := imE (pe_not ha) fun σ H Q q => by
  obtain ⟨F, ρ, fp, Qd, ok, h, k⟩ := q
  refine ⟨F, ρ, fp, _, ok, h, fun v H1 F1 ρ1 fp1 r fr en rr q => ?_⟩
  obtain ⟨c, rfl, q⟩ := q
  obtain ⟨rfl, rfl⟩ := rr.bl
  exact ⟨c, rfl, k _ H1 F1 ρ1 fp1 _ [] en (.inl (.bl _)) q⟩
def wIf (t : WT) (wa wb : WE) : WE := fun ρ Q => t ρ fun c ρ1 => if c = true then wa ρ1 Q else wb ρ1 Q
theorem d_if {t : WT} (hc : PT X c (LT G t)) (ha : PE X a (LE G wa)) (hb : PE X b (LE G wb)) : PE X (.IfExp c a b pos) (LE G (wIf t wa wb)) := imE (pe_ifExp hc ha hb) fun σ H Q q => by
  obtain ⟨F, ρ, fp, Qd, ok, h, k⟩ := q
  refine ⟨F, ρ, fp, _, ok, h, fun c H1 F1 ρ1 fp1 en q => ?_⟩
  cases c <;> exact ⟨F1, ρ1, fp1, Qd, en.ok, q, fun v H2 F2 ρ2 fp2 r fr en2 rr2 q2 => k v H2 F2 ρ2 fp2 r fr (en.trans0 en2) rr2 q2⟩
/-- a op b op' c -/
def wChain (o o' : O2) (wa wb wc : WE) : WE := fun ρ Q => wa ρ fun x ρ1 => wb ρ1 fun y ρ2 => pln y = true ∧ o ρ2 x y fun z => ∃ k, z = .bl k ∧ if k = true then wc ρ2 fun u ρ3 => o' ρ3 y u fun d => Q d ρ3 else Q (.bl false) ρ2
  where pln : D → Bool
    | .int _ => true
    | .str _ => true
    | _ => false
theorem le_chain {r r' : R2} {o o' : O2} (ho : O2Ok G r o) (ho' : O2Ok G r' o') : ∀ σ H Q, LE G (wChain o o' wa wb wc) σ H Q → tChain r r' (LE G wa) (LE G wb) (LE G wc) σ H Q := fun σ H Q q => by
  obtain ⟨F, ρ, fp, Qd, ok, h, k⟩ := q
  refine bin2 (k := fun x y ρ2 => wChain.pln y = true ∧ o ρ2 x y fun z => ∃ k, z = .bl k ∧ if k = true then wc ρ2 fun u ρ3 => o' ρ3 y u fun d => Qd d ρ3 else Qd (.bl false) ρ2) ok h
    fun v1 v2 H2 F2 ρ2 fp2 x y f1 f2 en r1 r2 q => ?_
  obtain ⟨py, q⟩ := q
  refine ho F2 H2 σ ρ2 fp2 v1 v2 x y f1 f2 _ _ en.ok r1 r2 en.nd q fun v H3 F3 d fr en3 rp3 q3 => ?_
  obtain ⟨b, rfl, q3⟩ := q3
  have e : v = .bl b ∧ fr = [] := by cases rp3; exact ⟨rfl, rfl⟩
  obtain ⟨rfl, rfl⟩ := e
  have en' := en.drop en3
  refine ⟨b, rfl, ?_⟩
  cases b with
  | false => exact k _ H3 F3 ρ2 fp2 _ [] en' (.inl (.bl _)) q3
  | true =>
    refine ⟨F3, ρ2, fp2, _, en3.ok, q3, fun v4 H4 F4 ρ4 fp4 u f4 en4 r4 q4 => ?_⟩
    have ry : Rr G F4 H4 σ v2 y [] := by
      cases y <;> (try (simp [wChain.pln] at py; done))
      · obtain ⟨rfl, _⟩ := r2.int; exact .inl (.int _)
      · obtain ⟨rfl, _⟩ := r2.str; exact .inl (.str _)
    refine ho' F4 H4 σ ρ4 fp4 v2 v4 y u [] f4 _ _ en4.ok ry r4 (by simpa using en4.nd) q4 fun v5 H5 F5 d f5 en5 r5 q5 => ?_
    exact k v5 H5 F5 ρ4 fp4 d f5 ((en'.trans0 en4).drop en5) (.inl r5) q5
theorem d_chain {op op' : CmpOp} {r r' : R2} {o o' : O2} (hr : OpR X (compareOp op) r) (hr' : OpR X (compareOp op') r') (ho : O2Ok G r o) (ho' : O2Ok G r' o') (ha : PE X a (LE G wa)) (hb : PE X b (LE G wb)) (hc : PE X c (LE G wc))
    (hm : lastMarks [op, op'] [b, c] = false := by with_unfolding_all rfl) : PE X (.Compare a [op, op'] [b, c] pos) (LE G (wChain o o' wa wb wc)) := imE (pe_chain hr hr' ha hb hc hm) (le_chain ho ho')
theorem dt_chain {op op' : CmpOp} {r r' : R2} {o o' : O2} (hr : OpR X (compareOp op) r) (hr' : OpR X (compareOp op') r') (ho : O2Ok G r o) (ho' : O2Ok G r' o') (ha : PE X a (LE G wa)) (hb : PE X b (LE G wb)) (hc : PE X c (LE G wc))
    (hm : lastMarks [op, op'] [b, c] = false := by with_unfolding_all rfl) : PT X (.Compare a [op, op'] [b, c] pos) (LT G (wB (wChain o o' wa wb wc))) :=
  imT (pt_chain hr hr' ha hb hc hm) fun σ H Q q => le_chain ho ho' σ H _ (le_b σ H Q q)

/-! ### arguments -/
def wNil : WA := fun ρ Q => Q [] ρ
def wCons (we : WE) (wr : WA) : WA := fun ρ Q => we ρ fun x ρ1 => wr ρ1 fun xs ρ2 => Q (x :: xs) ρ2
variable {e : Expr} {es : List Expr} {we : WE} {wr : WA}
theorem da_nil : PA X [] (LA G wNil) := imA pa_nil fun σ H Q q => by
  obtain ⟨F, ρ, fp, Qd, ok, h, k⟩ := q
  exact k [] H F ρ fp [] [] (En.refl ok) .nil h
theorem la_cons : ∀ σ H Q, LA G (wCons we wr) σ H Q → tCons (LE G we) (LA G wr) σ H Q := fun σ H Q q => by
  obtain ⟨F, ρ, fp, Qd, ok, h, k⟩ := q
  refine ⟨F, ρ, fp, _, ok, h, fun v1 H1 F1 ρ1 fp1 x f1 en1 rr1 q1 => ?_⟩
  refine ⟨F1, ρ1, fp1, _, en1.ok, q1, fun vs H2 F2 ρ2 fp2 xs f2 en2 rr2 q2 => ?_⟩
  exact k _ H2 F2 ρ2 fp2 _ _ (en1.trans en2 rr1.dom) (.cons (rr1.step en2.st en1.ok.nf (nodup_d en1.nd)) rr2) q2
theorem da_cons (ha : PE X e (LE G we)) (hr : PA X es (LA G wr)) (hs : starEach (e :: es) X.env = (false, eval e X.env) :: starEach es X.env := by rfl) : PA X (e :: es) (LA G (wCons we wr)) := imA (pa_cons ha hr hs) la_cons
/-- *e: the items, which are seen as they stand -/
def wStar (we : WE) (wr : WA) : WA := fun ρ Q => we ρ fun x ρ1 => ∃ d ds, pk ρ1 x = some d ∧ its d = some ds ∧ wr ρ1 fun xs ρ2 => Q (ds ++ xs) ρ2
theorem RpL.rr : ∀ {vs : List V} {ds : List D} {fr : List Addr}, RpL G.K G.ca F H vs ds fr → RrL G F H σ vs ds fr
  | _, _, _, .nil => .nil
  | _, _, _, .cons r t => .cons (.inl r) (RpL.rr t)
theorem RrL.app {vs us : List V} {ds es : List D} (h : RrL G F H σ vs ds fr1) (h' : RrL G F H σ us es fr2) : RrL G F H σ (vs ++ us) (ds ++ es) (fr1 ++ fr2) := by
  induction h with
  | nil => exact h'
  | cons r _ ih => rw [List.append_assoc]; exact .cons r ih
theorem da_star {p : Pos} (hK : X.K = G.K) (ha : PE X e (LE G we)) (hr : PA X es (LA G wr)) (hs : starEach (.Starred e p :: es) X.env = (true, eval e X.env) :: starEach es X.env := by rfl) : PA X (.Starred e p :: es) (LA G (wStar we wr)) := imA (StX.pa_star ha hr hs) fun σ H Q q => by
  obtain ⟨F, ρ, fp, Qd, ok, h, k⟩ := q
  refine ⟨F, ρ, fp, _, ok, h, fun v1 H1 F1 ρ1 fp1 x f1 en1 rr1 q1 => ?_⟩
  obtain ⟨d, ds, e1, e2, q1⟩ := q1
  obtain ⟨fs, rp, _⟩ := rr1.see en1.ok e1
  obtain ⟨a, vs, rfl, rl, hc⟩ := rp.its e2
  refine ⟨a, vs, rfl, ?_, F1, ρ1, fp1, _, en1.ok, q1, fun us H2 F2 ρ2 fp2 xs f2 en2 rr2 q2 => ?_⟩
  · rw [hK]
    rcases hc with ⟨s, _⟩ | ⟨s, _⟩
    · exact .inr (.of s)
    · exact .inl s
  · refine k _ H2 F2 ρ2 fp2 (ds ++ xs) f2 (en1.drop en2) ?_ q2
    exact (RpL.rr (rl.step en2.st en1.ok.nf fun a z => nomatch z)).app rr2

/-! ### sharing, moving -/
def fzR (ρ : Sl) : D → Option (D × Sl)
  | .sl i => match ρ[i]? with
    | some (some d) => some (fz d, ρ.set i (some (fz d)))
    | _ => none
  | d => some (fz d, ρ)
def fzRs : Sl → List D → Option (List D × Sl)
  | ρ, [] => some ([], ρ)
  | ρ, r :: rs => match fzR ρ r with
    | some (d, ρ1) => match fzRs ρ1 rs with
      | some (ds, ρ2) => some (d :: ds, ρ2)
      | none => none
    | none => none
/-- what a sharing does to the state -/
structure Shd (G : Gc) (F : Addr → Prop) (H : Hp) (σ : L2.St) (ρ : Sl) (fp fr : List Addr) (F' : Addr → Prop) (ρ' : Sl) (fp' : List Addr) : Prop where
  mono : ∀ a, F a → F' a
  new : ∀ a, F' a → F a ∨ a ∈ fr ∨ (a ∈ fp ∧ a ∉ fp')
  ok : Ok G F' H σ ρ' fp'
  sub : ∀ a ∈ fp', a ∈ fp
theorem Rr.share (ok : Ok G F H σ ρ fp) (h : Rr G F H σ v r fr) (nd : (fr ++ fp).Nodup) (hr : ∀ a ∈ fr, a ∈ G.fp0 ∨ G.H0 a = none) (e : fzR ρ r = some (d, ρ')) : ∃ F' fp', Shd G F H σ ρ fp fr F' ρ' fp' ∧ Rp G.K G.ca F' H v d [] := by
  rcases h with h | ⟨i, rfl, ev, rfl⟩
  · have e' : (fz r, ρ) = (d, ρ') := by
      have : fzR ρ r = some (fz r, ρ) := by cases h <;> rfl
      rw [this] at e
      exact Option.some.inj e
    cases e'
    refine ⟨fun a => F a ∨ a ∈ fr, fp, ⟨fun _ z => .inl z, fun a z => z.imp id .inl, ⟨ok.rs.keep (fun _ _ e _ => e) (fun _ _ _ e _ => e) (fun _ _ _ e _ => e) (fun _ z => .inl z) (fun _ _ _ e => e) fun a z f => ?_, ok.nd, fun a f => ?_, ok.pm, ⟨fun a z => .inl (ok.rch.mono a z), fun a z => z.elim (ok.rch.new a) fun z => .inr (hr a z), ok.rch.keep, ok.rch.there, ok.rch.fps⟩⟩, fun _ z => z⟩, ?_⟩
    · rcases f with f | f
      · exact ok.nf a z f
      · exact nodup_d nd a f z
    · rcases f with f | f
      · exact ok.dom a f
      · exact let ⟨_, o, q, _⟩ := h.own a f; ⟨o, q⟩
    · exact h.fz (fun _ z => .inl z) fun a z => .inr z
  · have hi : ∃ c, ρ[i]? = some (some c) ∧ (fz c, ρ.set i (some (fz c))) = (d, ρ') := by
      have e : (match ρ[i]? with
        | some (some d) => some (fz d, ρ.set i (some (fz d)))
        | _ => none) = some (d, ρ') := e
      cases q : ρ[i]? with
      | none => rw [q] at e; cases e
      | some x => cases x with
        | none => rw [q] at e; cases e
        | some c => rw [q] at e; exact ⟨c, rfl, Option.some.inj e⟩
    obtain ⟨c, q, e'⟩ := hi
    cases e'
    obtain ⟨l, fs, rr, e1, h1, _, _, h4⟩ := ok.rs.at_ (i := i) (by rw [List.getElem?_eq_some_iff] at q; exact q.1)
    obtain ⟨v', ev', rp⟩ := h1 c q
    rw [ev] at ev'; cases ev'
    have nd2 := ok.nd
    rw [e1] at nd2
    have lr : ∀ a, a ∈ l ++ rr → a ∉ fs := fun a z y => by
      rcases List.mem_append.mp z with z | z
      · exact nodup_d (nodup_l nd2) a z y
      · exact nodup_d nd2 a (List.mem_append_right _ y) z
    have rs1 : RpS G.K G.ca (fun a => F a ∨ a ∈ fs) H (σ.set i none) (ρ.set i none) (l ++ rr) := by
      obtain ⟨_, _, _, _, _, _, h3, _⟩ := ok.rs.at_ (i := i) (by rw [List.getElem?_eq_some_iff] at q; exact q.1)
      have : RpS G.K G.ca F H (σ.set i none) (ρ.set i none) (l ++ rr) := by
        obtain ⟨l', fs', rr', e1', h1', _, h3', h4'⟩ := ok.rs.at_ (i := i) (by rw [List.getElem?_eq_some_iff] at q; exact q.1)
        have := h4 (V.non) D.non [] .non
        obtain ⟨l2, fs2, r2, e2, g1, _, g3, _⟩ := this.at_ (i := i) (by rw [List.length_set]; rw [List.getElem?_eq_some_iff] at q; exact q.1)
        obtain ⟨_, _, rn⟩ := g1 .non (by rw [List.getElem?_set_self (by rw [List.getElem?_eq_some_iff] at q; exact q.1)])
        have efs : fs2 = [] := rn.free rfl
        have := g3 none
        rw [List.set_set, List.set_set] at this
        have ee : l ++ [] ++ rr = l2 ++ fs2 ++ r2 := e2
        rw [efs] at ee
        simp only [List.append_nil] at ee
        rw [ee]
        exact this
      exact this.keep (fun _ _ e _ => e) (fun _ _ _ e _ => e) (fun _ _ _ e _ => e) (fun _ z => .inl z) (fun _ _ _ e => e) fun a z f => by
        rcases f with f | f
        · exact (this.own a z).1 f
        · exact lr a z f
    have rpz : Rp G.K G.ca (fun a => F a ∨ a ∈ fs) H v (fz c) [] := rp.fz (fun _ z => .inl z) fun a z => .inr z
    have rs2 : RpS G.K G.ca (fun a => F a ∨ a ∈ fs) H σ (ρ.set i (some (fz c))) (l ++ rr) := by
      obtain ⟨l2, fs2, r2, e2, _, g2, _, g4⟩ := rs1.at_ (i := i) (by rw [List.length_set]; rw [List.getElem?_eq_some_iff] at q; exact q.1)
      have efs : fs2 = [] := g2 (by rw [List.getElem?_set_self (by rw [List.getElem?_eq_some_iff] at q; exact q.1)])
      have := g4 v (fz c) [] rpz
      rw [List.set_set, List.set_set] at this
      rw [efs] at e2
      simp only [List.append_nil] at e2 this
      rw [e2]
      have es : σ.set i (some v) = σ := by
        apply List.ext_getElem?
        intro j
        by_cases hj : i = j
        · subst hj
          rw [ev, List.getElem?_set_self (by rw [List.getElem?_eq_some_iff] at ev; exact ev.1)]
        · rw [List.getElem?_set_ne hj]
      rw [es] at this
      exact this
    refine ⟨fun a => F a ∨ a ∈ fs, l ++ rr, ⟨fun _ z => .inl z, fun a z => z.imp id fun y => .inr ⟨by rw [e1]; simp [y], fun w => lr a w y⟩, ⟨rs2, ?_, fun a f => ?_, ok.pm, ⟨fun a z => .inl (ok.rch.mono a z), fun a z => z.elim (ok.rch.new a) fun z => .inr (ok.rch.fps a (by rw [e1]; simp [z])), ok.rch.keep, ok.rch.there, fun a z => ok.rch.fps a (by rw [e1]; rcases List.mem_append.mp z with w | w <;> simp [w])⟩⟩, fun a z => by rw [e1]; rcases List.mem_append.mp z with z | z <;> simp [z]⟩, rpz⟩
    · refine nodup_of (nodup_l (nodup_l nd2)) (nodup_r nd2) fun a z y => nodup_d nd2 a (List.mem_append_left _ z) y
    · rcases f with f | f
      · exact ok.dom a f
      · exact let ⟨_, o, q, _⟩ := rp.own a f; ⟨o, q⟩
theorem RrL.share : ∀ {rs : List D} {vs : List V} {F : Addr → Prop} {ρ : Sl} {fp fr : List Addr} {ds : List D} {ρ' : Sl}, Ok G F H σ ρ fp → RrL G F H σ vs rs fr → (fr ++ fp).Nodup → (∀ a ∈ fr, a ∈ G.fp0 ∨ G.H0 a = none) → fzRs ρ rs = some (ds, ρ') →
    ∃ F' fp', Shd G F H σ ρ fp fr F' ρ' fp' ∧ RpL G.K G.ca F' H vs ds []
  | [], _, F, ρ, fp, _, ds, ρ', ok, .nil, nd, hr, e => by
    cases e
    exact ⟨F, fp, ⟨fun _ z => z, fun _ z => .inl z, ok, fun _ z => z⟩, .nil⟩
  | r :: rs, _, F, ρ, fp, _, ds, ρ', ok, @RrL.cons _ _ _ _ v vs _ _ f1 f2 h1 h2, nd, hr, e => by
    unfold fzRs at e
    cases q1 : fzR ρ r with
    | none => rw [q1] at e; cases e
    | some x =>
      obtain ⟨d1, ρ1⟩ := x
      rw [q1] at e
      simp only at e
      cases q2 : fzRs ρ1 rs with
      | none => rw [q2] at e; cases e
      | some y =>
        obtain ⟨ds2, ρ2⟩ := y
        rw [q2] at e
        cases e
        have ndx : (f2 ++ fp).Nodup := by rw [List.append_assoc] at nd; exact nodup_r nd
        have nd1 : (f1 ++ fp).Nodup := by
          rw [List.append_assoc] at nd
          exact nodup_of (nodup_l nd) (nodup_r (nodup_r nd)) fun a z y => nodup_d nd a z (List.mem_append_right _ y)
        have d12 : ∀ a ∈ f1, a ∉ f2 := nodup_d (nodup_l nd)
        obtain ⟨F1, fp1, s1, p1⟩ := h1.share ok nd1 (fun a z => hr a (List.mem_append_left _ z)) q1
        have h2' : RrL G F1 H σ vs rs f2 := by
          refine h2.step (fp := f1 ++ fp) (fp' := fp1) ⟨s1.mono, fun a z => ?_, fun a o e _ => e, fun a o e => ⟨o, e⟩, fun a z => .inl (List.mem_append_right _ (s1.sub a z))⟩ (fun a z => ?_) fun a z y => ?_
          · rcases s1.new a z with y | y | y
            · exact .inl y
            · exact .inr (.inl (List.mem_append_left _ y))
            · exact .inr (.inl (List.mem_append_right _ y.1))
          · rcases List.mem_append.mp z with z | z
            · exact (h1.own a z).1
            · exact ok.nf a z
          · rcases List.mem_append.mp y with y | y
            · exact d12 a y z
            · exact nodup_d ndx a z y
        obtain ⟨F2, fp2, s2, p2⟩ := RrL.share s1.ok h2' (nodup_of (nodup_l ndx) s1.ok.nd fun a z y => nodup_d ndx a z (s1.sub a y)) (fun a z => hr a (List.mem_append_right _ z)) q2
        refine ⟨F2, fp2, ⟨fun a z => s2.mono a (s1.mono a z), fun a z => ?_, s2.ok, fun a z => s1.sub a (s2.sub a z)⟩, .cons (fp := []) (fq := []) (p1.keep (fun _ _ e _ => e) (fun _ _ _ e _ => e) (fun _ _ _ e _ => e) s2.mono (fun a z => nomatch z) fun a z => nomatch z) p2⟩
        rcases s2.new a z with y | y | ⟨y1, y2⟩
        · rcases s1.new a y with w | w | ⟨w1, w2⟩
          · exact .inl w
          · exact .inr (.inl (List.mem_append_left _ w))
          · exact .inr (.inr ⟨w1, fun x => w2 (s2.sub a x)⟩)
        · exact .inr (.inl (List.mem_append_right _ y))
        · exact .inr (.inr ⟨s1.sub a y1, y2⟩)
theorem Shd.step (s : Shd G F H σ ρ fp fr F' ρ' fp') : Step F H (fr ++ fp) F' H fp' :=
  ⟨s.mono, fun a z => by
    rcases s.new a z with y | y | y
    · exact .inl y
    · exact .inr (.inl (List.mem_append_left _ y))
    · exact .inr (.inl (List.mem_append_right _ y.1)), fun _ _ e _ => e, fun _ o e => ⟨o, e⟩, fun a z => .inl (List.mem_append_right _ (s.sub a z))⟩
theorem En.share (en : En G F H fp σ F1 H1 ρ1 fp1 fr1) (s : Shd G F1 H1 σ ρ1 fp1 fr1 F2 ρ2 fp2) : En G F H fp σ F2 H1 ρ2 fp2 [] where
  st := en.st.trans s.step
  ok := s.ok
  nd := by simpa using s.ok.nd

theorem En.hr (en : En G F H fp σ F1 H1 ρ1 fp1 fr1) (ok : Ok G F H σ ρ fp) : ∀ a ∈ fr1, a ∈ G.fp0 ∨ G.H0 a = none := fun a z => (ok.rch.trans en.st).fps a (List.mem_append_left _ z)
/-! ### displays -/
def wTup (wa : WA) : WE := fun ρ Q => wa ρ fun rs ρ1 => ∃ ds ρ2, fzRs ρ1 rs = some (ds, ρ2) ∧ ds.length ≤ sizeLine ∧ Q (.tup ds) ρ2
def wLst (wa : WA) : WE := fun ρ Q => wa ρ fun rs ρ1 => ∃ ds ρ2, fzRs ρ1 rs = some (ds, ρ2) ∧ ds.length ≤ sizeLine ∧ Q (.lst true ds) ρ2
theorem d_tup {x1} {wa : WA} (h : PA X es (LA G wa)) : PE X (.Tuple es x1 pos) (LE G (wTup wa)) := imE (pe_tup h) fun σ H Q q => by
  obtain ⟨F, ρ, fp, Qd, ok, h, k⟩ := q
  refine ⟨F, ρ, fp, _, ok, h, fun vs H1 F1 ρ1 fp1 rs fr en rr q => ?_⟩
  obtain ⟨ds, ρ2, e, z, q⟩ := q
  obtain ⟨F2, fp2, s, p⟩ := rr.share en.ok en.nd (en.hr ok) e
  refine ⟨by rw [p.length]; exact z, fun a ha => ?_⟩
  have en2 := en.share s
  exact k _ _ F2 ρ2 fp2 (.tup ds) [] (en2.trans0 (En.tup en2.ok ha)) (.inl (.tup (.of upd_same) (p.new ha))) q
theorem d_lst {wa : WA} (h : PA X es (LA G wa)) : PE X (.List es pos) (LE G (wLst wa)) := imE (pe_lst h) fun σ H Q q => by
  obtain ⟨F, ρ, fp, Qd, ok, h, k⟩ := q
  refine ⟨F, ρ, fp, _, ok, h, fun vs H1 F1 ρ1 fp1 rs fr en rr q => ?_⟩
  obtain ⟨ds, ρ2, e, z, q⟩ := q
  obtain ⟨F2, fp2, s, p⟩ := rr.share en.ok en.nd (en.hr ok) e
  refine ⟨by rw [p.length]; exact z, fun a ha => ?_⟩
  have en2 := en.share s
  exact k _ _ F2 ρ2 fp2 (.lst true ds) [a] (en2.trans0 (En.own en2.ok ha)) (.inl (.low upd_same (en2.ok.not_none ha).1 (p.new ha))) q
end
end M
/-! M5: statements. -/
namespace M
open PySem PySem.Spec PyProof.Rows L2

section
variable {G : Gc} {X : Cx} {F F' F1 F2 : Addr → Prop} {H H' H1 H2 : Hp} {σ σ' : L2.St} {ρ ρ' ρ1 ρ2 : Sl} {fp fp' fp1 fp2 fr fr1 fr2 : List Addr} {v v1 v2 : V} {r r1 r2 d : D} {p : Addr} {o : HO}
  {a b c e : Expr} {wa wb wc we : WE} {ta tb tc : WT} {rest : List Expr} {pos : Pos} {De : Ends} {Dd : EndD} {t u : WS} {st : Stmt} {sts sts2 : List Stmt}

theorem EnS.after (s : Step F H fp F1 H1 fp1) (h : EnS G F H fp Dd De) : EnS G F1 H1 fp1 Dd De :=
  ⟨fun σ' H' F' ρ' fp' s' ok q => h.nx σ' H' F' ρ' fp' (s.trans s') ok q, fun v σ' H' F' ρ' fp' r fr s' ok nd rr q => h.rt v σ' H' F' ρ' fp' r fr (s.trans s') ok nd rr q,
    fun σ' H' F' ρ' fp' s' ok q => h.bk σ' H' F' ρ' fp' (s.trans s') ok q, fun σ' H' F' ρ' fp' s' ok q => h.ct σ' H' F' ρ' fp' (s.trans s') ok q⟩
theorem En.st0 (en : En G F H fp σ F1 H1 ρ1 fp1 fr) : Step F H fp F1 H1 fp1 := en.st.less fun a z => List.mem_append_right _ z

/-! ### blocks -/
def wNext : WS := fun Dd ρ => Dd.nx ρ
def wSeq (t u : WS) : WS := fun Dd ρ => t { Dd with nx := u Dd } ρ
def wBreak : WS := fun Dd ρ => Dd.bk ρ
def wCont : WS := fun Dd ρ => Dd.ct ρ
def wNever : WS := fun _ _ => False
theorem ds_nil : PSs X [] (LS G wNext) := imSs pss_nil fun D σ H q => by
  obtain ⟨F, ρ, fp, Dd, ok, h, k⟩ := q
  exact k.nx σ H F ρ fp .refl ok h
theorem ls_seq : ∀ D σ H, LS G (wSeq t u) D σ H → tSeq (LS G t) (LS G u) D σ H := fun D σ H q => by
  obtain ⟨F, ρ, fp, Dd, ok, h, k⟩ := q
  exact ⟨F, ρ, fp, { Dd with nx := u Dd }, ok, h, ⟨fun σ' H' F' ρ' fp' s ok' q => ⟨F', ρ', fp', Dd, ok', q, k.after s⟩, k.rt, k.bk, k.ct⟩⟩
theorem ds_cons (h1 : PS X st (LS G t)) (h2 : PSs X sts (LS G u)) : PSs X (st :: sts) (LS G (wSeq t u)) := imSs (pss_cons h1 h2) ls_seq
theorem ds_one (h1 : PS X st (LS G t)) : PSs X [st] (LS G t) := pss_one h1
theorem ds_pass : PS X (.Pass pos) (LS G wNext) := imS ps_pass fun D σ H q => by
  obtain ⟨F, ρ, fp, Dd, ok, h, k⟩ := q
  exact k.nx σ H F ρ fp .refl ok h
theorem ds_break : PS X (.Break pos) (LS G wBreak) := imS ps_break fun D σ H q => by
  obtain ⟨F, ρ, fp, Dd, ok, h, k⟩ := q
  exact k.bk σ H F ρ fp .refl ok h
theorem ds_continue : PS X (.Continue pos) (LS G wCont) := imS ps_continue fun D σ H q => by
  obtain ⟨F, ρ, fp, Dd, ok, h, k⟩ := q
  exact k.ct σ H F ρ fp .refl ok h
theorem ds_never : PS X st (LS G wNever) := imS ps_never fun D σ H q => by
  obtain ⟨F, ρ, fp, Dd, ok, h, k⟩ := q
  exact h
theorem dss_never : PSs X sts (LS G wNever) := imSs pss_never fun D σ H q => by
  obtain ⟨F, ρ, fp, Dd, ok, h, k⟩ := q
  exact h
def wDrop (we : WE) : WS := fun Dd ρ => we ρ fun _ ρ1 => Dd.nx ρ1
theorem ds_expr (he : PE X e (LE G we)) (hs : swapsWith e none pos.line X.env = pure false := by rfl) : PS X (.Expr e pos) (LS G (wDrop we)) := imS (ps_expr he hs) fun D σ H q => by
  obtain ⟨F, ρ, fp, Dd, ok, h, k⟩ := q
  exact ⟨F, ρ, fp, _, ok, h, fun v H1 F1 ρ1 fp1 r fr en rr q => k.nx σ H1 F1 ρ1 fp1 en.st0 en.ok q⟩
theorem ds_doc {x j pos pos'} : PS X (.Expr (.Constant (.str x) j pos) pos') (LS G wNext) := imS ps_doc fun D σ H q => by
  obtain ⟨F, ρ, fp, Dd, ok, h, k⟩ := q
  exact k.nx σ H F ρ fp .refl ok h
def wRet (we : WE) : WS := fun Dd ρ => we ρ Dd.rt
def wRetN : WS := fun Dd ρ => Dd.rt .non ρ
theorem ds_ret (he : PE X e (LE G we)) : PS X (.Return (some e) pos) (LS G (wRet we)) := imS (ps_ret he) fun D σ H q => by
  obtain ⟨F, ρ, fp, Dd, ok, h, k⟩ := q
  exact ⟨F, ρ, fp, _, ok, h, fun v H1 F1 ρ1 fp1 r fr en rr q => k.rt v σ H1 F1 ρ1 fp1 r fr en.st en.ok en.nd rr q⟩
theorem ds_retN : PS X (.Return none pos) (LS G wRetN) := imS ps_retN fun D σ H q => by
  obtain ⟨F, ρ, fp, Dd, ok, h, k⟩ := q
  exact k.rt .non σ H F ρ fp .non [] .refl ok (by simpa using ok.nd) (.inl .non) h
def wIfS (c : WT) (t u : WS) : WS := fun Dd ρ => c ρ fun b ρ1 => if b = true then t Dd ρ1 else u Dd ρ1
theorem ds_if (hc : PT X c (LT G tc)) (ha : PSs X sts (LS G t)) (hb : PSs X sts2 (LS G u)) : PS X (.If c sts sts2 pos) (LS G (wIfS tc t u)) := imS (ps_if hc ha hb) fun D σ H q => by
  obtain ⟨F, ρ, fp, Dd, ok, h, k⟩ := q
  refine ⟨F, ρ, fp, _, ok, h, fun b H1 F1 ρ1 fp1 en q => ?_⟩
  cases b <;> exact ⟨F1, ρ1, fp1, Dd, en.ok, q, k.after en.st0⟩

/-! ### targets -/
abbrev WG := D → Sl → (Sl → Prop) → Prop
abbrev WGs := List D → Sl → (Sl → Prop) → Prop
/-- the slots but those of S are as they were -/
structure Off (S : List Nat) (σ σ' : L2.St) : Prop where
  len : σ'.length = σ.length
  at_ : ∀ j, j ∉ S → σ'[j]? = σ[j]?
def LG (G : Gc) (g : WG) (S : List Nat) : TG := fun v σ H Q => ∃ F ρ fp r fr Qd, Ok G F H σ ρ fp ∧ Rr G F H σ v r fr ∧ ((fr ++ fp).Nodup ∧ ∀ a ∈ fr, a ∈ G.fp0 ∨ G.H0 a = none) ∧ g r ρ Qd ∧
  ∀ σ' H' F' ρ' fp', Step F H (fr ++ fp) F' H' fp' → Ok G F' H' σ' ρ' fp' → Off S σ σ' → Qd ρ' → Q σ' H'
def LGs (G : Gc) (g : WGs) (S : List Nat) : TGs := fun vs σ H Q => ∃ F ρ fp ds fr Qd, Ok G F H σ ρ fp ∧ RpL G.K G.ca F H vs ds fr ∧ ((fr ++ fp).Nodup ∧ ∀ a ∈ fr, a ∈ G.fp0 ∨ G.H0 a = none) ∧ g ds ρ Qd ∧
  ∀ σ' H' F' ρ' fp', Step F H (fr ++ fp) F' H' fp' → Ok G F' H' σ' ρ' fp' → Off S σ σ' → Qd ρ' → Q σ' H'
theorem imG {t u : TG} (h : PG X e t) (i : ∀ v σ H Q, u v σ H Q → t v σ H Q) : PG X e u := ⟨fun pins s σ H x v Q I r q => h.run pins s σ H x v Q I r (i x σ H Q q)⟩
theorem imGs {es : List Expr} {t u : TGs} (h : PGs X es t) (i : ∀ v σ H Q, u v σ H Q → t v σ H Q) : PGs X es u := ⟨fun pins s σ H x v Q I r q => h.run pins s σ H x v Q I r (i x σ H Q q)⟩
/-- a name: what is stored is shared -/
def gFz (i : Nat) : WG := fun r ρ Q => ∃ d ρ1, fzR ρ r = some (d, ρ1) ∧ Q (ρ1.set i (some d))
/-- a name: what is new stays owned -/
def owR (ρ : Sl) : D → Option (D × Sl)
  | .sl j => fzR ρ (.sl j)
  | r => some (r, ρ)
def gOw (i : Nat) : WG := fun r ρ Q => ∃ d ρ1, owR ρ r = some (d, ρ1) ∧ Q (ρ1.set i (some d))
theorem off_set {i : Nat} {x : Option V} : Off [i] σ (σ.set i x) := ⟨by simp, fun j hj => by rw [List.getElem?_set_ne (fun e => hj (by simp [e]))]⟩
theorem Ok.setV {i : Nat} (ok : Ok G F H σ ρ fp) (hi : i < ρ.length) (hpm : ∀ p ∈ G.pm, p.1 ≠ i) (rp : Rp G.K G.ca F H v d fr) (dj : ∀ a ∈ fr, a ∉ fp) (nd : fr.Nodup) (hr : ∀ a ∈ fr, a ∈ G.fp0 ∨ G.H0 a = none) : ∃ fp', Ok G F H (σ.set i (some v)) (ρ.set i (some d)) fp' ∧ ∀ a ∈ fp', a ∈ fr ++ fp := by
  obtain ⟨l, fs, r, e1, _, _, _, h4⟩ := ok.rs.at_ hi
  have nd2 := ok.nd
  rw [e1] at nd2
  refine ⟨l ++ fr ++ r, ⟨h4 v d fr rp, ?_, ok.dom, fun p hp => ?_, ⟨ok.rch.mono, ok.rch.new, ok.rch.keep, ok.rch.there, fun a z => ?_⟩⟩, fun a z => ?_⟩
  · rw [e1] at dj
    refine nodup_of (nodup_of (nodup_l (nodup_l nd2)) nd fun a z y => dj a y (by simp [z])) (nodup_r nd2) fun a z y => ?_
    rcases List.mem_append.mp z with z | z
    · exact nodup_d nd2 a (List.mem_append_left _ z) y
    · exact dj a z (by simp [y])
  · rw [List.getElem?_set_ne (Ne.symm (hpm p hp))]
    exact ok.pm p hp
  · rcases List.mem_append.mp z with z | z
    · rcases List.mem_append.mp z with z | z
      · exact ok.rch.fps a (by rw [e1]; simp [z])
      · exact hr a z
    · exact ok.rch.fps a (by rw [e1]; simp [z])
  · rw [e1]
    rcases List.mem_append.mp z with z | z
    · rcases List.mem_append.mp z with z | z <;> simp [z]
    · simp [z]
theorem pmne {own : List Nat} {i : Nat} (h : G.pm.map (·.1) = own) (hi : own.all (fun j => j != i) = true := by decide) : ∀ p ∈ G.pm, p.1 ≠ i := fun p hp e => by
  have : p.1 ∈ own := by rw [← h]; exact List.mem_map.mpr ⟨p, hp, rfl⟩
  have := List.all_eq_true.mp hi _ this
  simp [e] at this
theorem fz_len {ρ : Sl} {r d : D} {ρ1 : Sl} (h : fzR ρ r = some (d, ρ1)) : ρ1.length = ρ.length := by
  unfold fzR at h
  split at h
  · split at h
    · cases h; simp
    · cases h
  · cases h; rfl
theorem dg_name {i : Nat} {x : Str} {pos : Pos} (hN : X.N.Nodup) (hi : X.N[i]? = some x) (hx : Loc X.env.scope x) (hpm : ∀ p ∈ G.pm, p.1 ≠ i) (hf : X.fn x = true ∨ X.env.scope.names.lookup x = some .local := by first | exact .inl rfl | exact .inr rfl | assumption) :
    PG X (.Name x pos) (LG G (gFz i) [i]) := ⟨fun pins s σ H v u Q I rv q => by
  obtain ⟨F, ρ, fp, r, fr, Qd, ok, rr, ⟨nd, hr⟩, ⟨d, ρ1, e, q⟩, k⟩ := q
  have hl : i < ρ.length := by
    rw [← ok.rs.length, I.len]
    exact (List.getElem?_eq_some_iff.mp hi).1
  obtain ⟨F1, fp1, s1, rp⟩ := rr.share ok nd hr e
  obtain ⟨fp2, ok2, sub⟩ := s1.ok.setV (i := i) (by rw [fz_len e]; exact hl) hpm rp (fun a z => nomatch z) (by simp) (fun a z => nomatch z)
  exact (pg_name hN hi hx hf).run pins s σ H v u Q I rv (k _ H F1 _ fp2 (s1.step.less sub) ok2 off_set q)⟩
theorem dg_own {i : Nat} {x : Str} {pos : Pos} (hN : X.N.Nodup) (hi : X.N[i]? = some x) (hx : Loc X.env.scope x) (hpm : ∀ p ∈ G.pm, p.1 ≠ i) (hf : X.fn x = true ∨ X.env.scope.names.lookup x = some .local := by first | exact .inl rfl | exact .inr rfl | assumption) :
    PG X (.Name x pos) (LG G (gOw i) [i]) := ⟨fun pins s σ H v u Q I rv q => by
  obtain ⟨F, ρ, fp, r, fr, Qd, ok, rr, ⟨nd, hr⟩, ⟨d, ρ1, e, q⟩, k⟩ := q
  have hl : i < ρ.length := by
    rw [← ok.rs.length, I.len]
    exact (List.getElem?_eq_some_iff.mp hi).1
  rcases rr with rp | ⟨j, rfl, ev, rfl⟩
  · have e' : (r, ρ) = (d, ρ1) := by
      have : owR ρ r = some (r, ρ) := by cases rp <;> rfl
      rw [this] at e
      exact Option.some.inj e
    cases e'
    obtain ⟨fp2, ok2, sub⟩ := ok.setV hl hpm rp (nodup_d nd) (nodup_l nd) hr
    exact (pg_name hN hi hx hf).run pins s σ H v u Q I rv (k _ H F _ fp2 ⟨fun _ z => z, fun _ z => .inl z, fun _ _ e _ => e, fun _ o e => ⟨o, e⟩, fun a z => .inl (sub a z)⟩ ok2 off_set q)
  · have e : fzR ρ (.sl j) = some (d, ρ1) := e
    obtain ⟨F1, fp1, s1, rp⟩ := Rr.share ok (.inr ⟨j, rfl, ev, rfl⟩) nd (fun a z => nomatch z) e
    obtain ⟨fp2, ok2, sub⟩ := s1.ok.setV (i := i) (by rw [fz_len e]; exact hl) hpm rp (fun a z => nomatch z) (by simp) (fun a z => nomatch z)
    exact (pg_name hN hi hx hf).run pins s σ H v u Q I rv (k _ H F1 _ fp2 (s1.step.less sub) ok2 off_set q)⟩
def wgNil : WGs := fun ds ρ Q => ds = [] ∧ Q ρ
def wgCons (g : WG) (gs : WGs) : WGs := fun ds ρ Q => ∃ d r, ds = d :: r ∧ g d ρ fun ρ1 => gs r ρ1 Q
theorem dgs_nil : PGs X [] (LGs G wgNil []) := imGs pgs_nil fun vs σ H Q q => by
  obtain ⟨F, ρ, fp, ds, fr, Qd, ok, rl, ⟨nd, hr⟩, ⟨rfl, q⟩, k⟩ := q
  cases rl
  exact ⟨rfl, k σ H F ρ fp .refl ok ⟨rfl, fun _ _ => rfl⟩ q⟩
theorem dgs_cons {es : List Expr} {g : WG} {gs : WGs} {S S' : List Nat} (h1 : PG X e (LG G g S)) (h2 : PGs X es (LGs G gs S'))
    (hs : (assignEach (e :: es) X.env).map (·.2) = assign e X.env :: (assignEach es X.env).map (·.2) := by rfl) : PGs X (e :: es) (LGs G (wgCons g gs) (S ++ S')) := imGs (pgs_cons h1 h2 hs) fun vs σ H Q q => by
  obtain ⟨F, ρ, fp, ds, fr, Qd, ok, rl, ⟨nd, hr⟩, ⟨d, r, rfl, q⟩, k⟩ := q
  cases rl with
  | @cons v vs _ _ f1 f2 rp rt =>
    rw [List.append_assoc] at nd
    have nd1 : (f1 ++ fp).Nodup := nodup_of (nodup_l nd) (nodup_r (nodup_r nd)) fun a z y => nodup_d nd a z (List.mem_append_right _ y)
    refine ⟨v, vs, rfl, F, ρ, fp, d, f1, _, ok, .inl rp, ⟨nd1, fun a z => hr a (List.mem_append_left _ z)⟩, q, fun σ1 H1 F1 ρ1 fp1 s1 ok1 of1 q1 => ?_⟩
    have hF : ∀ a ∈ f1 ++ fp, ¬ F a := fun a z => (List.mem_append.mp z).elim (fun z => (rp.own a z).1) (ok.nf a)
    have dj : ∀ a ∈ f2, a ∉ f1 ++ fp := fun a z y => (List.mem_append.mp y).elim (fun y => nodup_d nd a y (List.mem_append_left _ z)) fun y => nodup_d (nodup_r nd) a z y
    refine ⟨F1, ρ1, fp1, r, f2, Qd, ok1, rt.step s1 hF dj, ⟨nodup_of (nodup_l (nodup_r nd)) ok1.nd fun a z y => ?_, fun a z => hr a (List.mem_append_right _ z)⟩, q1, fun σ2 H2 F2 ρ2 fp2 s2 ok2 of2 q2 => k σ2 H2 F2 ρ2 fp2 ?_ ok2 ⟨of2.len.trans of1.len, fun j hj => (of2.at_ j fun z => hj (List.mem_append_right _ z)).trans (of1.at_ j fun z => hj (List.mem_append_left _ z))⟩ q2⟩
    · rcases s1.fps a y with w | w
      · exact dj a z w
      · obtain ⟨_, o, eo, _⟩ := rt.own a z
        rw [eo] at w; cases w
    · have := (s1.frame f2).trans s2
      exact this.more fun x z => by
        rcases List.mem_append.mp z with z | z
        · simp [z]
        · rcases List.mem_append.mp z with z | z <;> simp [z]
/-- a tuple's items to targets -/
def gUnp (n : Nat) (gs : WGs) : WG := fun r ρ Q => ∃ ds, (r = .tup ds ∨ r = .tpo ds) ∧ ds.length = n ∧ gs ds ρ Q
theorem dg_tup {es : List Expr} {k : Nat} {gs : WGs} {n : Nat} {S : List Nat} (hc : X.calm = true) (hK : X.K = G.K) (h : PGs X es (LGs G gs S)) (hn : (assignEach es X.env).length = n := by rfl) (hst : (assignEach es X.env).findIdx? (·.1) = none := by rfl) : PG X (.Tuple es k pos) (LG G (gUnp n gs) S) := by
  refine imG (pg_tup hc h hn hst) fun v σ H Q q => ?_
  obtain ⟨F, ρ, fp, r, fr, Qd, ok, rr, nd, ⟨ds, e, l, q⟩, kk⟩ := q
  have z : ∃ a vs, v = .ref a ∧ SqT G.K H a vs ∧ RpL G.K G.ca F H vs ds fr := by
    rcases rr with rp | ⟨i, rfl, _, _⟩
    · rcases e with rfl | rfl
      · cases rp with
        | tup s t => exact ⟨_, _, rfl, s, t⟩
      · cases rp with
        | tpo s t => exact ⟨_, _, rfl, s, t⟩
    · rcases e with e | e <;> cases e
  obtain ⟨a, vs, rfl, s, rl⟩ := z
  rw [hK]
  exact ⟨a, vs, rfl, s, by rw [rl.length]; exact l, F, ρ, fp, ds, fr, Qd, ok, rl, nd, q, kk⟩
/-- a list's items to targets -/
def gUnpL (n : Nat) (gs : WGs) : WG := fun r ρ Q => ∃ b ds, pk ρ r = some (.lst b ds) ∧ ds.length = n ∧ gs ds ρ Q

/-! ### assignment -/
def wAsg (we : WE) (g : WG) : WS := fun Dd ρ => we ρ fun r ρ1 => g r ρ1 Dd.nx
theorem ls_asg {g : WG} {S : List Nat} : ∀ D σ H, LS G (wAsg we g) D σ H → tAsg (LE G we) (LG G g S) D σ H := fun D σ H q => by
  obtain ⟨F, ρ, fp, Dd, ok, h, k⟩ := q
  exact ⟨F, ρ, fp, _, ok, h, fun v H1 F1 ρ1 fp1 r fr en rr q => ⟨F1, ρ1, fp1, r, fr, Dd.nx, en.ok, rr, ⟨en.nd, en.hr ok⟩, q, fun σ' H' F' ρ' fp' s ok' _ q' => k.nx σ' H' F' ρ' fp' (en.st.trans s) ok' q'⟩⟩
theorem ds_asg {tg e : Expr} {g : WG} {S : List Nat} (he : PE X e (LE G we)) (hg : PG X tg (LG G g S)) (hs : swapsWithSole [tg] e pos.line X.env = pure false := by rfl) (hw : swappedStores [tg] e X.env = pure none := by rfl) (h1 : (assignEach [tg] X.env).map (·.2) = [assign tg X.env] := by rfl) : PS X (.Assign [tg] e pos) (LS G (wAsg we g)) := imS (ps_asg he hg hs hw h1) ls_asg

/-! ### while -/
def wWhile (t : WT) (wb : WS) : WS := fun Dd ρ => ∃ (I : Sl → Prop) (μ : Sl → Nat), I ρ ∧ ∀ ρ, I ρ → t ρ fun b ρ1 => if b = true then wb { Dd with nx := fun ρ' => I ρ' ∧ μ ρ' < μ ρ, ct := fun ρ' => I ρ' ∧ μ ρ' < μ ρ, bk := Dd.nx } ρ1 else Dd.nx ρ1
theorem ds_while (hp : PassesOwn (model X.prog X.w) X.A X.env X.xe) (hc : PT X c (LT G tc)) (hb : PSs X sts (LS G u)) : PS X (.While c sts [] pos) (LS G (wWhile tc u)) := imS (ps_while hp hc hb) fun D σ H q => by
  obtain ⟨F, ρ, fp, Dd, ok, ⟨I, μ, i0, h⟩, k⟩ := q
  refine ⟨fun m σ' H' => ∃ F' ρ' fp', Step F H fp F' H' fp' ∧ Ok G F' H' σ' ρ' fp' ∧ I ρ' ∧ m = μ ρ', ⟨_, F, ρ, fp, .refl, ok, i0, rfl⟩, ?_⟩
  rintro m σ1 H1 ⟨F1, ρ1, fp1, s1, ok1, i1, rfl⟩
  refine ⟨F1, ρ1, fp1, _, ok1, h ρ1 i1, fun b H2 F2 ρ2 fp2 en q => ?_⟩
  have s2 := s1.trans en.st0
  cases b with
  | false => exact k.nx σ1 H2 F2 ρ2 fp2 s2 en.ok q
  | true =>
    refine ⟨fun σ' H' => ∃ F' ρ' fp', Step F H fp F' H' fp' ∧ Ok G F' H' σ' ρ' fp' ∧ I ρ' ∧ μ ρ' < μ ρ1, fun σ' H' ⟨F', ρ', fp', s, ok', i', l⟩ => ⟨_, l, F', ρ', fp', s, ok', i', rfl⟩, ?_⟩
    exact ⟨F2, ρ2, fp2, _, en.ok, q, ⟨fun σ' H' F' ρ' fp' s ok' q => ⟨F', ρ', fp', s2.trans s, ok', q⟩, (k.after s2).rt, (k.after s2).nx, fun σ' H' F' ρ' fp' s ok' q => ⟨F', ρ', fp', s2.trans s, ok', q⟩⟩⟩

/-! ### for -/
/-- a walk: its items -/
abbrev WI := Sl → (List D → Sl → Prop) → Prop
structure ItOk (G : Gc) (F0 : Addr → Prop) (H0 : Hp) (fp0 : List Addr) (J : It) (ds : List D) : Prop where
  go : ∀ i d F H σ ρ fp, Step F0 H0 fp0 F H fp → Ok G F H σ ρ fp → ds[i]? = some d → J.go i H ∧ ∀ x H', J.yld i H x H' → ∃ F', En G F H fp σ F' H' ρ fp [] ∧ Rp G.K G.ca F' H' x d []
  stop : ∀ F H σ ρ fp, Step F0 H0 fp0 F H fp → Ok G F H σ ρ fp → J.stop ds.length H
def LW (G : Gc) (wi : WI) : TI := fun σ H R => ∃ F ρ fp Kd, Ok G F H σ ρ fp ∧ wi ρ Kd ∧ ∀ J H' F' ρ' fp' ds, En G F H fp σ F' H' ρ' fp' [] → ItOk G F' H' fp' J ds → Kd ds ρ' → R J H'
theorem imI {tg iter : Expr} {t u : TI} (h : PI X tg iter t) (i : ∀ σ H Q, u σ H Q → t σ H Q) : PI X tg iter u := ⟨fun pins s σ H Q I q => h.run pins s σ H Q I (i σ H Q q)⟩
def wFor (wi : WI) (g : WG) (wb : WS) : WS := fun Dd ρ => wi ρ fun ds ρ1 => ∃ I : Nat → Sl → Prop, I 0 ρ1 ∧
  (∀ i d ρ, ds[i]? = some d → I i ρ → g d ρ fun ρ2 => wb { Dd with nx := I (i + 1), ct := I (i + 1), bk := Dd.nx } ρ2) ∧ ∀ ρ, I ds.length ρ → Dd.nx ρ
theorem ds_for {iter tg : Expr} {wi : WI} {g : WG} {S : List Nat} (hp : PassesOwn (model X.prog X.w) X.A X.env X.xe) (hc : X.calm = true) (hi : PI X tg iter (LW G wi)) (hg : PG X tg (LG G g S)) (hb : PSs X sts (LS G u))
    (hs : ∀ x, foldedSetIterable iter X.env x = pure x := by intro _; rfl) : PS X (.For tg iter sts [] pos) (LS G (wFor wi g u)) := imS (ps_for hp hc hi hg hb hs) fun D σ H q => by
  obtain ⟨F, ρ, fp, Dd, ok, h, k⟩ := q
  refine ⟨F, ρ, fp, _, ok, h, fun J H1 F1 ρ1 fp1 ds en it q => ?_⟩
  obtain ⟨I, i0, turn, done⟩ := q
  refine ⟨fun i m σ' H' => m = ds.length - i ∧ i ≤ ds.length ∧ ∃ F' ρ' fp', Step F1 H1 fp1 F' H' fp' ∧ Ok G F' H' σ' ρ' fp' ∧ I i ρ', ⟨_, rfl, Nat.zero_le _, F1, ρ1, fp1, .refl, en.ok, i0⟩, ?_⟩
  rintro i m σ2 H2 ⟨rfl, hi, F2, ρ2, fp2, s2, ok2, i2⟩
  have sA := en.st0.trans s2
  by_cases hlt : i < ds.length
  · obtain ⟨go, yl⟩ := it.go i ds[i] F2 H2 σ2 ρ2 fp2 s2 ok2 (by simp [hlt])
    refine .inr ⟨go, fun σ' H' => ∃ F' ρ' fp', Step F1 H1 fp1 F' H' fp' ∧ Ok G F' H' σ' ρ' fp' ∧ I (i + 1) ρ', fun σ' H' z => ⟨_, by omega, rfl, hlt, z⟩, fun x H3 y => ?_⟩
    obtain ⟨F3, en3, rp⟩ := yl x H3 y
    refine ⟨F3, ρ2, fp2, ds[i], [], _, en3.ok, .inl rp, ⟨by simpa using en3.ok.nd, fun a z => nomatch z⟩, turn i ds[i] ρ2 (by simp [hlt]) i2, fun σ4 H4 F4 ρ4 fp4 s4 ok4 _ q4 => ?_⟩
    have s3 : Step F1 H1 fp1 F4 H4 fp4 := s2.trans (en3.st0.trans s4)
    exact ⟨F4, ρ4, fp4, _, ok4, q4, ⟨fun σ' H' F' ρ' fp' s ok' q => ⟨F', ρ', fp', s3.trans s, ok', q⟩, (k.after (en.st0.trans s3)).rt, (k.after (en.st0.trans s3)).nx, fun σ' H' F' ρ' fp' s ok' q => ⟨F', ρ', fp', s3.trans s, ok', q⟩⟩⟩
  · have e : i = ds.length := by omega
    subst e
    exact .inl ⟨it.stop F2 H2 σ2 ρ2 fp2 s2 ok2, k.nx σ2 H2 F2 ρ2 fp2 sA ok2 (done _ i2)⟩
end
end M
/-! M6: the operators by name, equality, in, subscripts, slices. -/
namespace M
open PySem PySem.Spec PyProof.Rows L2

mutual
/-- pure data of the library's own kind -/
def toP : D → PyData
  | .non => .none
  | .bl b => .bool b
  | .int i => .int i
  | .str x => .str x
  | .tup xs => .tuple (toPL xs)
  | .tpo xs => .tuple (toPL xs)
  | .lst _ xs => .list (toPL xs)
  | .lso xs => .list (toPL xs)
  | .dct _ _ _ => .none
  | .dcu _ _ _ => .none
  | .ins _ _ _ _ => .none
  | .opq _ => .none
  | .scr _ => .none
  | .sl _ => .none
def toPL : List D → List PyData
  | [] => []
  | x :: xs => toP x :: toPL xs
end
mutual
def dt : D → Bool
  | .tup xs => dtL xs
  | .tpo xs => dtL xs
  | .lst _ xs => dtL xs
  | .lso xs => dtL xs
  | .non => true
  | .bl _ => true
  | .int _ => true
  | .str _ => true
  | .dct _ _ _ => false
  | .dcu _ _ _ => false
  | .ins _ _ _ _ => false
  | .opq _ => false
  | .scr _ => false
  | .sl _ => false
def dtL : List D → Bool
  | [] => true
  | x :: xs => dt x && dtL xs
end
/-- pure data of good strs, not deep -/
def shp (d : D) : Bool := dt d && SeqAt.shaped (toP d)
def eqD (x y : D) : Bool := PyData.eqv (toP x) (toP y)

section
variable {G : Gc} {X : Cx} {F F' F1 F2 : Addr → Prop} {H H' H1 H2 : Hp} {σ σ' : L2.St} {ρ ρ' ρ1 ρ2 : Sl} {fp fp' fp1 fp2 fr fr1 fr2 : List Addr} {v v1 v2 : V} {r r1 r2 d : D} {p : Addr} {o : HO}
  {a b c e : Expr} {wa wb wc we : WE} {ta tb tc : WT} {rest : List Expr} {pos : Pos} {K : PySem.W.Frag} {ca : Str → Addr}

mutual
theorem Rp.dp : ∀ {d : D} {v : V} {fr : List Addr}, Rp K ca F H v d fr → dt d = true → Dp K H v (toP d)
  | .non, _, _, .non, _ => .non
  | .bl _, _, _, .bl b, _ => .bl b
  | .int _, _, _, .int i, _ => .int i
  | .str _, _, _, .str x, _ => .str x
  | .tup ds, _, _, .tup s r, h => .tup s (RpL.dp r h)
  | .tpo ds, _, _, .tpo s r, h => .tup s (RpL.dp r h)
  | .lst false ds, _, _, .lfz s f r, h => .lst (.of s) (RpL.dp r h)
  | .lst true ds, _, _, .low s f r, h => .lst (.of s) (RpL.dp r h)
  | .lso ds, _, _, .lso s f r, h => .lst (.of s) (RpL.dp r h)
theorem RpL.dp : ∀ {ds : List D} {vs : List V} {fr : List Addr}, RpL K ca F H vs ds fr → dtL ds = true → DpAll K H vs (toPL ds)
  | [], _, _, .nil, _ => .nil
  | _ :: _, _, _, .cons r t, h => by
    have h' := Bool.and_eq_true_iff.mp h
    exact .cons (Rp.dp r h'.1) (RpL.dp t h'.2)
end
theorem Rr.dp (ok : Ok G F H σ ρ fp) (h : Rr G F H σ v r fr) (e : pk ρ r = some d) (hd : dt d = true) : Dp G.K H v (toP d) := by
  obtain ⟨_, rp, _⟩ := h.see ok e
  exact rp.dp hd

/-! ### equality -/
/-- scalars as values -/
def sc : D → Option V
  | .non => some .non
  | .bl b => some (.bl b)
  | .int i => some (.int i)
  | .str x => some (.str x)
  | _ => none
theorem Rp.sc {d : D} {u : V} (h : Rp K ca F H v d fr) (e : sc d = some u) : v = u ∧ fr = [] := by
  cases h <;> first | (cases e; exact ⟨rfl, rfl⟩) | (simp [M.sc] at e)
theorem Rr.sc {d : D} {u : V} (h : Rr G F H σ v d fr) (e : sc d = some u) : v = u ∧ fr = [] := by
  rcases h with h | ⟨i, rfl, _⟩
  · exact h.sc e
  · simp [M.sc] at e
/-- == | != of scalars, by value -/
def oSc (g : Bool → Bool) : O2 := fun ρ x y K => ∃ u w, sc x = some u ∧ sc y = some w ∧ scal u w = true ∧ K (.bl (g (decide (u = w))))
theorem oSc_eq : O2Ok G rEq (oSc id) := fun F H σ ρ fp v1 v2 x y f1 f2 Kd Q ok r1 r2 nd h k => by
  obtain ⟨u, w, e1, e2, s, q⟩ := h
  obtain ⟨rfl, _⟩ := r1.sc e1
  obtain ⟨rfl, _⟩ := r2.sc e2
  exact ⟨s, k _ H F _ [] (En.refl ok) (.bl _) q⟩
theorem oSc_ne : O2Ok G rNe (oSc not) := fun F H σ ρ fp v1 v2 x y f1 f2 Kd Q ok r1 r2 nd h k => by
  obtain ⟨u, w, e1, e2, s, q⟩ := h
  obtain ⟨rfl, _⟩ := r1.sc e1
  obtain ⟨rfl, _⟩ := r2.sc e2
  exact ⟨s, k _ H F _ [] (En.refl ok) (.bl _) q⟩
/-- == | != of data -/
def oDt (g : Bool → Bool) : O2 := fun ρ x y K => ∃ d e, pk ρ x = some d ∧ pk ρ y = some e ∧ shp d = true ∧ shp e = true ∧ K (.bl (g (eqD d e)))
theorem oDt_eq : O2Ok G (rEqD G.K) (oDt id) := fun F H σ ρ fp v1 v2 x y f1 f2 Kd Q ok r1 r2 nd h k => by
  obtain ⟨d, e, e1, e2, s1, s2, q⟩ := h
  have t1 := Bool.and_eq_true_iff.mp s1
  have t2 := Bool.and_eq_true_iff.mp s2
  exact ⟨toP d, toP e, r1.dp ok e1 t1.1, r2.dp ok e2 t2.1, t1.2, t2.2, k _ H F _ [] (En.refl ok) (.bl _) q⟩
theorem oDt_ne : O2Ok G (rNeD G.K) (oDt not) := fun F H σ ρ fp v1 v2 x y f1 f2 Kd Q ok r1 r2 nd h k => by
  obtain ⟨d, e, e1, e2, s1, s2, q⟩ := h
  have t1 := Bool.and_eq_true_iff.mp s1
  have t2 := Bool.and_eq_true_iff.mp s2
  exact ⟨toP d, toP e, r1.dp ok e1 t1.1, r2.dp ok e2 t2.1, t1.2, t2.2, k _ H F _ [] (En.refl ok) (.bl _) q⟩
def oEq : O2 := oOr (oSc id) (oDt id)
def oNe : O2 := oOr (oSc not) (oDt not)
/-- is None -/
def isN : D → Bool
  | .non => true
  | .opq v => decide (v = .non)
  | _ => false
def oIsN (g : Bool → Bool) : O2 := fun ρ x y K => y = .non ∧ ∃ d, pk ρ x = some d ∧ K (.bl (g (isN d)))
theorem Rp.isN {d : D} (h : Rp K ca F H v d fr) : decide (v = .non) = M.isN d := by
  cases h <;> first | rfl | simp [M.isN]
theorem oIsN_is : O2Ok G (fun x y H Q => y = .non ∧ Q (.bl (decide (x = .non))) H) (oIsN id) := fun F H σ ρ fp v1 v2 x y f1 f2 Kd Q ok r1 r2 nd h k => by
  obtain ⟨rfl, d, e, q⟩ := h
  obtain ⟨rfl, _⟩ := r2.sc (u := .non) rfl
  obtain ⟨_, rp, _⟩ := r1.see ok e
  refine ⟨rfl, ?_⟩
  rw [rp.isN]
  exact k _ H F _ [] (En.refl ok) (.bl _) q
theorem oIsN_not : O2Ok G (fun x y H Q => y = .non ∧ Q (.bl (!decide (x = .non))) H) (oIsN not) := fun F H σ ρ fp v1 v2 x y f1 f2 Kd Q ok r1 r2 nd h k => by
  obtain ⟨rfl, d, e, q⟩ := h
  obtain ⟨rfl, _⟩ := r2.sc (u := .non) rfl
  obtain ⟨_, rp, _⟩ := r1.see ok e
  refine ⟨rfl, ?_⟩
  rw [rp.isN]
  exact k _ H F _ [] (En.refl ok) (.bl _) q

/-! ### in -/
def scL : List D → Option (List V)
  | [] => some []
  | x :: xs => match sc x, scL xs with
    | some v, some vs => some (v :: vs)
    | _, _ => none
theorem sc_flat {d : D} {u : V} (e : sc d = some u) : flatV u = true := by
  cases d <;> simp [sc] at e <;> subst e <;> rfl
theorem scL_flat : ∀ {ds : List D} {us : List V}, scL ds = some us → us.all flatV = true
  | [], us, e => by cases e; rfl
  | d :: ds, us, e => by
    unfold scL at e
    split at e
    · rename_i v vs h1 h2
      cases e
      rw [List.all_cons, sc_flat h1, scL_flat h2]; rfl
    · cases e
theorem RpL.scL : ∀ {ds : List D} {vs us : List V} {fr : List Addr}, RpL K ca F H vs ds fr → scL ds = some us → vs = us
  | [], _, us, _, .nil, e => by cases e; rfl
  | d :: ds, _, us, _, .cons r t, e => by
    unfold M.scL at e
    split at e
    · rename_i v vs h1 h2
      cases e
      rw [(r.sc h1).1, RpL.scL t h2]
    · cases e
/-- of scalars in a list or tuple of scalars -/
def oInF (neg : Bool) : O2 := fun ρ x y K => ∃ u d ds us, sc x = some u ∧ pk ρ y = some d ∧ its d = some ds ∧ scL ds = some us ∧ K (.bl (if neg then !inV u us else inV u us))
theorem oInF_ok (neg : Bool) : O2Ok G (rIn G.K neg) (oInF neg) := fun F H σ ρ fp v1 v2 x y f1 f2 Kd Q ok r1 r2 nd h k => by
  obtain ⟨u, d, ds, us, e1, e2, e3, e4, q⟩ := h
  obtain ⟨rfl, _⟩ := r1.sc e1
  obtain ⟨fs, rp, _⟩ := r2.see ok e2
  obtain ⟨a, vs, rfl, rl, s⟩ := rp.its e3
  have ev := rl.scL e4
  subst ev
  refine ⟨a, vs, rfl, ?_, sc_flat e1, scL_flat e4, k _ H F _ [] (En.refl ok) (.bl _) q⟩
  rcases s with ⟨s, _⟩ | ⟨s, _⟩
  · exact .inl (.of s)
  · exact .inr s
/-- data in a list of data -/
def oInD (g : Bool → Bool) : O2 := fun ρ x y K => ∃ d b ds, pk ρ x = some d ∧ pk ρ y = some (.lst b ds) ∧ shp d = true ∧ shp (.lst b ds) = true ∧ K (.bl (g (ds.any fun z => eqD z d)))
theorem toPL_any (d : D) : ∀ ds : List D, (toPL ds).any (fun z => PyData.eqv z (toP d)) = ds.any fun z => eqD z d
  | [] => rfl
  | x :: xs => by
    show (PyData.eqv (toP x) (toP d) || (toPL xs).any _) = _
    rw [toPL_any d xs]; rfl
theorem oInD_in : O2Ok G (rInD G.K) (oInD id) := fun F H σ ρ fp v1 v2 x y f1 f2 Kd Q ok r1 r2 nd h k => by
  obtain ⟨d, b, ds, e1, e2, s1, s2, q⟩ := h
  have t1 := Bool.and_eq_true_iff.mp s1
  have t2 := Bool.and_eq_true_iff.mp s2
  refine ⟨toP d, toPL ds, r1.dp ok e1 t1.1, r2.dp ok e2 t2.1, t1.2, t2.2, ?_⟩
  rw [toPL_any]
  exact k _ H F _ [] (En.refl ok) (.bl _) q
theorem oInD_not : O2Ok G (rNotInD G.K) (oInD not) := fun F H σ ρ fp v1 v2 x y f1 f2 Kd Q ok r1 r2 nd h k => by
  obtain ⟨d, b, ds, e1, e2, s1, s2, q⟩ := h
  have t1 := Bool.and_eq_true_iff.mp s1
  have t2 := Bool.and_eq_true_iff.mp s2
  refine ⟨toP d, toPL ds, r1.dp ok e1 t1.1, r2.dp ok e2 t2.1, t1.2, t2.2, ?_⟩
  rw [toPL_any]
  exact k _ H F _ [] (En.refl ok) (.bl _) q
/-- a str in a str -/
def occ (i j : Str) : Bool := !(Builtin.Str.occurrences j i 0 j.length 1).isEmpty
def oIn : O2 := oOr (oInF false) (oOr (oInD id) (oS (fun _ _ => True) fun i j => .bl (occ i j)))
def oNotIn : O2 := oOr (oInF true) (oOr (oInD not) (oS (fun _ _ => True) fun i j => .bl (!occ i j)))
theorem oS0_ok {g : Str → Str → V} {g' : Str → Str → D} (hg : ∀ K ca F H i j, Rp K ca F H (g i j) (g' i j) []) : O2Ok G (fun x y H Q => ∃ i j, x = .str i ∧ y = .str j ∧ Q (g i j) H) (oS (fun _ _ => True) g') := fun F H σ ρ fp v1 v2 x y f1 f2 Kd Q ok r1 r2 nd h k => by
  obtain ⟨i, j, rfl, rfl, c, q⟩ := h
  obtain ⟨rfl, _⟩ := r1.str
  obtain ⟨rfl, _⟩ := r2.str
  exact ⟨i, j, rfl, rfl, k _ H F _ [] (En.refl ok) (hg _ _ _ _ i j) q⟩

/-! ### the operators by name -/
def oAdd : O2 := oOr (oI (fun _ _ => True) fun i j => .int (i + j)) (oOr (oS (fun i j => i.length + j.length ≤ sizeLine) fun i j => .str (i ++ j)) (oOr oCatL oCatT))
def oSub : O2 := oI (fun _ _ => True) fun i j => .int (i - j)
def oMul : O2 := oI CMul fun i j => .int (i * j)
def oFdiv : O2 := oI CDiv fun i j => .int (i / j)
def oMod : O2 := oI (fun _ j => 0 < j) fun i j => .int (i % j)
def oPow : O2 := oI CPow fun i j => .int (i ^ j.toNat)
def oLt : O2 := oI (fun _ _ => True) fun i j => .bl (decide (i < j))
def oLe : O2 := oI (fun _ _ => True) fun i j => .bl (decide (i ≤ j))
def oGt : O2 := oI (fun _ _ => True) fun i j => .bl (decide (j < i))
def oGe : O2 := oI (fun _ _ => True) fun i j => .bl (decide (j ≤ i))
variable (hK : X.K = G.K)
include hK
theorem d_add (ha : PE X a (LE G wa)) (hb : PE X b (LE G wb)) : PE X (.BinOp a .Add b pos) (LE G (wOp oAdd wa wb)) :=
  d_op (op_add.or (op_add_str.or (op_cat.or op_catA))) ((oI0_ok fun _ _ _ _ _ _ => .int _).or ((oS_ok (C := fun i j => i.length + j.length ≤ sizeLine) (g := fun i j => .str (i ++ j)) fun _ _ _ _ _ _ => .str _).or (oCatL_ok.or (hK ▸ oCatT_ok)))) ha hb
omit hK
theorem d_sub (ha : PE X a (LE G wa)) (hb : PE X b (LE G wb)) : PE X (.BinOp a .Sub b pos) (LE G (wOp oSub wa wb)) := d_op op_sub (oI0_ok fun _ _ _ _ _ _ => .int _) ha hb
theorem d_mul (ha : PE X a (LE G wa)) (hb : PE X b (LE G wb)) : PE X (.BinOp a .Mult b pos) (LE G (wOp oMul wa wb)) := d_op op_mul (oI_ok fun _ _ _ _ _ _ => .int _) ha hb
theorem d_fdiv (ha : PE X a (LE G wa)) (hb : PE X b (LE G wb)) : PE X (.BinOp a .FloorDiv b pos) (LE G (wOp oFdiv wa wb)) := d_op op_fdiv (oI_ok fun _ _ _ _ _ _ => .int _) ha hb
theorem d_mod (ha : PE X a (LE G wa)) (hb : PE X b (LE G wb)) : PE X (.BinOp a .Mod b pos) (LE G (wOp oMod wa wb)) := d_op op_mod (oI_ok fun _ _ _ _ _ _ => .int _) ha hb
theorem d_pow (ha : PE X a (LE G wa)) (hb : PE X b (LE G wb)) : PE X (.BinOp a .Pow b pos) (LE G (wOp oPow wa wb)) := d_op op_pow (oI_ok fun _ _ _ _ _ _ => .int _) ha hb
/-- a comparison: its rule, its reading, what stands behind in -/
structure CmpR (X : Cx) (G : Gc) (op : CmpOp) (o : O2) : Prop where
  ex : ∃ r, OpR X (compareOp op) r ∧ O2Ok G r o
theorem c_lt : CmpR X G .Lt oLt := ⟨_, op_lt, oI0_ok fun _ _ _ _ _ _ => .bl _⟩
theorem c_le : CmpR X G .LtE oLe := ⟨_, op_le, oI0_ok fun _ _ _ _ _ _ => .bl _⟩
theorem c_gt : CmpR X G .Gt oGt := ⟨_, op_gt, oI0_ok fun _ _ _ _ _ _ => .bl _⟩
theorem c_ge : CmpR X G .GtE oGe := ⟨_, op_ge, oI0_ok fun _ _ _ _ _ _ => .bl _⟩
theorem c_eq (hK : X.K = G.K) (hu : X.A.units + 64 < cLine) : CmpR X G .Eq oEq := ⟨_, op_eq.or (op_eqD hu), oSc_eq.or (hK ▸ oDt_eq)⟩
theorem c_ne (hK : X.K = G.K) (hu : X.A.units + 64 < cLine) : CmpR X G .NotEq oNe := ⟨_, op_ne.or (op_neD hu), oSc_ne.or (hK ▸ oDt_ne)⟩
theorem c_in (hK : X.K = G.K) (hu : X.A.units + 65 < cLine) : CmpR X G .In oIn := ⟨_, op_in_seq.or ((op_inD hu).or op_in_str), (hK ▸ oInF_ok false).or ((hK ▸ oInD_in).or (oS0_ok fun _ _ _ _ _ _ => .bl _))⟩
theorem c_notIn (hK : X.K = G.K) (hu : X.A.units + 65 < cLine) : CmpR X G .NotIn oNotIn := ⟨_, op_notIn_seq.or ((op_notInD hu).or op_notIn_str), (hK ▸ oInF_ok true).or ((hK ▸ oInD_not).or (oS0_ok fun i j _ _ _ _ => .bl _))⟩
theorem c_is : CmpR X G .Is (oIsN id) := ⟨_, op_isN, oIsN_is⟩
theorem c_isNot : CmpR X G .IsNot (oIsN not) := ⟨_, op_notN, oIsN_not⟩
theorem d_cm {op : CmpOp} {o : O2} (c : CmpR X G op o) (ha : PE X a (LE G wa)) (hb : PE X b (LE G wb)) (hm : behindInMarks op b = false := by rfl) : PE X (.Compare a [op] [b] pos) (LE G (wOp o wa wb)) := let ⟨_, h1, h2⟩ := c.ex; d_cmp h1 h2 ha hb hm
theorem dt_cm {op : CmpOp} {o : O2} (c : CmpR X G op o) (ha : PE X a (LE G wa)) (hb : PE X b (LE G wb)) (hm : behindInMarks op b = false := by rfl) : PT X (.Compare a [op] [b] pos) (LT G (wB (wOp o wa wb))) := let ⟨_, h1, h2⟩ := c.ex; dt_cmp h1 h2 ha hb hm
theorem d_ch {op op' : CmpOp} {o o' : O2} (k : CmpR X G op o) (k' : CmpR X G op' o') (ha : PE X a (LE G wa)) (hb : PE X b (LE G wb)) (hc : PE X c (LE G wc)) (hm : lastMarks [op, op'] [b, c] = false := by with_unfolding_all rfl) :
    PE X (.Compare a [op, op'] [b, c] pos) (LE G (wChain o o' wa wb wc)) := let ⟨_, h1, h2⟩ := k.ex; let ⟨_, h3, h4⟩ := k'.ex; d_chain h1 h3 h2 h4 ha hb hc hm
theorem dt_ch {op op' : CmpOp} {o o' : O2} (k : CmpR X G op o) (k' : CmpR X G op' o') (ha : PE X a (LE G wa)) (hb : PE X b (LE G wb)) (hc : PE X c (LE G wc)) (hm : lastMarks [op, op'] [b, c] = false := by with_unfolding_all rfl) :
    PT X (.Compare a [op, op'] [b, c] pos) (LT G (wB (wChain o o' wa wb wc))) := let ⟨_, h1, h2⟩ := k.ex; let ⟨_, h3, h4⟩ := k'.ex; dt_chain h1 h3 h2 h4 ha hb hc hm
theorem d_neg (ha : PE X a (LE G wa)) : PE X (.UnaryOp .USub a pos) (LE G fun ρ Q => wa ρ fun x ρ1 => ∃ i, x = .int i ∧ Q (.int (-i)) ρ1) := imE (pe_un un_neg ha) fun σ H Q q => by
  obtain ⟨F, ρ, fp, Qd, ok, h, k⟩ := q
  refine ⟨F, ρ, fp, _, ok, h, fun v H1 F1 ρ1 fp1 r fr en rr q => ?_⟩
  obtain ⟨i, rfl, q⟩ := q
  obtain ⟨rfl, rfl⟩ := rr.int
  exact ⟨i, rfl, k _ H1 F1 ρ1 fp1 _ [] en (.inl (.int _)) q⟩

/-! ### subscripts -/
def oIx : O2 := fun ρ x y K => (∃ d ds i u, pk ρ x = some d ∧ its d = some ds ∧ y = .int i ∧ atI ds i = some u ∧ K u) ∨ ∃ z i c, x = .str z ∧ y = .int i ∧ z.length ≤ sizeLine ∧ atI z.cps.toList i = some c ∧ K (.str ⟨#[c]⟩)
theorem RpL.atI {ds : List D} {vs : List V} (h : RpL K ca F H vs ds []) {i : Int} {u : D} (e : atI ds i = some u) : ∃ w, atI vs i = some w ∧ Rp K ca F H w u [] := by
  unfold L2.atI at e ⊢
  rw [h.length]
  cases q : ixN ds.length i with
  | none => rw [q] at e; cases e
  | some j =>
    rw [q] at e
    exact h.at_ (i := j) (d := u) e
theorem oIx_ok : O2Ok G (rIx G.K) oIx := fun F H σ ρ fp v1 v2 x y f1 f2 Kd Q ok r1 r2 nd h k => by
  rcases h with ⟨d, ds, i, u, e1, e2, rfl, e3, q⟩ | ⟨z, i, c, rfl, rfl, hz, e, q⟩
  · obtain ⟨rfl, _⟩ := r2.int
    obtain ⟨fs, rp, _⟩ := r1.see ok e1
    obtain ⟨a, vs, rfl, rl, s⟩ := rp.its e2
    obtain ⟨w, ew, rw_⟩ := rl.atI e3
    have kk := k w H F u [] (En.refl ok) rw_ q
    rcases s with ⟨s, _⟩ | ⟨s, _⟩
    · exact .inl ⟨a, vs, i, w, rfl, rfl, .of s, ew, kk⟩
    · exact .inr (.inl ⟨a, vs, i, w, rfl, rfl, s, ew, kk⟩)
  · obtain ⟨rfl, _⟩ := r1.str
    obtain ⟨rfl, _⟩ := r2.int
    exact .inr (.inr ⟨z, i, c, rfl, rfl, hz, e, k _ H F _ [] (En.refl ok) (.str _) q⟩)
theorem d_ix (hK : X.K = G.K) (ha : PE X a (LE G wa)) (hb : PE X b (LE G wb)) (hs : PlainIx b := by exact fun _ _ => rfl) : PE X (.Subscript a b pos) (LE G (wOp oIx wa wb)) :=
  imE (pe_ix ix_seq ha hb hs) (LE.op (hK ▸ oIx_ok))

/-! ### slices -/
abbrev WO := Sl → (Option Int → Sl → Prop) → Prop
def LO (G : Gc) (w : WO) : TO := fun σ H Q => ∃ F ρ fp Qd, Ok G F H σ ρ fp ∧ w ρ Qd ∧ ∀ i H' F' ρ' fp', En G F H fp σ F' H' ρ' fp' [] → Qd i ρ' → Q i H'
def wNoP : WO := fun ρ Q => Q none ρ
def wP (we : WE) : WO := fun ρ Q => we ρ fun x ρ1 => ∃ i, x = .int i ∧ Q (some i) ρ1
theorem imO {e : Option Expr} {t u : TO} (h : PO X e t) (i : ∀ σ H Q, u σ H Q → t σ H Q) : PO X e u := ⟨fun pins s σ H Q I q => h.run pins s σ H Q I (i σ H Q q)⟩
theorem do_none : PO X none (LO G wNoP) := imO po_none fun σ H Q q => by
  obtain ⟨F, ρ, fp, Qd, ok, h, k⟩ := q
  exact k none H F ρ fp (En.refl ok) h
theorem do_some (he : PE X e (LE G we)) : PO X (some e) (LO G (wP we)) := imO (po_some he) fun σ H Q q => by
  obtain ⟨F, ρ, fp, Qd, ok, h, k⟩ := q
  refine ⟨F, ρ, fp, _, ok, h, fun v H1 F1 ρ1 fp1 r fr en rr q => ?_⟩
  obtain ⟨i, rfl, q⟩ := q
  obtain ⟨rfl, rfl⟩ := rr.int
  exact ⟨i, rfl, k _ H1 F1 ρ1 fp1 en q⟩
/-- the places lo .. hi -/
def cut {α : Type} (xs : List α) (lo hi : Option Int) : List α := (xs.drop (HT.sIx xs.length 0 lo)).take (HT.sIx xs.length xs.length hi - HT.sIx xs.length 0 lo)
def oSl : Sl → D → Option Int → Option Int → (D → Prop) → Prop := fun ρ x lo hi K => (∃ b xs, pk ρ x = some (.lst b xs) ∧ K (.lst true (cut xs lo hi))) ∨ (∃ xs, x = .tup xs ∧ K (.tup (cut xs lo hi))) ∨
  ∃ z, x = .str z ∧ z.length ≤ sizeLine ∧ K (.str (cutS z lo hi))
def wSl (we : WE) (wl wh : WO) : WE := fun ρ Q => we ρ fun x ρ1 => wl ρ1 fun lo ρ2 => wh ρ2 fun hi ρ3 => oSl ρ3 x lo hi fun d => Q d ρ3
end
end M
/-! M7: slices, calls of built-ins, methods. -/
namespace M
open PySem PySem.Spec PyProof.Rows L2

section
variable {G : Gc} {X : Cx} {F F' F1 F2 : Addr → Prop} {H H' H1 H2 : Hp} {σ σ' : L2.St} {ρ ρ' ρ1 ρ2 : Sl} {fp fp' fp1 fp2 fr fr1 fr2 : List Addr} {v v1 v2 : V} {r r1 r2 d : D} {p : Addr} {o : HO}
  {a b c e : Expr} {es : List Expr} {wa wb wc we : WE} {ta tb tc : WT} {rest : List Expr} {pos : Pos} {K : PySem.W.Frag} {ca : Str → Addr}

theorem RpL.cut {ds : List D} {vs : List V} (h : RpL K ca F H vs ds []) (lo hi : Option Int) : RpL K ca F H (cutV vs lo hi) (cut ds lo hi) [] := by
  unfold cutV M.cut
  rw [h.length]
  exact (h.drop _).take _
theorem d_sl {lo hi : Option Expr} {wl wh : WO} {p2 : Pos} (hK : X.K = G.K) (he : PE X e (LE G we)) (hl : PO X lo (LO G wl)) (hu : PO X hi (LO G wh)) : PE X (.Subscript e (.Slice lo hi none p2) pos) (LE G (wSl we wl wh)) :=
  imE (pe_slice (sl_list.or (sl_tupA.or sl_str)) he hl hu) fun σ H Q q => by
    obtain ⟨F, ρ, fp, Qd, ok, h, k⟩ := q
    refine ⟨F, ρ, fp, _, ok, h, fun v H1 F1 ρ1 fp1 x f1 en1 rr1 q => ?_⟩
    refine ⟨F1, ρ1, fp1, _, en1.ok, q, fun i H2 F2 ρ2 fp2 en2 q => ?_⟩
    refine ⟨F2, ρ2, fp2, _, en2.ok, q, fun j H3 F3 ρ3 fp3 en3 q => ?_⟩
    have en := (en1.drop en2).drop en3
    have rr := (rr1.step en2.st en1.ok.nf (nodup_d en1.nd))
    have nd2 : (f1 ++ fp2).Nodup := ((en1.trans en2 rr1.dom)).nd |> fun z => by simpa using z
    have rr3 := rr.step en3.st en2.ok.nf (nodup_d nd2)
    rcases q with ⟨b, xs, e, qq⟩ | ⟨xs, rfl, qq⟩ | ⟨z, rfl, hz, qq⟩
    · obtain ⟨a, vs, rfl, s, rl⟩ := rr3.lst en.ok e
      exact .inl ⟨a, vs, rfl, .of s, fun p hp => k _ _ F3 ρ3 fp3 _ [p] (en.trans0 (En.own en.ok hp)) (.inl (.low upd_same (en.ok.not_none hp).1 ((rl.cut _ _).new hp))) qq⟩
    · obtain ⟨a, vs, rfl, s, rl⟩ := rr3.tup
      refine .inr (.inl ⟨a, vs, rfl, hK ▸ s, fun w => ?_, fun _ p hp => k _ _ F3 ρ3 fp3 _ [] (en.trans0 (En.tup en.ok hp)) (.inl (.tup (.of upd_same) ((rl.cut _ _).new hp))) qq⟩)
      have : cut xs i j = xs := by
        unfold cut
        rw [rl.length] at w
        rw [w.1, w.2]; simp
      rw [this] at qq
      exact k _ H3 F3 ρ3 fp3 _ [] en (.inl (.tup s rl)) qq
    · obtain ⟨rfl, rfl⟩ := rr3.str
      exact .inr (.inr ⟨z, rfl, hz, k _ H3 F3 ρ3 fp3 _ [] en (.inl (.str _)) qq⟩)

/-! ### calls by values -/
abbrev ON := Sl → List D → (D → Sl → Prop) → Prop
def ONOk (G : Gc) (r : List V → Hp → VK → Prop) (o : ON) : Prop := ∀ (F : Addr → Prop) (H : Hp) (σ : L2.St) (ρ : Sl) (fp : List Addr) (vs : List V) (rs : List D) (fr : List Addr) (Kd : D → Sl → Prop) (Q : VK),
  Ok G F H σ ρ fp → RrL G F H σ vs rs fr → (fr ++ fp).Nodup ∧ (∀ a ∈ fr, a ∈ G.fp0 ∨ G.H0 a = none) → o ρ rs Kd →
  (∀ v H' F' ρ' fp' d fr', En G F H (fr ++ fp) σ F' H' ρ' fp' fr' → Rr G F' H' σ v d fr' → Kd d ρ' → Q v H') → r vs H Q
def wCB (o : ON) (wa : WA) : WE := fun ρ Q => wa ρ fun rs ρ1 => o ρ1 rs Q
/-- an end behind a call: its results were taken -/
theorem En.call (a : En G F H fp σ F1 H1 ρ1 fp1 fr1) (b : En G F1 H1 (fr1 ++ fp1) σ F2 H2 ρ2 fp2 fr2) : En G F H fp σ F2 H2 ρ2 fp2 fr2 := ⟨a.st.trans b.st, b.ok, b.nd⟩
theorem le_cb {r : List V → Hp → VK → Prop} {o : ON} {wa : WA} (ho : ONOk G r o) : ∀ σ H Q, LE G (wCB o wa) σ H Q → tCB r (LA G wa) σ H Q := fun σ H Q q => by
  obtain ⟨F, ρ, fp, Qd, ok, h, k⟩ := q
  refine ⟨F, ρ, fp, _, ok, h, fun vs H1 F1 ρ1 fp1 rs fr en rr q => ?_⟩
  exact ho F1 H1 σ ρ1 fp1 vs rs fr Qd Q en.ok rr ⟨en.nd, en.hr ok⟩ q fun v H2 F2 ρ2 fp2 d f2 en2 rr2 q2 => k v H2 F2 ρ2 fp2 d f2 (en.call en2) rr2 q2
theorem d_cb {id : String} {r : List V → Hp → VK → Prop} {o : ON} {x : Str} {p : Pos} {wa : WA} (hc : CallR X (.builtin id) r) (ho : ONOk G r o) (hg : Gl X x) (hm : X.mg x = none) (hv : bootBuiltins x = some (.builtin id)) (ha : PA X (e :: es) (LA G wa)) (hn : x ≠ "__name__" := by decide) (hdb : (x == ("__debug__" : Str)) = false := by decide)
    (he : starEach (e :: es) X.env = (false, eval e X.env) :: starEach es X.env := by rfl) (hpl : (backTo pos (starEach es X.env)).any (·.1) = false := by rfl) : PE X (.Call (.Name x p) (e :: es) [] pos) (LE G (wCB o wa)) := imE (pe_callB hc hg hm hv ha hn hdb he hpl) (le_cb ho)
theorem d_cty {T : String} {r : List V → Hp → VK → Prop} {o : ON} {x : Str} {p : Pos} {wa : WA} (hc : CallR X (.type T) r) (ho : ONOk G r o) (hg : Gl X x) (hm : X.mg x = none) (hv : bootBuiltins x = some (.type T)) (ha : PA X (e :: es) (LA G wa)) (hn : x ≠ "__name__" := by decide) (hdb : (x == ("__debug__" : Str)) = false := by decide)
    (he : starEach (e :: es) X.env = (false, eval e X.env) :: starEach es X.env := by rfl) (hpl : (backTo pos (starEach es X.env)).any (·.1) = false := by rfl) : PE X (.Call (.Name x p) (e :: es) [] pos) (LE G (wCB o wa)) := imE (pe_callTy hc hg hm hv ha hn hdb he hpl) (le_cb ho)
def onOr (o p : ON) : ON := fun ρ rs K => o ρ rs K ∨ p ρ rs K
theorem ONOk.or {r s : List V → Hp → VK → Prop} {o p : ON} (h1 : ONOk G r o) (h2 : ONOk G s p) : ONOk G (fun vs H Q => r vs H Q ∨ s vs H Q) (onOr o p) := fun F H σ ρ fp vs rs fr Kd Q ok rr nd h k => by
  rcases h with h | h
  · exact .inl (h1 F H σ ρ fp vs rs fr Kd Q ok rr nd h k)
  · exact .inr (h2 F H σ ρ fp vs rs fr Kd Q ok rr nd h k)
theorem CallR.or {f : Value} {r s : List V → Hp → VK → Prop} (h1 : CallR X f r) (h2 : CallR X f s) : CallR X f fun vs H Q => r vs H Q ∨ s vs H Q := fun pins st σ H xs us Q I rx h => by
  rcases h with h | h
  · exact h1 pins st σ H xs us Q I rx h
  · exact h2 pins st σ H xs us Q I rx h

theorem RrL.one {vs : List V} (h : RrL G F H σ vs [r] fr) : ∃ v, vs = [v] ∧ Rr G F H σ v r fr := by
  cases h with
  | cons h t => cases t; exact ⟨_, rfl, by simpa using h⟩
theorem RrL.two {vs : List V} (h : RrL G F H σ vs [r1, r2] fr) : ∃ v1 v2 f1 f2, vs = [v1, v2] ∧ fr = f1 ++ f2 ∧ Rr G F H σ v1 r1 f1 ∧ Rr G F H σ v2 r2 f2 := by
  cases h with
  | cons h t =>
    obtain ⟨v2, rfl, h2⟩ := t.one
    exact ⟨_, _, _, _, rfl, rfl, h, h2⟩
/-- nothing happens: a scalar comes -/
theorem En.stay (ok : Ok G F H σ ρ fp) : En G F H (fr ++ fp) σ F H ρ fp [] := ⟨⟨fun _ z => z, fun _ z => .inl z, fun _ _ e _ => e, fun _ o e => ⟨o, e⟩, fun a z => .inl (List.mem_append_right _ z)⟩, ok, by simpa using ok.nd⟩
theorem En.wide (en : En G F H fp σ F1 H1 ρ1 fp1 fr1) : En G F H (fr ++ fp) σ F1 H1 ρ1 fp1 fr1 := ⟨en.st.more fun _ z => List.mem_append_right _ z, en.ok, en.nd⟩

/-- len -/
def nLen : ON := fun ρ rs K => ∃ r d, rs = [r] ∧ pk ρ r = some d ∧ ((∃ ds, its d = some ds ∧ K (.int ds.length) ρ) ∨ (∃ z, d = .str z ∧ z.length ≤ sizeLine ∧ K (.int z.length) ρ) ∨ (∃ o ks xs, d = .dct o ks xs ∧ K (.int ks.length) ρ))
theorem nLen_ok : ONOk G (fun vs H Q => (∃ x n, vs = [x] ∧ LenV G.K x H n ∧ Q (.int n) H) ∨ (∃ a kvs, vs = [V.ref a] ∧ Rd H a (.dK kvs) ∧ Q (.int kvs.length) H)) nLen := fun F H σ ρ fp vs rs fr Kd Q ok rr nd h k => by
  obtain ⟨r, d, rfl, e, h⟩ := h
  obtain ⟨v, rfl, r1⟩ := rr.one
  obtain ⟨fs, rp, _⟩ := r1.see ok e
  rcases h with ⟨ds, e2, q⟩ | ⟨z, rfl, hz, q⟩ | ⟨o, ks, xs, rfl, q⟩
  · obtain ⟨a, vs, rfl, rl, s⟩ := rp.its e2
    refine .inl ⟨_, ds.length, rfl, ?_, k _ H F ρ fp _ [] (En.stay ok) (.inl (.int _)) q⟩
    rcases s with ⟨s, _⟩ | ⟨s, _⟩
    · exact .inl ⟨vs, .of s, rl.length.symm⟩
    · exact .inr ⟨vs, s, rl.length.symm⟩
  · cases rp
    exact .inl ⟨_, z.length, rfl, ⟨hz, rfl⟩, k _ H F ρ fp _ [] (En.stay ok) (.inl (.int _)) q⟩
  · have z : ∃ a vs, v = .ref a ∧ Rd H a (.dK (ks.zip vs)) ∧ ks.length = vs.length := by
      cases rp with
      | dfz s f l r => exact ⟨_, _, rfl, s, l⟩
      | dow s f l r => exact ⟨_, _, rfl, .inl s, l⟩
    obtain ⟨a, vs, rfl, s, l⟩ := z
    have e3 : (ks.zip vs).length = ks.length := by simp [l]
    refine .inr ⟨a, _, rfl, s, ?_⟩
    rw [e3]
    exact k _ H F ρ fp _ [] (En.stay ok) (.inl (.int _)) q
theorem call_lenRd : CallR X (.builtin "len") (fun vs H Q => ∃ a kvs, vs = [V.ref a] ∧ Rd H a (.dK kvs) ∧ Q (.int kvs.length) H) := fun pins s σ H xs us Q I r h => by
  obtain ⟨a, kvs, rfl, hd, q⟩ := h
  obtain ⟨u, rfl, ru⟩ := Vals.one r
  cases ru
  exact d_len I hd fun t s' I' => ⟨.int kvs.length, H, I', ⟨t, rfl⟩, q⟩
theorem d_len1 {p : Pos} {wa : WA} (hK : X.K = G.K) (hg : Gl X "len") (hm : X.mg "len" = none) (ha : PA X (e :: es) (LA G wa)) (he : starEach (e :: es) X.env = (false, eval e X.env) :: starEach es X.env := by rfl) (hpl : (backTo pos (starEach es X.env)).any (·.1) = false := by rfl) :
    PE X (.Call (.Name "len" p) (e :: es) [] pos) (LE G (wCB nLen wa)) := d_cb (call_len.or call_lenRd) (hK ▸ nLen_ok) hg hm boot_len ha (by decide) (by decide) he hpl

/-! ### built-ins of scalars -/
/-- of one int -/
def n1I (C : Int → Prop) (g : Int → D) : ON := fun ρ rs K => ∃ i, rs = [.int i] ∧ C i ∧ K (g i) ρ
theorem n1I_ok {C : Int → Prop} {g : Int → V} {g' : Int → D} (hg : ∀ K ca F H i, Rp K ca F H (g i) (g' i) []) : ONOk G (fun vs H Q => ∃ i, vs = [.int i] ∧ C i ∧ Q (g i) H) (n1I C g') := fun F H σ ρ fp vs rs fr Kd Q ok rr nd h k => by
  obtain ⟨i, rfl, c, q⟩ := h
  obtain ⟨v, rfl, r1⟩ := rr.one
  obtain ⟨rfl, _⟩ := r1.int
  exact ⟨i, rfl, c, k _ H F ρ fp _ [] (En.stay ok) (.inl (hg _ _ _ _ i)) q⟩
/-- of two ints -/
def n2I (g : Int → Int → D) : ON := fun ρ rs K => ∃ i j, rs = [.int i, .int j] ∧ K (g i j) ρ
theorem n2I_ok {g : Int → Int → V} {g' : Int → Int → D} (hg : ∀ K ca F H i j, Rp K ca F H (g i j) (g' i j) []) : ONOk G (fun vs H Q => ∃ i j, vs = [.int i, .int j] ∧ Q (g i j) H) (n2I g') := fun F H σ ρ fp vs rs fr Kd Q ok rr nd h k => by
  obtain ⟨i, j, rfl, q⟩ := h
  obtain ⟨v, w, f1, f2, rfl, _, r1, r2⟩ := rr.two
  obtain ⟨rfl, _⟩ := r1.int
  obtain ⟨rfl, _⟩ := r2.int
  exact ⟨i, j, rfl, k _ H F ρ fp _ [] (En.stay ok) (.inl (hg _ _ _ _ i j)) q⟩
def nAbs : ON := n1I (fun _ => True) fun i => .int (if i < 0 then -i else i)
def nMax : ON := n2I fun i j => .int (if j > i then j else i)
def nMin : ON := n2I fun i j => .int (if j < i then j else i)
/-- int(..) of an int, a bool -/
def nInt : ON := fun ρ rs K => (∃ i, rs = [.int i] ∧ K (.int i) ρ) ∨ ∃ b, rs = [.bl b] ∧ K (.int (if b then 1 else 0)) ρ
theorem nInt_ok : ONOk G (fun xs H Q => (∃ i, xs = [.int i] ∧ Q (.int i) H) ∨ ∃ k, xs = [.bl k] ∧ Q (.int (if k then 1 else 0)) H) nInt := fun F H σ ρ fp vs rs fr Kd Q ok rr nd h k => by
  rcases h with ⟨i, rfl, q⟩ | ⟨b, rfl, q⟩
  · obtain ⟨v, rfl, r1⟩ := rr.one
    obtain ⟨rfl, _⟩ := r1.int
    exact .inl ⟨i, rfl, k _ H F ρ fp _ [] (En.stay ok) (.inl (.int _)) q⟩
  · obtain ⟨v, rfl, r1⟩ := rr.one
    obtain ⟨rfl, _⟩ := r1.bl
    exact .inr ⟨b, rfl, k _ H F ρ fp _ [] (En.stay ok) (.inl (.int _)) q⟩
/-- str(..) of an int -/
def nStr : ON := n1I (fun i => i.natAbs.log2 < 1920) fun i => .str (toString i)
def nDivmod : ON := fun ρ rs K => ∃ i j, rs = [.int i, .int j] ∧ CDiv i j ∧ K (.tup [.int (i / j), .int (i % j)]) ρ
theorem nDivmod_ok : ONOk G (fun xs H Q => ∃ i j, xs = [.int i, .int j] ∧ CDiv i j ∧ ∀ p, H p = none → Q (.ref p) (upd H p (.tup [.int (i / j), .int (i % j)]))) nDivmod := fun F H σ ρ fp vs rs fr Kd Q ok rr nd h k => by
  obtain ⟨i, j, rfl, c, q⟩ := h
  obtain ⟨v, w, f1, f2, rfl, _, r1, r2⟩ := rr.two
  obtain ⟨rfl, _⟩ := r1.int
  obtain ⟨rfl, _⟩ := r2.int
  exact ⟨i, j, rfl, c, fun p hp => k _ _ F ρ fp _ [] (En.tup ok hp).wide (.inl (.tup (.of upd_same) (.cons (fp := []) (fq := []) (.int _) (.one (.int _))))) q⟩
section
variable {p : Pos} {wa : WA} (he : starEach (e :: es) X.env = (false, eval e X.env) :: starEach es X.env := by rfl) (hpl : (backTo pos (starEach es X.env)).any (·.1) = false := by rfl)
theorem CallR.triv {f : Value} {g : Int → V} (h : CallR X f fun xs H Q => ∃ i, xs = [.int i] ∧ Q (g i) H) : CallR X f fun xs H Q => ∃ i, xs = [.int i] ∧ True ∧ Q (g i) H := fun pins st σ H xs us Q I rx ⟨i, e, _, q⟩ => h pins st σ H xs us Q I rx ⟨i, e, q⟩
include he hpl
theorem d_abs (hg : Gl X "abs") (hm : X.mg "abs" = none) (ha : PA X (e :: es) (LA G wa)) : PE X (.Call (.Name "abs" p) (e :: es) [] pos) (LE G (wCB nAbs wa)) := d_cb (CallR.triv call_abs) (n1I_ok fun _ _ _ _ _ => .int _) hg hm (by decide +kernel) ha (by decide) (by decide) he hpl
theorem d_max (hc : X.calm = true) (hg : Gl X "max") (hm : X.mg "max" = none) (ha : PA X (e :: es) (LA G wa)) : PE X (.Call (.Name "max" p) (e :: es) [] pos) (LE G (wCB nMax wa)) := d_cb (call_max2 hc) (n2I_ok fun _ _ _ _ _ _ => .int _) hg hm (by decide +kernel) ha (by decide) (by decide) he hpl
theorem d_min (hc : X.calm = true) (hg : Gl X "min") (hm : X.mg "min" = none) (ha : PA X (e :: es) (LA G wa)) : PE X (.Call (.Name "min" p) (e :: es) [] pos) (LE G (wCB nMin wa)) := d_cb (call_min2 hc) (n2I_ok fun _ _ _ _ _ _ => .int _) hg hm (by decide +kernel) ha (by decide) (by decide) he hpl
theorem d_int1 (hg : Gl X "int") (hm : X.mg "int" = none) (ha : PA X (e :: es) (LA G wa)) : PE X (.Call (.Name "int" p) (e :: es) [] pos) (LE G (wCB nInt wa)) := d_cty call_int1 nInt_ok hg hm (by decide +kernel) ha (by decide) (by decide) he hpl
theorem d_str1 (hg : Gl X "str") (hm : X.mg "str" = none) (ha : PA X (e :: es) (LA G wa)) : PE X (.Call (.Name "str" p) (e :: es) [] pos) (LE G (wCB nStr wa)) := d_cty call_str_int (n1I_ok (g := fun i => .str (toString i)) fun _ _ _ _ _ => .str _) hg hm (by decide +kernel) ha (by decide) (by decide) he hpl
theorem d_divmod (hg : Gl X "divmod") (hm : X.mg "divmod" = none) (ha : PA X (e :: es) (LA G wa)) : PE X (.Call (.Name "divmod" p) (e :: es) [] pos) (LE G (wCB nDivmod wa)) := d_cb call_divmod nDivmod_ok hg hm (by decide +kernel) ha (by decide) (by decide) he hpl
end

/-! ### list(..), tuple(..), any, all -/
def nList : ON := fun ρ rs K => ∃ r d ds, rs = [r] ∧ pk ρ r = some d ∧ its d = some ds ∧ K (.lst true ds) ρ
theorem nList_ok : ONOk G (fun xs H Q => ∃ p ys, xs = [.ref p] ∧ (SqL G.K H p ys ∨ SqT G.K H p ys) ∧ ∀ l, H l = none → Q (.ref l) (upd H l (.lst ys))) nList := fun F H σ ρ fp vs rs fr Kd Q ok rr nd h k => by
  obtain ⟨r, d, ds, rfl, e, e2, q⟩ := h
  obtain ⟨v, rfl, r1⟩ := rr.one
  obtain ⟨fs, rp, _⟩ := r1.see ok e
  obtain ⟨a, vs, rfl, rl, s⟩ := rp.its e2
  refine ⟨a, vs, rfl, ?_, fun l hl => k _ _ F ρ fp _ [l] (En.own ok hl).wide (.inl (.low upd_same (ok.not_none hl).1 (rl.new hl))) q⟩
  rcases s with ⟨s, _⟩ | ⟨s, _⟩
  · exact .inl (.of s)
  · exact .inr s
def nTuple : ON := fun ρ rs K => ∃ r d ds, rs = [r] ∧ pk ρ r = some d ∧ its d = some ds ∧ K (.tup ds) ρ
theorem nTuple_ok : ONOk G (fun xs H Q => ∃ p ys, xs = [.ref p] ∧ ((SqL G.K H p ys ∧ ∀ l, H l = none → Q (.ref l) (upd H l (.tup ys))) ∨ (SqT G.K H p ys ∧ Q (.ref p) H))) nTuple := fun F H σ ρ fp vs rs fr Kd Q ok rr nd h k => by
  obtain ⟨r, d, ds, rfl, e, e2, q⟩ := h
  obtain ⟨v, rfl, r1⟩ := rr.one
  obtain ⟨fs, rp, _⟩ := r1.see ok e
  obtain ⟨a, vs, rfl, rl, s⟩ := rp.its e2
  refine ⟨a, vs, rfl, ?_⟩
  rcases s with ⟨s, _⟩ | ⟨s, _⟩
  · exact .inl ⟨.of s, fun l hl => k _ _ F ρ fp _ [] (En.tup ok hl).wide (.inl (.tup (.of upd_same) (rl.new hl))) q⟩
  · exact .inr ⟨s, k _ H F ρ fp _ [] (En.stay ok) (.inl (.tup s rl)) q⟩
/-- the truths of a list -/
def bls : List D → Option (List Bool)
  | [] => some []
  | .bl b :: xs => match bls xs with
    | some bs => some (b :: bs)
    | none => none
  | _ => none
theorem RpL.bls : ∀ {ds : List D} {vs : List V} {bs : List Bool}, RpL K ca F H vs ds [] → bls ds = some bs → vs = bs.map V.bl
  | [], [], bs, _, e => by cases e; rfl
  | d :: ds, v :: vs, bs, h, e => by
    obtain ⟨r, t⟩ := h.nil_of
    cases d <;> (try (simp [M.bls] at e; done))
    rename_i b
    unfold M.bls at e
    cases q : M.bls ds with
    | none => rw [q] at e; cases e
    | some bs' =>
      rw [q] at e
      cases e
      cases r
      rw [RpL.bls t q]; rfl
def nAll : ON := fun ρ rs K => ∃ r b ds bs, rs = [r] ∧ pk ρ r = some (.lst b ds) ∧ bls ds = some bs ∧ K (.bl (bs.all id)) ρ
def nAny : ON := fun ρ rs K => ∃ r b ds bs, rs = [r] ∧ pk ρ r = some (.lst b ds) ∧ bls ds = some bs ∧ K (.bl (bs.any id)) ρ
theorem nAll_ok : ONOk G (rAll G.K) nAll := fun F H σ ρ fp vs rs fr Kd Q ok rr nd h k => by
  obtain ⟨r, b, ds, bs, rfl, e, e2, q⟩ := h
  obtain ⟨v, rfl, r1⟩ := rr.one
  obtain ⟨a, vs, rfl, s, rl⟩ := r1.lst ok e
  have := rl.bls e2
  subst this
  exact ⟨a, bs, rfl, .of s, k _ H F ρ fp _ [] (En.stay ok) (.inl (.bl _)) q⟩
theorem nAny_ok : ONOk G (rAny G.K) nAny := fun F H σ ρ fp vs rs fr Kd Q ok rr nd h k => by
  obtain ⟨r, b, ds, bs, rfl, e, e2, q⟩ := h
  obtain ⟨v, rfl, r1⟩ := rr.one
  obtain ⟨a, vs, rfl, s, rl⟩ := r1.lst ok e
  have := rl.bls e2
  subst this
  exact ⟨a, bs, rfl, .of s, k _ H F ρ fp _ [] (En.stay ok) (.inl (.bl _)) q⟩
section
variable {p : Pos} {wa : WA} (he : starEach (e :: es) X.env = (false, eval e X.env) :: starEach es X.env := by rfl) (hpl : (backTo pos (starEach es X.env)).any (·.1) = false := by rfl)
include he hpl
theorem d_list (hK : X.K = G.K) (hg : Gl X "list") (hm : X.mg "list" = none) (ha : PA X (e :: es) (LA G wa)) : PE X (.Call (.Name "list" p) (e :: es) [] pos) (LE G (wCB nList wa)) := d_cty call_list_of (hK ▸ nList_ok) hg hm (by decide +kernel) ha (by decide) (by decide) he hpl
theorem d_tuple (hK : X.K = G.K) (hg : Gl X "tuple") (hm : X.mg "tuple" = none) (ha : PA X (e :: es) (LA G wa)) : PE X (.Call (.Name "tuple" p) (e :: es) [] pos) (LE G (wCB nTuple wa)) := d_cty call_tuple_of (hK ▸ nTuple_ok) hg hm (by decide +kernel) ha (by decide) (by decide) he hpl
theorem d_all (hc : X.calm = true) (hK : X.K = G.K) (hg : Gl X "all") (hm : X.mg "all" = none) (ha : PA X (e :: es) (LA G wa)) : PE X (.Call (.Name "all" p) (e :: es) [] pos) (LE G (wCB nAll wa)) := d_cb (cr_all hc) (hK ▸ nAll_ok) hg hm (by decide +kernel) ha (by decide) (by decide) he hpl
theorem d_any (hc : X.calm = true) (hK : X.K = G.K) (hg : Gl X "any") (hm : X.mg "any" = none) (ha : PA X (e :: es) (LA G wa)) : PE X (.Call (.Name "any" p) (e :: es) [] pos) (LE G (wCB nAny wa)) := d_cb (cr_any hc) (hK ▸ nAny_ok) hg hm (by decide +kernel) ha (by decide) (by decide) he hpl
end

/-! ### methods of built-in types -/
def tyD (T : String) (ρ : Sl) (x : D) : Prop := ∃ d, pk ρ x = some d ∧ (match d with
  | .str _ => T = "str"
  | .int _ => T = "int"
  | .lst _ _ => T = "list"
  | .lso _ => T = "list"
  | _ => False)
theorem RpL.ex {ds : List D} {vs : List V} (h : H p = some (.lst vs)) : tyV K "list" (.ref p) H := .inl ⟨rfl, _, .of h⟩
theorem Rr.tyV {T : String} (ok : Ok G F H σ ρ fp) (h : Rr G F H σ v r fr) (t : tyD T ρ r) : tyV G.K T v H := by
  obtain ⟨d, e, t⟩ := t
  obtain ⟨_, rp, sub⟩ := h.see ok e
  clear sub
  cases rp <;> first | exact t | exact t.elim | skip
  · rename_i s f q; cases (show T = "list" from t); exact .inl ⟨rfl, _, .of (by assumption)⟩
  · rename_i s f q; cases (show T = "list" from t); exact .inl ⟨rfl, _, .of (by assumption)⟩
  · rename_i s f q; cases (show T = "list" from t); exact .inl ⟨rfl, _, .of (by assumption)⟩
def rM (r : V → List V → Hp → VK → Prop) : List V → Hp → VK → Prop := fun vs H Q => ∃ x xs, vs = x :: xs ∧ r x xs H Q
def wM (T : String) (o : ON) (wo : WE) (wa : WA) : WE := fun ρ Q => wo ρ fun x ρ1 => tyD T ρ1 x ∧ wa ρ1 fun rs ρ2 => o ρ2 (x :: rs) Q
def wM0 (T : String) (o : ON) (wo : WE) : WE := fun ρ Q => wo ρ fun x ρ1 => tyD T ρ1 x ∧ o ρ1 [x] Q
theorem d_m {id T : String} {name : Str} {apos : Pos} {r : V → List V → Hp → VK → Prop} {o : ON} {wa : WA} {oe : Expr} (hK : X.K = G.K) (pa : PlainAttrs T) (slot : Slot T name id) (hty : typeOf (.builtin id) = pure (.type "method_descriptor")) (hm : MtR X id r) (ho : ONOk G (rM r) o) (he : PE X oe (LE G we)) (ha : PA X (e :: es) (LA G wa))
    (hbase : attributeBase oe name X.env (eval oe X.env) = eval oe X.env := by rfl)
    (hfew : ((backTo pos (starEach (e :: es) X.env)).all (fun x => !x.1) && (backToKw pos (keywordEach [] X.env)).all (fun x => x.1.isSome)
      && decide ((e :: es).length + ([] : List Keyword).length + (if ([] : List Keyword).isEmpty then 0 else 1) < 30)) = true := by rfl)
    (hline : (apos.endLine == pos.line) = true := by rfl) (hs : starEach (e :: es) X.env = (false, eval e X.env) :: starEach es X.env := by rfl) (hplain : (backTo pos (starEach es X.env)).any (·.1) = false := by rfl) :
    PE X (.Call (.Attribute oe name apos) (e :: es) [] pos) (LE G (wM T o we wa)) := imE (pe_bm pa slot hty hm he ha hbase hfew hline hs hplain) fun σ H Q q => by
  obtain ⟨F, ρ, fp, Qd, ok, h, k⟩ := q
  refine ⟨F, ρ, fp, _, ok, h, fun v1 H1 F1 ρ1 fp1 x f1 en1 rr1 q1 => ?_⟩
  refine ⟨hK ▸ rr1.tyV en1.ok q1.1, F1, ρ1, fp1, _, en1.ok, q1.2, fun vs H2 F2 ρ2 fp2 rs f2 en2 rr2 q2 => ?_⟩
  have en := en1.trans en2 rr1.dom
  obtain ⟨y, ys, e1, q3⟩ := ho F2 H2 σ ρ2 fp2 (v1 :: vs) (x :: rs) (f1 ++ f2) Qd Q en.ok (.cons (rr1.step en2.st en1.ok.nf (nodup_d en1.nd)) rr2) ⟨en.nd, en.hr ok⟩ q2 fun v H3 F3 ρ3 fp3 d f3 en3 rr3 q3 => k v H3 F3 ρ3 fp3 d f3 (en.call en3) rr3 q3
  cases e1
  exact q3
theorem d_m0 {id T : String} {name : Str} {apos : Pos} {r : V → List V → Hp → VK → Prop} {o : ON} {oe : Expr} (hK : X.K = G.K) (pa : PlainAttrs T) (slot : Slot T name id) (hty : typeOf (.builtin id) = pure (.type "method_descriptor")) (hm : MtR X id r) (ho : ONOk G (rM r) o) (he : PE X oe (LE G we))
    (hbase : attributeBase oe name X.env (eval oe X.env) = eval oe X.env := by rfl) (hline : (apos.endLine == pos.line) = true := by rfl) :
    PE X (.Call (.Attribute oe name apos) [] [] pos) (LE G (wM0 T o we)) := imE (pe_bm0 pa slot hty hm he hbase hline) fun σ H Q q => by
  obtain ⟨F, ρ, fp, Qd, ok, h, k⟩ := q
  refine ⟨F, ρ, fp, _, ok, h, fun v1 H1 F1 ρ1 fp1 x f1 en1 rr1 q1 => ?_⟩
  refine ⟨hK ▸ rr1.tyV en1.ok q1.1, ?_⟩
  obtain ⟨y, ys, e1, q3⟩ := ho F1 H1 σ ρ1 fp1 [v1] [x] (f1 ++ []) Qd Q en1.ok (.cons rr1 .nil) ⟨by simpa using en1.nd, fun a z => en1.hr ok a (by simpa using z)⟩ q1.2 fun v H3 F3 ρ3 fp3 d f3 en3 rr3 q3 => k v H3 F3 ρ3 fp3 d f3 (en1.call (by simpa using en3)) rr3 q3
  cases e1
  exact q3

/-! ### a slot's own object changes -/
theorem set_get {α : Type} {l : List α} {i : Nat} {x : α} (h : l[i]? = some x) : l.set i x = l := by
  apply List.ext_getElem?
  intro j
  by_cases hj : i = j
  · subst hj
    rw [h, List.getElem?_set_self (by rw [List.getElem?_eq_some_iff] at h; exact h.1)]
  · rw [List.getElem?_set_ne hj]
/-- the object at a, which the slot i owns, becomes u, which stands for d1 -/
theorem Ok.change {i : Nat} {a : Addr} {u u0 : HO} {d0 d1 : D} (ok : Ok G F H σ ρ fp) (e : ρ[i]? = some (some d0)) (hσ : σ[i]? = some (some (.ref a))) (h0 : ∀ fs, Rp G.K G.ca F H (.ref a) d0 fs → fs = [a]) (ha : H a = some u0) (hm : MutK u0)
    (h1 : Rp G.K G.ca F (upd H a u) (.ref a) d1 [a]) : ∃ fp', En G F H (fr ++ fp) σ F (upd H a u) (ρ.set i (some d1)) fp' [] := by
  have hi : i < ρ.length := by rw [List.getElem?_eq_some_iff] at e; exact e.1
  obtain ⟨l, fs, r, e1, g1, _, g3, _⟩ := ok.rs.at_ hi
  obtain ⟨v', ev, rp⟩ := g1 d0 e
  rw [hσ] at ev; cases ev
  have efs := h0 fs rp
  subst efs
  have hin : a ∈ fp := by rw [e1]; simp
  have nF : ¬ F a := ok.nf a hin
  have st : Step F H [a] F (upd H a u) [a] := ⟨fun _ z => z, fun _ z => .inl z, fun x o eo c => by
    by_cases hx : x = a
    · subst hx
      rcases c with c | c
      · exact absurd List.mem_cons_self c
      · rw [ha] at eo; cases eo; exact absurd hm c
    · rw [upd_ne hx]; exact eo, fun x o eo => by
    by_cases hx : x = a
    · exact ⟨u, by rw [hx]; exact upd_same⟩
    · exact ⟨o, by rw [upd_ne hx]; exact eo⟩, fun x z => .inl z⟩
  have nd2 := ok.nd
  rw [e1] at nd2
  have nlr : a ∉ l ++ r := fun z => by
    rcases List.mem_append.mp z with z | z
    · exact nodup_d (nodup_l nd2) a z (by simp)
    · exact nodup_d nd2 a (by simp) z
  have base' : RpS G.K G.ca F (upd H a u) (σ.set i none) (ρ.set i none) (l ++ r) := (g3 none).step st (fun x z => by rw [List.mem_singleton.mp z]; exact nF) fun x z y => by
    rw [List.mem_singleton.mp y] at z
    exact nlr z
  obtain ⟨l2, fs2, r2, e2, _, g2, _, g4⟩ := base'.at_ (i := i) (by rw [List.length_set]; exact hi)
  have f2 : fs2 = [] := g2 (by rw [List.getElem?_set_self hi])
  subst f2
  have rs2 := g4 (.ref a) d1 [a] h1
  rw [List.set_set, List.set_set, set_get hσ] at rs2
  have e2' : l ++ r = l2 ++ r2 := by simpa using e2
  have nd3 : (l2 ++ r2).Nodup := by
    rw [← e2']
    exact nodup_of (nodup_l (nodup_l nd2)) (nodup_r nd2) fun x z y => nodup_d nd2 x (List.mem_append_left _ z) y
  have na : a ∉ l2 ++ r2 := by rw [← e2']; exact nlr
  have sub : ∀ x ∈ l2 ++ [a] ++ r2, x ∈ fp := fun x z => by
    have z' : x ∈ l2 ++ r2 ∨ x = a := by
      simp only [List.mem_append, List.mem_singleton] at z ⊢
      rcases z with (z | z) | z
      · exact .inl (.inl z)
      · exact .inr z
      · exact .inl (.inr z)
    rcases z' with z' | z'
    · rw [← e2'] at z'
      rw [e1]
      rcases List.mem_append.mp z' with w | w <;> simp [w]
    · rw [z']; exact hin
  have nd4 : (l2 ++ [a] ++ r2).Nodup := by
    refine nodup_of (nodup_of (nodup_l nd3) (by simp) fun x z y => ?_) (nodup_r nd3) fun x z y => ?_
    · rw [List.mem_singleton.mp y] at z
      exact na (List.mem_append_left _ z)
    · rcases List.mem_append.mp z with z | z
      · exact nodup_d nd3 x z y
      · rw [List.mem_singleton.mp z] at y
        exact na (List.mem_append_right _ y)
  refine ⟨l2 ++ [a] ++ r2, (st.more (fq := fr ++ fp) fun x z => by rw [List.mem_singleton.mp z]; exact List.mem_append_right _ hin) |> fun s => ⟨s.mono, s.new, s.keep, s.there, fun x z => .inl (List.mem_append_right _ (sub x z))⟩, ⟨rs2, nd4, fun x f => ?_, ok.pm, ok.rch.trans ⟨st.mono, fun x z => .inl z, fun x o eo c => st.keep x o eo (c.imp (fun n z => n (by rw [List.mem_singleton.mp z]; exact hin)) id), st.there, fun x z => .inl (sub x z)⟩⟩, nd4⟩
  obtain ⟨o, eo⟩ := ok.dom x f
  exact st.there x o eo
end
end M
/-! M8: methods of lists, walks, comprehensions. -/
namespace M
open PySem PySem.Spec PyProof.Rows L2

section
variable {G : Gc} {X : Cx} {F F' F1 F2 : Addr → Prop} {H H' H1 H2 : Hp} {σ σ' : L2.St} {ρ ρ' ρ1 ρ2 : Sl} {fp fp' fp1 fp2 fr fr1 fr2 : List Addr} {v v1 v2 : V} {r r1 r2 d : D} {p : Addr} {o : HO}
  {a b c e : Expr} {es : List Expr} {wa wb wc we : WE} {ta tb tc : WT} {rest : List Expr} {pos : Pos} {K : PySem.W.Frag} {ca : Str → Addr}

/-! ### methods of owned lists -/
theorem Rr.sl {i : Nat} (h : Rr G F H σ v (.sl i) fr) : σ[i]? = some (some v) ∧ fr = [] := by
  rcases h with h | ⟨j, e, ev, ef⟩
  · cases h
  · cases e; exact ⟨ev, ef⟩
/-- the list that a slot owns -/
theorem Ok.own {i : Nat} {xs : List D} (ok : Ok G F H σ ρ fp) (h : σ[i]? = some (some v)) (e : ρ[i]? = some (some (.lst true xs))) : ∃ a vs, v = .ref a ∧ H a = some (.lst vs) ∧ RpL G.K G.ca F H vs xs [] ∧ ¬ F a ∧ a ∈ fp := by
  obtain ⟨l, fs, r, e1, g1, _, _, _⟩ := ok.rs.at_ (i := i) (by rw [List.getElem?_eq_some_iff] at e; exact e.1)
  obtain ⟨v', ev, rp⟩ := g1 _ e
  rw [h] at ev; cases ev
  cases rp with
  | low s f r => exact ⟨_, _, rfl, s, r, f, by rw [e1]; simp⟩
theorem low_fp {a : Addr} {xs : List D} : ∀ fs, Rp K ca F H (.ref a) (.lst true xs) fs → fs = [a] := fun fs h => by cases h; rfl
/-- what owns nothing stands where an owned object changes -/
theorem Rp.mut {a : Addr} {u u0 : HO} (h : Rp K ca F H v d []) (ha : H a = some u0) (hm : MutK u0) (hF : ¬ F a) : Rp K ca F (upd H a u) v d [] :=
  h.keep (fun b o eo n => by
    by_cases hb : b = a
    · subst hb; rw [ha] at eo; cases eo; exact absurd hm n
    · rw [upd_ne hb]; exact eo) (fun b o f eo _ => by rw [upd_ne (fun z => hF (by rw [← z]; exact f))]; exact eo) (fun b u f rd _ => rd_keep (fun o eo => by rw [upd_ne (fun z => hF (by rw [← z]; exact f))]; exact eo) rd) (fun _ z => z) (fun _ z => nomatch z) fun _ z => nomatch z
theorem RpL.mut {a : Addr} {u u0 : HO} {vs : List V} {ds : List D} (h : RpL K ca F H vs ds []) (ha : H a = some u0) (hm : MutK u0) (hF : ¬ F a) : RpL K ca F (upd H a u) vs ds [] :=
  h.keep (fun b o eo n => by
    by_cases hb : b = a
    · subst hb; rw [ha] at eo; cases eo; exact absurd hm n
    · rw [upd_ne hb]; exact eo) (fun b o f eo _ => by rw [upd_ne (fun z => hF (by rw [← z]; exact f))]; exact eo) (fun b u f rd _ => rd_keep (fun o eo => by rw [upd_ne (fun z => hF (by rw [← z]; exact f))]; exact eo) rd) (fun _ z => z) (fun _ z => nomatch z) fun _ z => nomatch z
/-- .. after a list that it owns was changed -/
theorem Ok.setL {i : Nat} {a : Addr} {xs ys : List D} {vs us : List V} (ok : Ok G F H σ ρ fp) (e : ρ[i]? = some (some (.lst true xs))) (hσ : σ[i]? = some (some (.ref a))) (ha : H a = some (.lst vs)) (hF : ¬ F a) (hy : RpL G.K G.ca F H us ys []) :
    ∃ fp', En G F H (fr ++ fp) σ F (upd H a (.lst us)) (ρ.set i (some (.lst true ys))) fp' [] :=
  ok.change e hσ low_fp ha trivial (.low upd_same hF (hy.mut ha trivial hF))
def nApp : ON := fun ρ rs K => ∃ i y xs d ρ1, rs = [.sl i, y] ∧ fzR ρ y = some (d, ρ1) ∧ ρ1[i]? = some (some (.lst true xs)) ∧ xs.length < sizeLine ∧ K .non (ρ1.set i (some (.lst true (xs ++ [d]))))
theorem nApp_ok : ONOk G (rM rAppend) nApp := fun F H σ ρ fp vs rs fr Kd Q ok rr nd h k => by
  obtain ⟨i, y, xs, d, ρ1, rfl, e1, e2, z, q⟩ := h
  obtain ⟨v1, v2, f1, f2, rfl, rfl, r1, r2⟩ := rr.two
  obtain ⟨hσ, rfl⟩ := r1.sl
  obtain ⟨F1, fp1, s1, rp⟩ := r2.share ok (by simpa using nd.1) (fun a z => nd.2 a (by simpa using z)) e1
  obtain ⟨a, us, rfl, ha, rl, nF, _⟩ := s1.ok.own hσ e2
  obtain ⟨fp2, en⟩ := s1.ok.setL (fr := []) e2 hσ ha nF (rl.app (.one rp))
  refine ⟨_, _, rfl, a, us, v2, rfl, rfl, ha, by rw [rl.length]; exact z, ?_⟩
  exact k _ _ F1 _ fp2 .non [] ⟨(by simpa using s1.step : Step F H ([] ++ f2 ++ fp) F1 H fp1).trans (by simpa using en.st), en.ok, en.nd⟩ (.inl .non) q
def nPopAt : ON := fun ρ rs K => ∃ i n xs j d, rs = [.sl i, .int n] ∧ ρ[i]? = some (some (.lst true xs)) ∧ -(2 ^ 63) ≤ n ∧ n < 2 ^ 63 ∧ ixN xs.length n = some j ∧ xs[j]? = some d ∧ K d (ρ.set i (some (.lst true (xs.eraseIdx j))))
theorem nPopAt_ok : ONOk G (rM rPopAt) nPopAt := fun F H σ ρ fp vs rs fr Kd Q ok rr nd h k => by
  obtain ⟨i, n, xs, j, d, rfl, e, b1, b2, ej, ed, q⟩ := h
  obtain ⟨v1, v2, f1, f2, rfl, rfl, r1, r2⟩ := rr.two
  obtain ⟨hσ, rfl⟩ := r1.sl
  obtain ⟨rfl, rfl⟩ := r2.int
  obtain ⟨a, us, rfl, ha, rl, nF, _⟩ := ok.own hσ e
  obtain ⟨fp2, en⟩ := ok.setL (fr := []) e hσ ha nF (rl.erase j)
  obtain ⟨w, ew, rp⟩ := rl.at_ ed
  refine ⟨_, _, rfl, a, us, n, j, w, rfl, rfl, ha, b1, b2, by rw [rl.length]; exact (ixN_seq ej).1, ew, ?_⟩
  exact k _ _ F _ fp2 d [] (by simpa using en) (.inl (rp.mut ha trivial nF)) q
def nPop : ON := fun ρ rs K => ∃ i xs d, rs = [.sl i] ∧ ρ[i]? = some (some (.lst true xs)) ∧ xs[xs.length - 1]? = some d ∧ K d (ρ.set i (some (.lst true xs.dropLast)))
theorem RpL.dropLast {ds : List D} {vs : List V} (h : RpL K ca F H vs ds []) : RpL K ca F H vs.dropLast ds.dropLast [] := by
  rw [List.dropLast_eq_take, List.dropLast_eq_take, h.length]
  exact h.take _
theorem nPop_ok : ONOk G (rM rPop) nPop := fun F H σ ρ fp vs rs fr Kd Q ok rr nd h k => by
  obtain ⟨i, xs, d, rfl, e, ed, q⟩ := h
  obtain ⟨v1, rfl, r1⟩ := rr.one
  obtain ⟨hσ, rfl⟩ := r1.sl
  obtain ⟨a, us, rfl, ha, rl, nF, _⟩ := ok.own hσ e
  obtain ⟨fp2, en⟩ := ok.setL (fr := []) e hσ ha nF rl.dropLast
  obtain ⟨w, ew, rp⟩ := rl.at_ ed
  refine ⟨_, _, rfl, a, us, w, rfl, rfl, ha, by rw [rl.length]; exact ew, ?_⟩
  exact k _ _ F _ fp2 d [] (by simpa using en) (.inl (rp.mut ha trivial nF)) q
/-- the first place of an equal scalar -/
def nIndex : ON := fun ρ rs K => ∃ r y d b xs us u j, rs = [r, y] ∧ pk ρ r = some (.lst b xs) ∧ scL xs = some us ∧ sc y = some u ∧ us.findIdx? (fun z => eqV z u) = some j ∧ d = D.int (j : Nat) ∧ K d ρ
theorem nIndex_ok : ONOk G (rM (rIndex G.K)) nIndex := fun F H σ ρ fp vs rs fr Kd Q ok rr nd h k => by
  obtain ⟨r, y, d, b, xs, us, u, j, rfl, e, e1, e2, ej, rfl, q⟩ := h
  obtain ⟨v1, v2, f1, f2, rfl, rfl, r1, r2⟩ := rr.two
  obtain ⟨a, ws, rfl, ha, rl⟩ := r1.lst ok e
  obtain ⟨rfl, rfl⟩ := r2.sc e2
  have := rl.scL e1
  subst this
  obtain ⟨hj, p1, p2⟩ := List.findIdx?_eq_some_iff_getElem.mp ej
  refine ⟨_, _, rfl, a, ws, v2, j, ws[j], rfl, rfl, .of ha, sc_flat e2, scL_flat e1, by simp [hj], p1, fun m z' hm ez => ?_, k _ H F ρ fp _ [] (En.stay ok) (.inl (.int _)) q⟩
  obtain ⟨hm', ez⟩ := List.getElem?_eq_some_iff.mp ez
  have := p2 m hm
  rw [ez] at this
  simpa using this
/-- texts -/
def txts : List D → Option (List Str)
  | [] => some []
  | .str x :: xs => match txts xs with
    | some l => some (x :: l)
    | none => none
  | _ => none
theorem RpL.txts : ∀ {ds : List D} {vs : List V} {l : List Str}, RpL K ca F H vs ds [] → txts ds = some l → vs = l.map V.str
  | [], [], l, _, e => by cases e; rfl
  | d :: ds, v :: vs, l, h, e => by
    obtain ⟨r, t⟩ := h.nil_of
    cases d <;> (try (simp [M.txts] at e; done))
    rename_i b
    unfold M.txts at e
    cases q : M.txts ds with
    | none => rw [q] at e; cases e
    | some l' =>
      rw [q] at e
      cases e
      cases r
      rw [RpL.txts t q]; rfl
theorem txts_map (l : List Str) : txts (l.map D.str) = some l := by
  induction l with
  | nil => rfl
  | cons x l ih => simp [txts, ih]
def nJoin : ON := fun ρ rs K => ∃ a r d xs ys, rs = [.str a, r] ∧ pk ρ r = some d ∧ its d = some xs ∧ txts xs = some ys ∧ (ys.map (·.length)).sum + ys.length * a.length ≤ 16777216 ∧ K (.str (Txt.join a ys)) ρ
theorem nJoin_ok : ONOk G (rM fun x xs H Q => ∃ a p, ∃ ys : List Str, x = .str a ∧ xs = [.ref p] ∧ (SqL G.K H p (ys.map V.str) ∨ SqT G.K H p (ys.map V.str)) ∧
    (ys.map (·.length)).sum + ys.length * a.length ≤ 16777216 ∧ Q (.str (Txt.join a ys)) H) nJoin := fun F H σ ρ fp vs rs fr Kd Q ok rr nd h k => by
  obtain ⟨a, r, d, xs, ys, rfl, e, e1, e2, z, q⟩ := h
  obtain ⟨v1, v2, f1, f2, rfl, rfl, r1, r2⟩ := rr.two
  obtain ⟨rfl, rfl⟩ := r1.str
  obtain ⟨fs, rp, _⟩ := r2.see ok e
  obtain ⟨l, us, rfl, rl, s⟩ := rp.its e1
  have := rl.txts e2
  subst this
  refine ⟨_, _, rfl, a, l, ys, rfl, rfl, ?_, z, k _ H F ρ fp _ [] (En.stay ok) (.inl (.str _)) q⟩
  rcases s with ⟨s, _⟩ | ⟨s, _⟩
  · exact .inl (.of s)
  · exact .inr s
section
variable {oe : Expr} {wa : WA} {apos : Pos} (hK : X.K = G.K) (he : PE X oe (LE G we))
include hK he
theorem d_append (ha : PA X [e] (LA G wa)) (hbase : attributeBase oe "append" X.env (eval oe X.env) = eval oe X.env := by rfl)
    (hfew : ((backTo pos (starEach [e] X.env)).all (fun x => !x.1) && (backToKw pos (keywordEach [] X.env)).all (fun x => x.1.isSome) && decide ([e].length + ([] : List Keyword).length + (if ([] : List Keyword).isEmpty then 0 else 1) < 30)) = true := by rfl)
    (hline : (apos.endLine == pos.line) = true := by rfl) (hs : starEach [e] X.env = (false, eval e X.env) :: starEach [] X.env := by rfl) (hplain : (backTo pos (starEach [] X.env)).any (·.1) = false := by rfl) :
    PE X (.Call (.Attribute oe "append" apos) [e] [] pos) (LE G (wM "list" nApp we wa)) := d_m hK PySem.F.plainAttrs_list PySem.F.slot_list_append PySem.F.type_list_append mt_append nApp_ok he ha hbase hfew hline hs hplain
theorem d_popAt (ha : PA X [e] (LA G wa)) (hbase : attributeBase oe "pop" X.env (eval oe X.env) = eval oe X.env := by rfl)
    (hfew : ((backTo pos (starEach [e] X.env)).all (fun x => !x.1) && (backToKw pos (keywordEach [] X.env)).all (fun x => x.1.isSome) && decide ([e].length + ([] : List Keyword).length + (if ([] : List Keyword).isEmpty then 0 else 1) < 30)) = true := by rfl)
    (hline : (apos.endLine == pos.line) = true := by rfl) (hs : starEach [e] X.env = (false, eval e X.env) :: starEach [] X.env := by rfl) (hplain : (backTo pos (starEach [] X.env)).any (·.1) = false := by rfl) :
    PE X (.Call (.Attribute oe "pop" apos) [e] [] pos) (LE G (wM "list" nPopAt we wa)) := d_m hK PySem.F.plainAttrs_list PySem.F.slot_list_pop PySem.F.type_list_pop mt_popAt nPopAt_ok he ha hbase hfew hline hs hplain
theorem d_pop (hbase : attributeBase oe "pop" X.env (eval oe X.env) = eval oe X.env := by rfl) (hline : (apos.endLine == pos.line) = true := by rfl) :
    PE X (.Call (.Attribute oe "pop" apos) [] [] pos) (LE G (wM0 "list" nPop we)) := d_m0 hK PySem.F.plainAttrs_list PySem.F.slot_list_pop PySem.F.type_list_pop mt_pop nPop_ok he hbase hline
theorem d_index (ha : PA X [e] (LA G wa)) (hbase : attributeBase oe "index" X.env (eval oe X.env) = eval oe X.env := by rfl)
    (hfew : ((backTo pos (starEach [e] X.env)).all (fun x => !x.1) && (backToKw pos (keywordEach [] X.env)).all (fun x => x.1.isSome) && decide ([e].length + ([] : List Keyword).length + (if ([] : List Keyword).isEmpty then 0 else 1) < 30)) = true := by rfl)
    (hline : (apos.endLine == pos.line) = true := by rfl) (hs : starEach [e] X.env = (false, eval e X.env) :: starEach [] X.env := by rfl) (hplain : (backTo pos (starEach [] X.env)).any (·.1) = false := by rfl) :
    PE X (.Call (.Attribute oe "index" apos) [e] [] pos) (LE G (wM "list" nIndex we wa)) := d_m hK PySem.F.plainAttrs_list PySem.F.slot_list_index PySem.F.type_list_index mt_index (hK ▸ nIndex_ok) he ha hbase hfew hline hs hplain
theorem d_join (ha : PA X [e] (LA G wa)) (hbase : attributeBase oe "join" X.env (eval oe X.env) = eval oe X.env := by rfl)
    (hfew : ((backTo pos (starEach [e] X.env)).all (fun x => !x.1) && (backToKw pos (keywordEach [] X.env)).all (fun x => x.1.isSome) && decide ([e].length + ([] : List Keyword).length + (if ([] : List Keyword).isEmpty then 0 else 1) < 30)) = true := by rfl)
    (hline : (apos.endLine == pos.line) = true := by rfl) (hs : starEach [e] X.env = (false, eval e X.env) :: starEach [] X.env := by rfl) (hplain : (backTo pos (starEach [] X.env)).any (·.1) = false := by rfl) :
    PE X (.Call (.Attribute oe "join" apos) [e] [] pos) (LE G (wM "str" nJoin we wa)) := d_m hK PySem.F.plainAttrs_str PySem.F.slot_str_join PySem.F.type_str_join mt_join (hK ▸ nJoin_ok) he ha hbase hfew hline hs hplain
end
end
end M
/-! M9: walks, comprehensions, stores to an item. -/
namespace M
open PySem PySem.Spec PyProof.Rows L2

section
variable {G : Gc} {X : Cx} {F F' F1 F2 : Addr → Prop} {H H' H1 H2 : Hp} {σ σ' : L2.St} {ρ ρ' ρ1 ρ2 : Sl} {fp fp' fp1 fp2 fr fr1 fr2 : List Addr} {v v1 v2 : V} {r r1 r2 d : D} {p : Addr} {o : HO}
  {a b c e : Expr} {es : List Expr} {wa wb wc we : WE} {ta tb tc : WT} {rest : List Expr} {pos : Pos} {K : PySem.W.Frag} {ca : Str → Addr}

/-! ### walks -/
def rng (lo : Int) (n : Nat) : List D := (List.range n).map fun (k : Nat) => D.int (lo + (k : Int))
theorem rng_at {lo : Int} {n i : Nat} {d : D} (h : (rng lo n)[i]? = some d) : i < n ∧ d = .int (lo + i) := by
  unfold rng at h
  rw [List.getElem?_map] at h
  by_cases hi : i < n
  · rw [List.getElem?_range hi] at h
    exact ⟨hi, by simpa using h.symm⟩
  · rw [List.getElem?_eq_none (by simp; omega)] at h
    cases h
theorem rng_len (lo : Int) (n : Nat) : (rng lo n).length = n := by simp [rng]
def wiR1 (wa : WA) : WI := fun ρ K => wa ρ fun rs ρ1 => ∃ j : Int, rs = [.int j] ∧ -(2 ^ 62) ≤ j ∧ j < 2 ^ 62 ∧ K (rng 0 j.toNat) ρ1
def wiR2 (wa : WA) : WI := fun ρ K => wa ρ fun rs ρ1 => ∃ i j : Int, rs = [.int i, .int j] ∧ (-(2 ^ 62) ≤ i ∧ i < 2 ^ 62 ∧ -(2 ^ 62) ≤ j ∧ j < 2 ^ 62) ∧ K (rng i (j - i).toNat) ρ1
theorem it_rng {lo : Int} {n : Nat} : ItOk G F H fp (Itr lo n) (rng lo n) where
  go := fun i d F' H' σ ρ fp' s ok e => by
    obtain ⟨hi, rfl⟩ := rng_at e
    exact ⟨hi, fun x H2 y => by obtain ⟨rfl, rfl⟩ := y; exact ⟨F', En.refl ok, .int _⟩⟩
  stop := fun F' H' σ ρ fp' s ok => by rw [rng_len]; exact Nat.le_refl _
theorem di_r1 {tg a : Expr} {wa : WA} {p pos : Pos} (hg : Gl X "range") (hm : X.mg "range" = none) (ha : PA X [a] (LA G wa)) (hs : starEach [a] X.env = [(false, eval a X.env)] := by rfl) : PI X tg (.Call (.Name "range" p) [a] [] pos) (LW G (wiR1 wa)) := imI (pi_range1 hg hm ha hs) fun σ H Q q => by
  obtain ⟨F, ρ, fp, Kd, ok, h, k⟩ := q
  refine ⟨F, ρ, fp, _, ok, h, fun vs H1 F1 ρ1 fp1 rs fr en rr q => ?_⟩
  obtain ⟨j, rfl, h1, h2, q⟩ := q
  obtain ⟨v, rfl, r1⟩ := rr.one
  obtain ⟨rfl, rfl⟩ := r1.int
  exact ⟨j, rfl, h1, h2, k _ H1 F1 ρ1 fp1 _ en it_rng q⟩
theorem di_r2 {tg a b : Expr} {wa : WA} {p pos : Pos} (hg : Gl X "range") (hm : X.mg "range" = none) (ha : PA X [a, b] (LA G wa)) (hs : starEach [a, b] X.env = [(false, eval a X.env), (false, eval b X.env)] := by rfl) (hs2 : starEach [b] X.env = [(false, eval b X.env)] := by rfl) : PI X tg (.Call (.Name "range" p) [a, b] [] pos) (LW G (wiR2 wa)) := imI (pi_range2 hg hm ha hs hs2) fun σ H Q q => by
  obtain ⟨F, ρ, fp, Kd, ok, h, k⟩ := q
  refine ⟨F, ρ, fp, _, ok, h, fun vs H1 F1 ρ1 fp1 rs fr en rr q => ?_⟩
  obtain ⟨i, j, rfl, b, q⟩ := q
  obtain ⟨v1, v2, f1, f2, rfl, rfl, r1, r2⟩ := rr.two
  obtain ⟨rfl, rfl⟩ := r1.int
  obtain ⟨rfl, rfl⟩ := r2.int
  exact ⟨i, j, rfl, b, k _ H1 F1 ρ1 fp1 _ (by simpa using en) it_rng q⟩
/-- over a list, a tuple (what is walked is shared), a str -/
def wiIt (we : WE) : WI := fun ρ K => we ρ fun x ρ1 => (∃ d ds ρ2, fzR ρ1 x = some (d, ρ2) ∧ its d = some ds ∧ K ds ρ2) ∨ ∃ z, x = .str z ∧ K (z.cps.toList.map fun c => .str ⟨#[c]⟩) ρ1
def iAny (K : PySem.W.Frag) (te : TE) : TI := fun σ H R => te σ H fun v H1 => (∃ a, v = .ref a ∧ (∃ xs, SqL K H1 a xs) ∧ R (Itl K a) H1) ∨ (∃ a, v = .ref a ∧ (∃ xs, SqT K H1 a xs) ∧ R (Itt K a) H1) ∨ ∃ x, v = .str x ∧ R (Its x) H1
theorem fp_one {pins : List (Addr × Obj)} {s : Shared} (I : L2.Inv X pins σ H s) : ∀ b ∈ [s.heap.objs.size], FpOk X pins H b := fun b hb => by
  rw [List.mem_singleton.mp hb]
  exact I.fpOk (Nat.le_refl _) (I.hok.fresh (Nat.le_refl _))
theorem pi_any {tg e : Expr} {te : TE} (he : PE X e te) : PI X tg e (iAny X.K te) := ⟨fun pins s σ H R I h => by
  refine thn (he.run pins s σ H _ I h) fun v s1 ⟨x, H1, I1, r1, q1⟩ => ?_
  rcases q1 with ⟨a, rfl, hx, q⟩ | ⟨a, rfl, hx, q⟩ | ⟨z, rfl, q⟩
  · cases r1
    obtain ⟨xs, hx⟩ := hx
    obtain ⟨us, rv, pl, hz⟩ := I1.list hx
    exact wpAny_pyIter_list pl.isList ⟨_, [s1.heap.objs.size], _, Itl X.K a, H1, rfl, I1.kept (t' := s1.toks) (fun c u z => Heap.get?_push_of_some _ z), turn_list a _, ⟨_, Heap.get?_push_size _ rfl, rfl, rfl⟩, fp_one I1, q⟩
  · cases r1
    obtain ⟨xs, hx⟩ := hx
    obtain ⟨us, rv, pl, hz⟩ := I1.tuple hx
    exact wpAny_pyIter_tuple (items := us.toArray) pl ⟨_, [s1.heap.objs.size], _, Itt X.K a, H1, rfl, I1.kept (t' := s1.toks) (fun c u z => Heap.get?_push_of_some _ z), turn_tuple a _, ⟨_, Heap.get?_push_size _ rfl, rfl, rfl⟩, fp_one I1, q⟩
  · obtain ⟨t, rfl⟩ := r1
    cases ha : z.cps.all (· < 128) with
    | false => exact wpAny_pyIter_wide ha (pi_one (tk := s1.toks) I1 _ (turn_str _ z t "str_iterator" (Or.inr rfl)) ⟨_, Heap.get?_push_size _ rfl, rfl, rfl⟩ q)
    | true => exact wpAny_pyIter_ascii ha (pi_one (tk := s1.toks) I1 _ (turn_str _ z t "str_ascii_iterator" (Or.inl rfl)) ⟨_, Heap.get?_push_size _ rfl, rfl, rfl⟩ q)⟩
theorem F_keep {a : Addr} {o : HO} (s : Step F H fp F' H' fp') (hF : ∀ a ∈ fp, ¬ F a) (f : F a) (e : H a = some o) : H' a = some o := s.keep a o e (.inl fun z => hF a z f)
theorem it_list {a : Addr} {vs : List V} {ds : List D} (nf : ∀ a ∈ fp, ¬ F a) (e : H a = some (.lst vs)) (f : F a) (r : RpL G.K G.ca F H vs ds []) : ItOk G F H fp (Itl G.K a) ds where
  go := fun i d F' H' σ ρ fp' s ok ed => by
    have e' := F_keep s nf f e
    obtain ⟨w, ew, rp⟩ := (r.step s nf fun a z => nomatch z).at_ ed
    refine ⟨⟨vs, w, .of e', ew⟩, fun x H2 y => ?_⟩
    obtain ⟨rfl, y⟩ := y
    have := y vs (.of e')
    rw [ew] at this; cases this
    exact ⟨F', En.refl ok, rp⟩
  stop := fun F' H' σ ρ fp' s ok => ⟨vs, .of (F_keep s nf f e), by rw [r.length]; exact Nat.le_refl _⟩
theorem it_tup {a : Addr} {vs : List V} {ds : List D} (nf : ∀ a ∈ fp, ¬ F a) (e : SqT G.K H a vs) (r : RpL G.K G.ca F H vs ds []) : ItOk G F H fp (Itt G.K a) ds where
  go := fun i d F' H' σ ρ fp' s ok ed => by
    have e' := sqT_keep (fun a o e n => s.keep a o e (.inr n)) e
    obtain ⟨w, ew, rp⟩ := (r.step s nf fun a z => nomatch z).at_ ed
    refine ⟨⟨vs, w, e', ew⟩, fun x H2 y => ?_⟩
    obtain ⟨rfl, y⟩ := y
    have := y vs e'
    rw [ew] at this; cases this
    exact ⟨F', En.refl ok, rp⟩
  stop := fun F' H' σ ρ fp' s ok => ⟨vs, sqT_keep (fun a o e n => s.keep a o e (.inr n)) e, by rw [r.length]; exact Nat.le_refl _⟩
theorem it_str {z : Str} : ItOk G F H fp (Its z) (z.cps.toList.map fun c => D.str ⟨#[c]⟩) where
  go := fun i d F' H' σ ρ fp' s ok ed => by
    rw [List.getElem?_map] at ed
    cases q : z.cps.toList[i]? with
    | none => rw [q] at ed; cases ed
    | some c =>
      rw [q] at ed; cases ed
      have hi : i < z.cps.size := by
        have := (List.getElem?_eq_some_iff.mp q).1
        simpa using this
      refine ⟨hi, fun x H2 y => ?_⟩
      obtain ⟨rfl, c', ec, rfl⟩ := y
      have : some c' = some c := ec.symm.trans (by rw [← q]; simp)
      cases this
      exact ⟨F', En.refl ok, .str _⟩
  stop := fun F' H' σ ρ fp' s ok => by
    show z.cps.size ≤ _
    simp
theorem di_any {tg e : Expr} (hK : X.K = G.K) (he : PE X e (LE G we)) : PI X tg e (LW G (wiIt we)) := imI (pi_any he) fun σ H Q q => by
  obtain ⟨F, ρ, fp, Kd, ok, h, k⟩ := q
  refine ⟨F, ρ, fp, _, ok, h, fun v H1 F1 ρ1 fp1 x f1 en1 rr1 q => ?_⟩
  rw [hK]
  rcases q with ⟨d, ds, ρ2, e, e2, q⟩ | ⟨z, rfl, q⟩
  · obtain ⟨F2, fp2, s, rp⟩ := rr1.share en1.ok en1.nd (en1.hr ok) e
    have en := en1.share s
    obtain ⟨a, vs, rfl, rl, sq⟩ := rp.its e2
    rcases sq with ⟨sq, b, rfl⟩ | ⟨sq, rfl⟩
    · have hf : F2 a := by
        cases rp with
        | lfz _ f _ => exact f
      exact .inl ⟨a, rfl, ⟨vs, .of sq⟩, k _ H1 F2 ρ2 fp2 ds en (it_list en.ok.nf sq hf rl) q⟩
    · exact .inr (.inl ⟨a, rfl, ⟨vs, sq⟩, k _ H1 F2 ρ2 fp2 ds en (it_tup en.ok.nf sq rl) q⟩)
  · obtain ⟨rfl, rfl⟩ := rr1.str
    exact .inr (.inr ⟨z, rfl, k _ H1 F1 ρ1 fp1 _ en1 it_str q⟩)

/-! ### comprehensions -/
def wip : Sl → List Nat → Sl
  | ρ, [] => ρ
  | ρ, v :: vs => (wip ρ vs).set v none
/-- what stood there, where nothing of it was owned -/
def rst (ρ0 : Sl) : Sl → List Nat → Sl
  | ρ, [] => ρ
  | ρ, v :: vs => match ρ0[v]? with
    | some (some d) => if isOw d = true then rst ρ0 ρ vs else (rst ρ0 ρ vs).set v (some d)
    | _ => rst ρ0 ρ vs
theorem RpS.same (h : RpS K ca F H σ ρ fp) : ∀ {σ' : L2.St}, σ'.length = σ.length → (∀ j : Nat, (∃ d : D, ρ[j]? = some (some d)) → σ'[j]? = σ[j]?) → RpS K ca F H σ' ρ fp := by
  induction h with
  | nil => intro σ' hl _; cases σ' with
    | nil => exact .nil
    | cons _ _ => cases hl
  | @no x σ ρ fp h ih =>
    intro σ' hl he
    cases σ' with
    | nil => cases hl
    | cons y σ' => exact .no (ih (by simpa using hl) fun j ⟨d, hj⟩ => by simpa using he (j + 1) ⟨d, by simpa using hj⟩)
  | @has v d σ ρ fr fp r h ih =>
    intro σ' hl he
    cases σ' with
    | nil => cases hl
    | cons y σ' =>
      have e0 := he 0 ⟨d, rfl⟩
      simp at e0
      subst e0
      exact .has r (ih (by simpa using hl) fun j ⟨d, hj⟩ => by simpa using he (j + 1) ⟨d, by simpa using hj⟩)
theorem wip_len (ρ : Sl) : ∀ vs, (wip ρ vs).length = ρ.length
  | [] => rfl
  | v :: vs => by unfold wip; rw [List.length_set, wip_len ρ vs]
theorem wip_none (ρ : Sl) : ∀ {vs : List Nat} {j : Nat}, j ∈ vs → ∀ d, (wip ρ vs)[j]? ≠ some (some d)
  | v :: vs, j, h, d => by
    unfold wip
    by_cases hj : v = j
    · subst hj
      by_cases hl : v < (wip ρ vs).length
      · rw [List.getElem?_set_self hl]; simp
      · rw [List.getElem?_eq_none (by simpa using hl)]; simp
    · rw [List.getElem?_set_ne hj]
      rcases List.mem_cons.mp h with z | z
      · exact absurd z.symm hj
      · exact wip_none ρ z d
theorem wipe_off (σ : L2.St) : ∀ {vs : List Nat} {j : Nat}, j ∉ vs → (wipe σ vs)[j]? = σ[j]?
  | [], j, _ => rfl
  | v :: vs, j, h => by
    unfold wipe
    rw [List.getElem?_set_ne (fun e => h (by simp [e]))]
    exact wipe_off σ fun z => h (List.mem_cons_of_mem _ z)
theorem wipe_on (σ : L2.St) : ∀ {vs : List Nat} {j : Nat}, j ∈ vs → j < σ.length → (wipe σ vs)[j]? = some none
  | v :: vs, j, h, hl => by
    unfold wipe
    by_cases hj : v = j
    · subst hj
      rw [List.getElem?_set_self (by rw [wipe_length]; exact hl)]
    · rw [List.getElem?_set_ne hj]
      rcases List.mem_cons.mp h with z | z
      · exact absurd z.symm hj
      · exact wipe_on σ z hl
theorem wipe_eq {σ σ' : L2.St} {vs S : List Nat} (h : Off S σ σ') (hs : ∀ j ∈ S, j ∈ vs) : wipe σ' vs = wipe σ vs := by
  apply List.ext_getElem?
  intro j
  by_cases hj : j ∈ vs
  · by_cases hl : j < σ.length
    · rw [wipe_on σ hj hl, wipe_on σ' hj (by rw [h.len]; exact hl)]
    · rw [List.getElem?_eq_none (l := wipe σ' vs) (by rw [wipe_length, h.len]; omega), List.getElem?_eq_none (by rw [wipe_length]; omega)]
  · rw [wipe_off σ hj, wipe_off σ' hj]
    exact h.at_ j fun z => hj (hs j z)
theorem wipe_wipe (σ : L2.St) (vs : List Nat) : wipe (wipe σ vs) vs = wipe σ vs := wipe_eq (S := vs) ⟨by rw [wipe_length], fun j hj => wipe_off σ hj⟩ fun _ z => z
/-- the slots vs are emptied -/
theorem Ok.wip (ok : Ok G F H σ ρ fp) : ∀ vs : List Nat, ∃ fp', Ok G F H σ (M.wip ρ vs) fp' ∧ ∀ a ∈ fp', a ∈ fp
  | [] => ⟨fp, ok, fun _ z => z⟩
  | v :: vs => by
    obtain ⟨fp1, ok1, s1⟩ := ok.wip vs
    by_cases hv : v < (M.wip ρ vs).length
    · obtain ⟨l, fs, r, e1, _, _, g3, _⟩ := ok1.rs.at_ hv
      have nd2 := ok1.nd
      rw [e1] at nd2
      have hσ : v < σ.length := by rw [ok1.rs.length]; exact hv
      have q := g3 (σ[v]'hσ)
      rw [set_get (by simp [hσ])] at q
      exact ⟨l ++ r, ⟨q, nodup_of (nodup_l (nodup_l nd2)) (nodup_r nd2) fun x z y => nodup_d nd2 x (List.mem_append_left _ z) y, ok1.dom, ok1.pm, ok1.rch.less fun a z => by rw [e1]; rcases List.mem_append.mp z with w | w <;> simp [w]⟩, fun a z => s1 a (by rw [e1]; rcases List.mem_append.mp z with w | w <;> simp [w])⟩
    · have : M.wip ρ (v :: vs) = M.wip ρ vs := by
        show (M.wip ρ vs).set v none = _
        exact List.set_eq_of_length_le (by omega)
      rw [this]
      exact ⟨fp1, ok1, s1⟩
/-- .. and the values there do not matter -/
theorem Ok.off {vs : List Nat} (ok : Ok G F H σ (M.wip ρ vs) fp) (h : Off vs σ σ') (hpm : ∀ p ∈ G.pm, p.1 ∉ vs) : Ok G F H σ' (M.wip ρ vs) fp :=
  ⟨ok.rs.same h.len fun j ⟨d, hd⟩ => h.at_ j fun z => wip_none ρ z d hd, ok.nd, ok.dom, (fun p hp => by rw [h.at_ p.1 (hpm p hp)]; exact ok.pm p hp), ok.rch⟩
def wLc (wi : WI) (g : WG) (wt : WT) (we : WE) (vs : List Nat) : WE := fun ρ Q => wi ρ fun ds ρ1 => ∃ I : Nat → List D → Sl → Prop, I 0 [] (wip ρ1 vs) ∧
  (∀ i d acc ρ, ds[i]? = some d → I i acc ρ → g d ρ fun ρ2 => wt ρ2 fun b ρ3 => if b = true then we ρ3 fun r ρ4 => ∃ y ρ5, fzR ρ4 r = some (y, ρ5) ∧ acc.length < sizeLine ∧ I (i + 1) (acc ++ [y]) (wip ρ5 vs) else I (i + 1) acc (wip ρ3 vs)) ∧
  ∀ acc ρ, I ds.length acc ρ → Q (.lst true acc) (rst ρ1 ρ vs)
def wYes : WT := fun ρ Q => Q true ρ
theorem dpt_nil : PTs X [] (LT G wYes) := ⟨fun pins s σ H Q I hw => by
  obtain ⟨F, ρ, fp, Qd, ok, h, k⟩ := hw
  exact pts_nil.run pins s σ H Q I (k true H F ρ fp (En.refl ok) h)⟩
theorem dpt_one {c : Expr} {t : WT} (h : PT X c (LT G t)) : PTs X [c] (LT G t) := pts_one h
theorem En.ofStep (s : Step F H fp F' H' fp') (ok : Ok G F' H' σ ρ' fp') : En G F H fp σ F' H' ρ' fp' [] := ⟨s, ok, by simpa using ok.nd⟩
/-- a slot's value is known again -/
theorem Ok.put {i : Nat} (ok : Ok G F H σ ρ fp) (hpm : ∀ p ∈ G.pm, p.1 ≠ i) (e : σ[i]? = some (some v)) (rp : Rp G.K G.ca F H v d []) : ∃ fp', Ok G F H σ (ρ.set i (some d)) fp' ∧ ∀ a ∈ fp', a ∈ fp := by
  obtain ⟨fp', ok', sub⟩ := ok.setV (i := i) (by rw [← ok.rs.length]; exact (List.getElem?_eq_some_iff.mp e).1) hpm rp (fun a z => nomatch z) (by simp) (fun a z => nomatch z)
  rw [set_get e] at ok'
  exact ⟨fp', ok', fun a z => by simpa using sub a z⟩
theorem Ok.rst (ok1 : Ok G F1 H1 σ ρ1 fp1) (s : Step F1 H1 fp1 F H fp2) (ok : Ok G F H σ ρ fp) : ∀ vs : List Nat, (∀ p ∈ G.pm, p.1 ∉ vs) → ∃ fp', Ok G F H σ (M.rst ρ1 ρ vs) fp' ∧ ∀ a ∈ fp', a ∈ fp
  | [], _ => ⟨fp, ok, fun _ z => z⟩
  | v :: vs, hpm => by
    obtain ⟨fp3, ok3, sub3⟩ := Ok.rst ok1 s ok vs fun p hp z => hpm p hp (List.mem_cons_of_mem _ z)
    unfold M.rst
    split
    · rename_i d e
      split
      · exact ⟨fp3, ok3, sub3⟩
      · rename_i ho
        obtain ⟨l, fs, r, e1, g1, _, _, _⟩ := ok1.rs.at_ (i := v) (by rw [List.getElem?_eq_some_iff] at e; exact e.1)
        obtain ⟨w, ew, rp⟩ := g1 d e
        have ef := rp.free (by simpa using ho)
        subst ef
        obtain ⟨fp4, ok4, sub4⟩ := ok3.put (fun p hp z => hpm p hp (by simp [z])) ew (rp.step s ok1.nf fun a z => nomatch z)
        exact ⟨fp4, ok4, fun a z => sub3 a (sub4 a z)⟩
    · exact ⟨fp3, ok3, sub3⟩
/-- a new object that no slot has stays as it is through a step -/
theorem Step.apart {q : Addr} {u : HO} (s : Step F H fp F' H' fp') (e : H q = some u) (nF : ¬ F q) (nf : q ∉ fp) : H' q = some u ∧ ¬ F' q ∧ q ∉ fp' := by
  refine ⟨s.keep q u e (.inl nf), fun f => ?_, fun z => ?_⟩
  · rcases s.new q f with z | z | z
    · exact nF z
    · exact nf z
    · rw [e] at z; cases z
  · rcases s.fps q z with w | w
    · exact nf w
    · rw [e] at w; cases w
theorem le_lc {wi : WI} {g : WG} {S : List Nat} {wt : WT} {vs : List Nat} (hS : ∀ j ∈ S, j ∈ vs) (hpm : ∀ p ∈ G.pm, p.1 ∉ vs) : ∀ σ H Q, LE G (wLc wi g wt we vs) σ H Q → tLc (LW G wi) (LG G g S) (LT G wt) (LE G we) vs σ H Q := fun σ H Q q => by
  obtain ⟨F, ρ, fp, Qd, ok, h, k⟩ := q
  refine ⟨F, ρ, fp, _, ok, h, fun J H1 F1 ρ1 fp1 ds en it q => ?_⟩
  obtain ⟨I, i0, turn, done⟩ := q
  intro q hq
  have oF : Off vs σ (wipe σ vs) := ⟨by rw [wipe_length], fun j hj => wipe_off σ hj⟩
  have oB : Off vs (wipe σ vs) σ := ⟨by rw [wipe_length], fun j hj => (wipe_off σ hj).symm⟩
  refine ⟨fun i m H' => m = ds.length - i ∧ i ≤ ds.length ∧ ∃ F' ρ' fp' acc us, Step F1 H1 fp1 F' H' (q :: fp') ∧ Ok G F' H' σ (wip ρ' vs) fp' ∧ H' q = some (.lst us) ∧ RpL G.K G.ca F' H' us acc [] ∧ ¬ F' q ∧ q ∉ fp' ∧ I i acc (wip ρ' vs), ?_, ?_⟩
  · obtain ⟨fp2, ok2, sub⟩ := en.ok.wip vs
    have nn := en.ok.not_none hq
    refine ⟨_, rfl, Nat.zero_le _, F1, ρ1, fp2, [], [], ?_, ok2.new hq, upd_same, .nil, nn.1, fun z => nn.2 (sub q z), i0⟩
    have := (En.own (o := .lst []) en.ok hq).st
    exact this.less fun a z => by
      rcases List.mem_cons.mp z with z | z
      · simp [z]
      · simp [sub a z]
  · rintro i m H2 ⟨rfl, hi, F2, ρ2, fp2, acc, us, s2, ok2, eq, rl, nF, nf, inv⟩
    have s2' : Step F1 H1 fp1 F2 H2 fp2 := s2.less fun a z => List.mem_cons_of_mem _ z
    by_cases hlt : i < ds.length
    · obtain ⟨go, yl⟩ := it.go i ds[i] F2 H2 σ (wip ρ2 vs) fp2 s2' ok2 (by simp [hlt])
      refine .inr ⟨go, fun H' => ∃ F' ρ' fp' acc us, Step F1 H1 fp1 F' H' (q :: fp') ∧ Ok G F' H' σ (wip ρ' vs) fp' ∧ H' q = some (.lst us) ∧ RpL G.K G.ca F' H' us acc [] ∧ ¬ F' q ∧ q ∉ fp' ∧ I (i + 1) acc (wip ρ' vs), fun H' z => ⟨_, by omega, rfl, hlt, z⟩, fun x H3 y => ?_⟩
      obtain ⟨F3, en3, rp⟩ := yl x H3 y
      refine ⟨F3, wip ρ2 vs, fp2, ds[i], [], _, en3.ok.off oF hpm, .inl rp, ⟨by simpa using en3.ok.nd, fun a z => nomatch z⟩, turn i ds[i] acc (wip ρ2 vs) (by simp [hlt]) inv, fun σ4 H4 F4 ρ4 fp4 s4 ok4 of4 q4 => ?_⟩
      refine ⟨by rw [wipe_eq of4 hS, wipe_wipe], F4, ρ4, fp4, _, ok4, q4, fun b H5 F5 ρ5 fp5 en5 q5 => ?_⟩
      have sA : Step F2 H2 fp2 F5 H5 fp5 := (en3.st0.trans s4).trans en5.st0
      have oBk : Off vs σ4 σ := ⟨by rw [of4.len, wipe_length], fun j hj => by rw [of4.at_ j fun z => hj (hS j z), wipe_off σ hj]⟩
      have sB : Step F1 H1 fp1 F5 H5 (q :: fp5) := by
        have t := s2'.trans sA
        refine ⟨t.mono, t.new, t.keep, t.there, fun a z => ?_⟩
        rcases List.mem_cons.mp z with z | z
        · rw [z]; exact .inr hq
        · exact t.fps a z
      obtain ⟨e5, nF5, nf5⟩ := sA.apart eq nF nf
      cases b with
      | false =>
        obtain ⟨fp6, ok6, sub6⟩ := en5.ok.wip vs
        refine ⟨F5, ρ5, fp6, acc, us, sB.less fun a z => ?_, ok6.off oBk hpm, e5, rl.step sA ok2.nf (fun a z => nomatch z), nF5, fun z => nf5 (sub6 q z), q5⟩
        rcases List.mem_cons.mp z with z | z
        · simp [z]
        · simp [sub6 a z]
      | true =>
        refine ⟨F5, ρ5, fp5, _, en5.ok, q5, fun v H6 F6 ρ6 fp6 r fr6 en6 rr6 q6 => ?_⟩
        obtain ⟨y, ρ7, e7, z7, q7⟩ := q6
        obtain ⟨F7, fp7, s7, rp7⟩ := rr6.share en6.ok en6.nd (en6.hr en5.ok) e7
        have sC : Step F2 H2 fp2 F7 H6 fp7 := sA.trans (en6.st.trans s7.step)
        obtain ⟨e8, nF8, nf8⟩ := sC.apart eq nF nf
        obtain ⟨fp8, ok8, sub8⟩ := s7.ok.wip vs
        refine ⟨us, e8, by rw [rl.length]; exact z7, F7, ρ7, fp8, acc ++ [y], us ++ [v], ?_, ?_, upd_same, ?_, nF8, fun z => nf8 (sub8 q z), q7⟩
        · have t := s2'.trans sC
          refine ⟨t.mono, t.new, fun a o eo c => ?_, fun a o eo => ?_, fun a z => ?_⟩
          · rw [upd_ne (ne_of_none eo hq)]; exact t.keep a o eo c
          · obtain ⟨o', e'⟩ := t.there a o eo
            exact ⟨o', by rw [upd_ne (ne_of_none eo hq)]; exact e'⟩
          · rcases List.mem_cons.mp z with z | z
            · rw [z]; exact .inr hq
            · exact t.fps a (sub8 a z)
        · have ok9 : Ok G F7 H6 σ (wip ρ7 vs) fp8 := ok8.off oBk hpm
          refine ok9.step (fq := [q]) (fq' := [q]) ⟨fun _ z => z, fun _ z => .inl z, fun a o eo c => ?_, fun a o eo => ?_, fun _ z => .inl z⟩ (fun a z => by rw [List.mem_singleton.mp z]; exact nF8) (fun a z w => nf8 (sub8 q (by rw [← List.mem_singleton.mp w]; exact z))) (fun a f => ?_) ?_
          · by_cases ha : a = q
            · subst ha
              rcases c with c | c
              · exact absurd List.mem_cons_self c
              · rw [e8] at eo; cases eo; exact absurd trivial c
            · rw [upd_ne ha]; exact eo
          · by_cases ha : a = q
            · exact ⟨_, by rw [ha]; exact upd_same⟩
            · exact ⟨o, by rw [upd_ne ha]; exact eo⟩
          · obtain ⟨o, eo⟩ := ok9.dom a f
            by_cases ha : a = q
            · exact ⟨_, by rw [ha]; exact upd_same⟩
            · exact ⟨o, by rw [upd_ne ha]; exact eo⟩
          · have t := (en.ok.rch.trans (s2'.trans sC)).less sub8
            have h0 := en.ok.rch.none_of hq
            exact ⟨t.mono, t.new, fun a o eo c => by rw [upd_ne (ne_of_none eo h0)]; exact t.keep a o eo c, fun a o eo => by
              obtain ⟨o', e'⟩ := t.there a o eo
              exact ⟨o', by rw [upd_ne (ne_of_none eo h0)]; exact e'⟩, t.fps⟩
        · exact (((rl.step sC ok2.nf fun a z => nomatch z).app (.one rp7))).mut e8 trivial nF8
    · have e : i = ds.length := by omega
      subst e
      refine .inl ⟨it.stop F2 H2 σ (wip ρ2 vs) fp2 s2' ok2, ?_⟩
      obtain ⟨fp3, ok3, sub3⟩ := Ok.rst en.ok s2' ok2 vs hpm
      refine k (.ref q) H2 F2 (rst ρ1 (wip ρ2 vs) vs) fp3 (.lst true acc) [q] ⟨en.st0.trans (s2.less fun a z => ?_), ok3, nodup_of (by simp) ok3.nd fun a z w => nf (by rw [← List.mem_singleton.mp z]; exact sub3 a w)⟩ (.inl (.low eq nF rl)) (done acc _ inv)
      rcases List.mem_append.mp z with z | z
      · simp [List.mem_singleton.mp z]
      · simp [sub3 a z]
theorem d_lc {elt tg iter : Expr} {ifs : List Expr} {scope : Scope} {own : List (Str × Nat)} {wi : WI} {g : WG} {S : List Nat} {wt : WT} (hc : X.calm = true) (hN : X.N.Nodup) (hi : PI X tg iter (LW G wi)) (ok : BlkOk X.N X.env.scope scope own)
    (hg : ∀ (s : Shared) (H : Hp) (C : Addr) (cl : List (Str × Addr)) (fp : List Addr), PG (X.blk s H scope (compEnvC scope cl C X.env) fp) tg (LG G g S)) (ht : ∀ (s : Shared) (H : Hp) (C : Addr) (cl : List (Str × Addr)) (fp : List Addr), PTs (X.blk s H scope (compEnvC scope cl C X.env) fp) ifs (LT G wt))
    (he : ∀ (s : Shared) (H : Hp) (C : Addr) (cl : List (Str × Addr)) (fp : List Addr), PE (X.blk s H scope (compEnvC scope cl C X.env) fp) elt (LE G we)) (hS : ∀ j ∈ S, j ∈ own.map (·.2)) (hpm : ∀ p ∈ G.pm, p.1 ∉ own.map (·.2)) (hs : ∀ x, foldedSetIterable iter X.env x = pure x := by intro _; rfl) :
    PE X (.ListComp elt [⟨tg, iter, ifs, 0⟩] scope pos) (LE G (wLc wi g wt we (own.map (·.2)))) := imE (pe_lc hc hN hi ok hg ht he hs) (le_lc hS hpm)
/-- x = [..] on one line, x a local -/
theorem ds_lc {i : Nat} {y : Str} {py spos : Pos} {elt tg iter : Expr} {ifs : List Expr} {scope : Scope} {own : List (Str × Nat)} {wi : WI} {g gy : WG} {S : List Nat} {wt : WT} (hc : X.calm = true) (hN : X.N.Nodup) (hy : X.N[i]? = some y) (hyl : X.env.scope.names.lookup y = some .local) (hgy : ∀ v σ H Q, LG G gy [i] v σ H Q → gName i v σ H Q)
    (hsw : swapsWith (.ListComp elt [⟨tg, iter, ifs, 0⟩] scope pos) (some (.Name y py)) spos.line X.env = pure true) (hi : PI X tg iter (LW G wi)) (ok : BlkOk X.N X.env.scope scope own)
    (hg : ∀ (s : Shared) (H : Hp) (C : Addr) (cl : List (Str × Addr)) (fp : List Addr), PG (X.blk s H scope (compEnvC scope cl C X.env) fp) tg (LG G g S)) (ht : ∀ (s : Shared) (H : Hp) (C : Addr) (cl : List (Str × Addr)) (fp : List Addr), PTs (X.blk s H scope (compEnvC scope cl C X.env) fp) ifs (LT G wt))
    (he : ∀ (s : Shared) (H : Hp) (C : Addr) (cl : List (Str × Addr)) (fp : List Addr), PE (X.blk s H scope (compEnvC scope cl C X.env) fp) elt (LE G we)) (hS : ∀ j ∈ S, j ∈ own.map (·.2)) (hpm : ∀ p ∈ G.pm, p.1 ∉ own.map (·.2)) (hs : ∀ x, foldedSetIterable iter X.env x = pure x := by intro _; rfl) :
    PS X (.Assign [.Name y py] (.ListComp elt [⟨tg, iter, ifs, 0⟩] scope pos) spos) (LS G (wAsg (wLc wi g wt we (own.map (·.2))) gy)) := imS (ps_setLc hc hN hy hyl hsw hi ok hg ht he hs) fun D σ H q => by
  obtain ⟨F, ρ, fp, Dd, ok, h, k⟩ := q
  refine le_lc hS hpm σ H _ ⟨F, ρ, fp, _, ok, h, fun v H1 F1 ρ1 fp1 r fr en rr q => ?_⟩
  exact hgy v σ H1 _ ⟨F1, ρ1, fp1, r, fr, Dd.nx, en.ok, rr, ⟨en.nd, en.hr ok⟩, q, fun σ' H' F' ρ' fp' s ok' _ q' => k.nx σ' H' F' ρ' fp' (en.st.trans s) ok' q'⟩

/-! ### xs[i] = e, xs a list that a slot owns -/
def gSet (wo wi : WE) : WG := fun r ρ Q => wo ρ fun o ρ1 => wi ρ1 fun i ρ2 => ∃ j n xs k d ρ3, o = .sl j ∧ i = .int n ∧ fzR ρ2 r = some (d, ρ3) ∧ ρ3[j]? = some (some (.lst true xs)) ∧ ixN xs.length n = some k ∧ Q (ρ3.set j (some (.lst true (xs.set k d))))
theorem off_refl {S : List Nat} : Off S σ σ := ⟨rfl, fun _ _ => rfl⟩
theorem dg_set {o i : Expr} {wo wi : WE} (hg : PG X (.Subscript o i pos) (gSub (LE G wo) (LE G wi) rSetL)) : PG X (.Subscript o i pos) (LG G (gSet wo wi) []) := imG hg fun v σ H Q q => by
  obtain ⟨F, ρ, fp, r, fr, Qd, ok, rr, ⟨nd, hr⟩, h, k⟩ := q
  refine ⟨F, ρ, fp, _, ok, h, fun vo H1 F1 ρ1 fp1 o f1 en1 ro q => ?_⟩
  refine ⟨F1, ρ1, fp1, _, en1.ok, q, fun vi H2 F2 ρ2 fp2 i f2 en2 ri q => ?_⟩
  obtain ⟨j, n, xs, kk, d, ρ3, rfl, rfl, e3, e4, ek, q⟩ := q
  obtain ⟨hσ, rfl⟩ := ro.sl
  obtain ⟨rfl, rfl⟩ := ri.int
  have st : Step F H fp F2 H2 fp2 := en1.st0.trans en2.st0
  have rr2 := rr.step st ok.nf (nodup_d nd)
  have nd2 : (fr ++ fp2).Nodup := nodup_of (nodup_l nd) en2.ok.nd fun a z y => by
    rcases st.fps a y with w | w
    · exact nodup_d nd a z w
    · obtain ⟨u, eu⟩ := rr.dom a z
      rw [eu] at w; cases w
  obtain ⟨F3, fp3, s3, rp⟩ := rr2.share en2.ok nd2 hr e3
  obtain ⟨a, us, rfl, ha, rl, nF, _⟩ := s3.ok.own hσ e4
  obtain ⟨fp4, en4⟩ := s3.ok.setL (fr := []) e4 hσ ha nF (rl.set rp kk)
  refine ⟨a, us, n, kk, rfl, rfl, ha, by rw [rl.length]; exact ek, k σ _ F3 _ fp4 ?_ en4.ok off_refl q⟩
  have s1 : Step F H (fr ++ fp) F2 H2 (fr ++ fp2) := st.frame fr
  have s4 : Step F3 H2 fp3 F3 (upd H2 a (.lst (us.set kk v))) fp4 := by simpa using en4.st
  exact s1.trans (s3.step.trans s4)
theorem gFz_name {i : Nat} (hpm : ∀ p ∈ G.pm, p.1 ≠ i) : ∀ v σ H Q, LG G (gFz i) [i] v σ H Q → i < σ.length → gName i v σ H Q := fun v σ H Q q hi => by
  obtain ⟨F, ρ, fp, r, fr, Qd, ok, rr, ⟨nd, hr⟩, ⟨d, ρ1, e, q⟩, k⟩ := q
  obtain ⟨F1, fp1, s1, rp⟩ := rr.share ok nd hr e
  obtain ⟨fp2, ok2, sub⟩ := s1.ok.setV (i := i) (by rw [fz_len e, ← ok.rs.length]; exact hi) hpm rp (fun a z => nomatch z) (by simp) (fun a z => nomatch z)
  exact k _ H F1 _ fp2 (s1.step.less sub) ok2 off_set q
end
end M
/-! MG: defs that may ask for a repr: their promise holds where no repr is under way. -/
namespace M
open PySem PySem.Spec PyProof.Rows L2

structure RoomG (k : Nat) (A : Around) : Prop where
  rm : Room k A
  gd : A.guards = some []
theorem RoomG.mono {j k : Nat} {A : Around} (r : RoomG k A) (h : j ≤ k) : RoomG j A := ⟨r.rm.mono h, r.gd⟩
theorem RoomG.deeper {k : Nat} {A : Around} (r : RoomG (k + 1) A) (env : Env) : RoomG k (A.deeper env) := ⟨r.rm.deeper env, r.gd⟩
theorem RoomG.in1 {k : Nat} {A : Around} (r : RoomG (k + 1) A) : RoomG k A.in1 := ⟨r.rm.in1, r.gd⟩
theorem RoomG.make {k : Nat} {A : Around} (r : RoomG (k + 1) A) (C : Addr) (us : List Value) (kw : List (Str × Value)) : RoomG k (A.under (.builtin "type.__call__" ⟨.ref C :: us, kw⟩)) :=
  ⟨r.rm.make C us kw, by
    have : (A.under (.builtin "type.__call__" ⟨.ref C :: us, kw⟩)).guards = A.guards := by
      first | rfl | simp [Around.under, pushGuards, Code.guards, Code.isGuard, guardIds]
    rw [this]; exact r.gd⟩
structure FnG (P : Program) (w : World) (K : PySem.W.Frag) (mg : Str → Option Value) (base : Heap) (CX : CXT) (k : Nat) (f : Addr) (fd : FuncData) (ps : List Str) (sp : Sp) : Prop where
  len : ∀ vs H Q E, sp vs H Q E → vs.length = ps.length
  run : ∀ (A : Around) (outer : List Env) (s : Shared) (H : Hp) (args : Args) (us : List Value) (vs : List V) (Q : VK) (E : XK), RoomG k A → Env0 P w K mg base A outer s H → BindsTo s fd args (ps.zip us) → Vals vs us → sp vs H Q E → codeAny (model P w) A (.call (.ref f) args) (CR CX outer P w H s Q E) s
theorem FnG.mono {P : Program} {w : World} {K : PySem.W.Frag} {mg : Str → Option Value} {base : Heap} {CX : CXT} {j k : Nat} {f : Addr} {fd : FuncData} {ps : List Str} {sp : Sp} (F : FnG P w K mg base CX j f fd ps sp) (h : j ≤ k) : FnG P w K mg base CX k f fd ps sp :=
  ⟨F.len, fun A outer s H args us vs Q E hr => F.run A outer s H args us vs Q E (hr.mono h)⟩
/-- what a call's end says, by its result -/
theorem cr_ends {CX : CXT} {outer : List Env} {P : Program} {w : World} {H : Hp} {s s' : Shared} {Q : VK} {E : XK} {r : Result} (h : CR CX outer P w H s Q E r s') : (∃ u, r = .ok (.ret u) ∧ CE outer P w H s Q u s') ∨ ∃ e, r = .error e ∧ CX outer H s E e s' := by
  match r, h with
  | .error e, h => exact .inr ⟨e, rfl, h⟩
  | .ok (.ret u), h => exact .inl ⟨u, rfl, h⟩
  | .ok .next, h => exact h.elim
  | .ok .brk, h => exact h.elim
  | .ok .cont, h => exact h.elim
/-- a def by its body -/
theorem fnG_of {CX : CXT} {P : Program} {w : World} {K : PySem.W.Frag} {mg : Str → Option Value} {base : Heap} {k : Nat} {x qual : Str} {params : Arguments} {body : List Stmt} {scope : Scope} {dvs : List V} {kws : List (Str × V)} {f : Addr} {fd : FuncData} {N ps : List Str} {sp : Sp}
    (FD : FunD K x qual params body scope dvs kws f fd) (S : FnScope N ps scope) (len : ∀ vs H Q E, sp vs H Q E → vs.length = ps.length)
    (hbody : ∀ (cdv : Value) (A : Around) (outer : List Env) (s : Shared) (H : Hp) (vs : List V) (Q : VK) (E : XK), RoomG k (A.deeper (envOfC qual scope s.heap.objs.size f cdv)) → sp vs H Q E → ∃ t, PSs (cxOf CX P w K mg base N qual scope f cdv A outer s H E) body t ∧ t { nx := fun _ H' => Q .non H', rt := Q } (L2.start N vs) H) :
    FnG P w K mg base CX (k + 1) f fd ps sp := by
  obtain ⟨oc, od, dV, kV, doc, pm, an, cdv, ct, osl, rfl, lk, hcd, _, _⟩ := FD.ex
  refine ⟨len, fun A outer s H args us vs Q E hr e0 hb rv hsp => ?_⟩
  have up : ∀ b o, base.get? b = some o → s.heap.get? b = some o := fun b o e => (e0.bs b o e).1
  have KX : K.In s.heap := e0.mod.kin.keeps up
  have kinds : ∀ y ∈ ps.zip us, scope.names.lookup y.1 = some .local ∨ (scope.names.lookup y.1 = some .cell ∧ ((cellsFrom (s.heap.objs.size + 1) scope.names []).lookup y.1).isSome = true) := by
    rintro ⟨n, v⟩ hy
    exact (S.par n (List.of_mem_zip hy).1).imp id fun q => ⟨q, PySem.W.cellsFrom_some _ _ _ (.inl q)⟩
  refine codeAny_call_function hr.rm.depth (KX _ _ lk) rfl S.co S.gen rfl (PySem.W.codeRec_of KX hcd) (hb _ _ _ _ (wpAny_newFunctionEnv_cells S.kind kinds fun env he s1 x => ?_))
  subst he
  refine ⟨(e0.mod.nolimit.keeps up).keeps x.toInCall.keep, codeAny_func ?_⟩
  obtain ⟨t, ht, hq⟩ := hbody cdv A outer s H vs Q E (hr.deeper _) hsp
  refine wpAny_mono (ht.run [] s1 (L2.start N vs) H _ (inv_start S hr.rm.hd e0 (len _ _ _ _ hsp) rv x) hq) (fun fl s' hs => ?_) fun e s' hs => hs
  match fl, hs with
  | .ret u, ⟨v, σ', H', J, ru, q⟩ => exact ⟨v, H', J.os, J.bare, J.base, J.hok, ru, q⟩
  | .next, ⟨σ', H', J, q⟩ => exact ⟨V.non, H', J.os, J.bare, J.base, J.hok, rfl, q⟩
  | .brk, ⟨_, _, _, q⟩ => exact q.elim
  | .cont, ⟨_, _, _, q⟩ => exact q.elim

section
variable {X : Cx} {CX : CXT} {k n : Nat} {f C : Addr} {fd : FuncData} {ps ks : List Str} {sp : Sp} {dvs : List V} {ds : List Value} {x m : Str} {p pos apos : Pos} {e o : Expr} {es : List Expr} {kws : List Keyword} {t tk ta' : TA} {ta : TE} {g : List Value → List Value → List Value} {gV : List V → List V → List V}
/-- a def runs at any place with room -/
theorem runG {E : L2.St → XK} {A' : Around} {pins : List (Addr × Obj)} {σ : L2.St} {H : Hp} {s : Shared} {Q : VK} {args : Args} {us : List Value} {vs : List V} (F : FnG X.prog X.w X.K X.mg X.base CX k f fd ps sp) (hr : RoomG k A') (h0 : Env0 X.prog X.w X.K X.mg X.base A' X.stack s H) (hx : PassesAt CX X σ (E σ))
    (I : Inv X pins σ H s) (hb : BindsTo s fd args (ps.zip us)) (rv : Vals vs us) (h : sp vs H Q (E σ)) : codeAny (model X.prog X.w) A' (.call (.ref f) args) (wants (EP X pins σ Q) X.xe) s :=
  codeAny_mono (F.run A' X.stack s H args us vs Q (E σ) hr h0 hb rv h) fun q s' hq => by
    rcases cr_ends hq with ⟨u, rfl, z⟩ | ⟨er, rfl, z⟩
    · exact I.after z
    · exact hx pins H s er s' I z
theorem run_posG {E : L2.St → XK} {A' : Around} {pins : List (Addr × Obj)} {σ : L2.St} {H : Hp} {s : Shared} {Q : VK} {us : List Value} {vs : List V} (F : FnG X.prog X.w X.K X.mg X.base CX k f fd ps sp) (hr : RoomG k A') (h0 : Env0 X.prog X.w X.K X.mg X.base A' X.stack s H) (hb : Binds X.K fd ps ds) (hd : Vals dvs ds) (hx : PassesAt CX X σ (E σ))
    (I : Inv X pins σ H s) (rv : Vals vs us) (h : sp (vs ++ dvs) H Q (E σ)) : wpAny (model X.prog X.w) A' (call (.ref f) us) (EP X pins σ Q) X.xe s :=
  wpAny_call (runG F hr h0 hx I (hb s us I.kIn ((rv.append hd).length.symm.trans (F.len _ _ _ _ h))) (rv.append hd) h)
theorem pe_callG {E : L2.St → XK} (F : FnG X.prog X.w X.K X.mg X.base CX k f fd ps sp) (hr : RoomG k X.A) (hg : Gl X x) (hm : X.mg x = some (.ref f)) (hk : PySem.W.keepIn X.K (.ref f) = true) (hb : Binds X.K fd ps ds) (hd : Vals dvs ds) (hx : ∀ σ, PassesAt CX X σ (E σ)) (ha : PA X (e :: es) t)
    (hdb : (x == ("__debug__" : Str)) = false := by decide) (he : starEach (e :: es) X.env = (false, eval e X.env) :: starEach es X.env := by rfl) (hpl : (backTo pos (starEach es X.env)).any (·.1) = false := by rfl) : PE X (.Call (.Name x p) (e :: es) [] pos) (tCallSD sp dvs E t) :=
  ⟨fun pins s σ H Q I h => wpAny_Call_Name_kw (ld_glob I hg hm (PySem.W.callWith_K (h₀ := X.base) I.ok.mod.kin hk (thn (ha.run pos pins s σ H _ I h) fun us s1 ⟨vs, H1, I1, r, q⟩ => ⟨I1.kIn, run_posG F hr I1.env0 hb hd (hx σ) I1 r q⟩) he hpl) hdb)⟩
/-- how o.m(.., k = v) runs, on one row -/
abbrev MRunK (X : Cx) (o : Expr) (m : Str) (es : List Expr) (kws : List Keyword) (apos pos : Pos) (pl : Sem Bool) : Prop := eval (.Call (.Attribute o m apos) es kws pos) X.env = (eval o X.env >>= fun ov => standAt apos.atName >>= fun _ => holding [ov] (getMethod ov m pl) >>= fun q => callWith pos q.1 q.2 (backTo pos (starEach es X.env)) (backToKw pos (keywordEach kws X.env)))
def tMethS (C : Addr) (m : Str) (sp : Sp) (dvs : List V) (E : L2.St → XK) (ta : TE) (t : TA) : TE := fun σ H Q => ta σ H fun x H1 => ∃ a dx fs, x = .ref a ∧ H1 a = some (.ins C dx fs) ∧ fs.lookup m = none ∧ t σ H1 fun vs H2 => sp (x :: (vs ++ dvs)) H2 Q (E σ)
theorem pe_methG {E : L2.St → XK} {pl : Sem Bool} (he : PE X o ta) (c : Cls X.K C) (hm : L2.Meth X.K C m f) (F : FnG X.prog X.w X.K X.mg X.base CX k f fd ps sp) (hr : RoomG k X.A) (hb : Binds X.K fd ps ds) (hd : Vals dvs ds) (hx : ∀ σ, PassesAt CX X σ (E σ)) (ha : PA X (e :: es) t)
    (hst : starEach (e :: es) X.env = (false, eval e X.env) :: starEach es X.env := by rfl) (hpl : (backTo pos (starEach es X.env)).any (·.1) = false := by rfl) (ht : MRunK X o m (e :: es) [] apos pos pl := by rfl) : PE X (.Call (.Attribute o m apos) (e :: es) [] pos) (tMethS C m sp dvs E ta t) :=
  ⟨fun pins s σ H Q I h => PySem.W.methodCall_KW (pl := pl) (thn (he.run pins s σ H _ I h) fun u s1 ⟨x, H1, I1, rx, a, dx, fs, ex, ea, l, q⟩ => by
    subst ex
    have hu : u = Value.ref a := rx
    subst hu
    exact getmeth_ok I1 ea c hm l (PySem.W.callWith_K (first := [.ref a]) (h₀ := X.base) I.ok.mod.kin hm.kp (thn (ha.run pos pins s1 σ H1 _ I1 q) fun us s2 ⟨vs, H2, I2, r, q2⟩ => ⟨I2.kIn, run_posG (us := .ref a :: us) (vs := .ref a :: vs) F hr I2.env0 hb hd (hx σ) I2 (.cons (show RelV (.ref a) (.ref a) from rfl) r) q2⟩) hst hpl)) ht⟩
theorem pe_methG0 {E : L2.St → XK} {pl : Sem Bool} (he : PE X o ta) (c : Cls X.K C) (hm : L2.Meth X.K C m f) (F : FnG X.prog X.w X.K X.mg X.base CX k f fd ps sp) (hr : RoomG k X.A) (hb : Binds X.K fd ps ds) (hd : Vals dvs ds) (hx : ∀ σ, PassesAt CX X σ (E σ)) (ht : MRunK X o m [] [] apos pos pl := by rfl) : PE X (.Call (.Attribute o m apos) [] [] pos) (tMethS C m sp dvs E ta tNil) :=
  ⟨fun pins s σ H Q I h => PySem.W.methodCall_KW (pl := pl) (thn (he.run pins s σ H _ I h) fun u s1 ⟨x, H1, I1, rx, a, dx, fs, ex, ea, l, q⟩ => by
    subst ex
    have hu : u = Value.ref a := rx
    subst hu
    exact getmeth_ok I1 ea c hm l (PySem.W.callWith_K0 (first := [.ref a]) I1.kIn hm.kp (run_posG (us := [.ref a]) (vs := [.ref a]) F hr I1.env0 hb hd (hx σ) I1 (.cons (show RelV (.ref a) (.ref a) from rfl) .nil) q))) ht⟩
/-- a property read -/
def tPropS (C : Addr) (sp : Sp) (E : L2.St → XK) (ta : TE) : TE := fun σ H Q => ta σ H fun x H1 => ∃ a dx fs, x = .ref a ∧ H1 a = some (.ins C dx fs) ∧ sp [.ref a] H1 Q (E σ)
theorem pe_propG {E : L2.St → XK} {q g : Addr} {fn : Str} (he : PE X e ta) (c : Cls X.K C) (hp : PropOf X.K C fn q g) (F : FnG X.prog X.w X.K X.mg X.base CX k g fd ps sp) (hr : RoomG (k + 1) X.A) (hb : Binds X.K fd ps []) (hx : ∀ σ, PassesAt CX X.nox σ (E σ)) (hab : attributeBase e fn X.env (eval e X.env) = eval e X.env) : PE X (.Attribute e fn pos) (tPropS C sp E ta) :=
  ⟨fun pins s σ H Q I h => attr_of hab (thn (he.run pins s σ H _ I h) fun u s1 ⟨x, H1, I1, rx, a, dx, fs, ex, ea, z⟩ => by
    subst ex
    have hu : u = Value.ref a := rx
    subst hu
    obtain ⟨mA, O, _⟩ := ins_get I1.hok ea
    obtain ⟨od, J, _⟩ := O.look
    obtain ⟨rest, hrec⟩ := hp.rec_
    obtain ⟨cd, hc, _⟩ := PySem.W.any_some c.hd
    have I2 := I1.tok (s1.toks + 1)
    have hb' := hb _ [.ref a] I2.kIn (by rw [← F.len _ _ _ _ z]; rfl)
    refine PySem.W.get_bind I1.kIn J (PySem.W.plainGet_of (c.get fn)).1 (PySem.W.findObj_data (by rw [hc]; rfl) hp.at_ hp.get hp.tak) (PySem.W.plainGet_of (c.get fn)).2 (wpAny_call (PySem.W.prop_get (s := { s1 with toks := s1.toks + 1 }) I1.kIn hrec ?_))
    refine codeAny_mono (F.run X.A.in1 X.stack _ H1 ⟨[.ref a], []⟩ ([.ref a] ++ []) [.ref a] Q (E σ) hr.in1 I2.env0.in1 hb' (.cons (show RelV (.ref a) (.ref a) from rfl) .nil) z) fun r s' hq => ?_
    rcases cr_ends hq with ⟨u, rfl, y⟩ | ⟨er, rfl, y⟩
    · obtain ⟨v, H', I3, rv, q3⟩ := I2.after y
      show wpAny _ _ (handedOut u) _ _ _
      rw [PySem.W.handedOut_of (handed_of rv)]
      exact wpAny_pure ⟨v, H', I3, rv, q3⟩
    · exact (hx σ pins H1 _ er s' (I2.wish _) y).elim)⟩
/-- a call with keywords -/
def tCallKS (n m : Nat) (sp : Sp) (gV : List V → List V → List V) (E : L2.St → XK) (t tk : TA) : TE := fun σ H Q => t σ H fun vs H1 => tk σ H1 fun zs H2 => vs.length = n ∧ zs.length = m ∧ sp (gV vs zs) H2 Q (E σ)
theorem run_kwG {E : L2.St → XK} {pins : List (Addr × Obj)} {σ : L2.St} {H : Hp} {s : Shared} {Q : VK} {us ws : List Value} {vs zs : List V} (F : FnG X.prog X.w X.K X.mg X.base CX k f fd ps sp) (hr : RoomG k X.A) (hb : KBn X.K fd ps n ks g gV) (hx : PassesAt CX X σ (E σ)) (I : Inv X pins σ H s) (rv : Vals vs us) (rz : Vals zs ws) (l1 : vs.length = n) (l2 : zs.length = ks.length)
    (h : sp (gV vs zs) H Q (E σ)) : wpAny (model X.prog X.w) X.A (call (.ref f) us (ks.zip ws)) (EP X pins σ Q) X.xe s :=
  wpAny_call (runG F hr I.env0 hx I (hb.to s us ws I.kIn (rv.length.symm.trans l1) (rz.length.symm.trans l2)) (hb.rel rv rz) h)
theorem pe_callKG {E : L2.St → XK} (F : FnG X.prog X.w X.K X.mg X.base CX k f fd ps sp) (hr : RoomG k X.A) (hg : Gl X x) (hm : X.mg x = some (.ref f)) (hk : PySem.W.keepIn X.K (.ref f) = true) (hb : KBn X.K fd ps n ks g gV) (hx : ∀ σ, PassesAt CX X σ (E σ)) (ha : PA X (e :: es) t) (hkw : PK X kws tk)
    (hall : (backToKw pos (keywordEach kws X.env)).all (·.1.isSome) = true := by rfl) (hks : (backToKw pos (keywordEach kws X.env)).filterMap (·.1) = ks := by rfl) (hdb : (x == ("__debug__" : Str)) = false := by decide) (he : starEach (e :: es) X.env = (false, eval e X.env) :: starEach es X.env := by rfl)
    (hpl : ((backTo pos (starEach (e :: es) X.env)).any (·.1) || (backToKw pos (keywordEach kws X.env)).any (·.1.isNone)) = false := by rfl) : PE X (.Call (.Name x p) (e :: es) kws pos) (tCallKS n ks.length sp gV E t tk) :=
  ⟨fun pins s σ H Q I h => wpAny_Call_Name_kw (ld_glob I hg hm (PySem.W.callWith_KW (h₀ := X.base) I.ok.mod.kin hk hall (thn (ha.run pos pins s σ H _ I h) fun us s1 ⟨vs, H1, I1, r, q⟩ => thn (hkw.run pos pins s1 σ H1 _ I1 q) fun ws s2 ⟨zs, H2, I2, rz, l1, l2, q2⟩ => ⟨I2.kIn, hks ▸ run_kwG F hr hb (hx σ) I2 r rz l1 l2 q2⟩) hpl he) hdb)⟩
/-- an instance made -/
def tMakeS (C : Addr) (n m : Nat) (sp : Sp) (gV : List V → List V → List V) (E : L2.St → XK) (t tk : TA) : TE := fun σ H Q => t σ H fun vs H1 => tk σ H1 fun zs H2 => vs.length = n ∧ zs.length = m ∧ ∀ x dx, H2 x = none → H2 dx = none → dx ≠ x → sp (gV (.ref x :: vs) zs) (upd (upd H2 dx (.own x)) x (.ins C dx [])) (fun v H3 => v = .non ∧ Q (.ref x) H3) (E σ)
theorem run_makeG {E : L2.St → XK} {pins : List (Addr × Obj)} {σ : L2.St} {H : Hp} {s : Shared} {Q : VK} {us ws : List Value} {vs zs : List V} (mk : Mk X.K C f) (F : FnG X.prog X.w X.K X.mg X.base CX k f fd ps sp) (hr : RoomG (k + 1) X.A) (hb : KBn X.K fd ps (n + 1) ks g gV) (hx : PassesAt CX X σ (E σ)) (I : Inv X pins σ H s) (rv : Vals vs us) (rz : Vals zs ws) (l1 : vs.length = n) (l2 : zs.length = ks.length)
    (h : ∀ x dx, H x = none → H dx = none → dx ≠ x → sp (gV (.ref x :: vs) zs) (upd (upd H dx (.own x)) x (.ins C dx [])) (fun v H2 => v = .non ∧ Q (.ref x) H2) (E σ)) : wpAny (model X.prog X.w) X.A (call (.ref C) us (ks.zip ws)) (EP X pins σ Q) X.xe s := by
  have I2 := Inv.made (C := C) I
  have r1 : Vals (V.ref (s.heap.objs.size + 1) :: vs) (Value.ref (s.heap.objs.size + 1) :: us) := .cons rfl rv
  have z := h (s.heap.objs.size + 1) s.heap.objs.size (I.hok.fresh (Nat.le_succ _)) (I.hok.fresh (Nat.le_refl _)) (Nat.ne_of_lt (Nat.lt_succ_self _))
  refine wpAny_call (make_map (f := f) I.kIn mk.makes mk.init (beq_iff_eq.mp mk.fn) (codeAny_mono (runG (args := ⟨Value.ref (s.heap.objs.size + 1) :: us, ks.zip ws⟩) F (hr.make C us (ks.zip ws)) (I2.env0.make C us (ks.zip ws)) hx I2 (hb.to _ (Value.ref (s.heap.objs.size + 1) :: us) ws I2.kIn (r1.length.symm.trans (congrArg Nat.succ l1)) (rz.length.symm.trans l2)) (hb.rel r1 rz) z) fun r s' hq => ?_))
  match r, hq with
  | .error e, hq => exact hq
  | .ok (.ret u), ⟨v, H', I3, ru, ev, q3⟩ =>
    subst ev
    exact ⟨ru, ⟨V.ref (s.heap.objs.size + 1), H', I3, rfl, q3⟩⟩
  | .ok .next, hq => exact hq.elim
  | .ok .brk, hq => exact hq.elim
  | .ok .cont, hq => exact hq.elim
theorem pe_makeG {E : L2.St → XK} (mk : Mk X.K C f) (F : FnG X.prog X.w X.K X.mg X.base CX k f fd ps sp) (hr : RoomG (k + 1) X.A) (hg : Gl X x) (hm : X.mg x = some (.ref C)) (hb : KBn X.K fd ps (n + 1) ks g gV) (hx : ∀ σ, PassesAt CX X σ (E σ)) (ha : PA X (e :: es) t) (hkw : PK X kws tk)
    (hall : (backToKw pos (keywordEach kws X.env)).all (·.1.isSome) = true := by rfl) (hks : (backToKw pos (keywordEach kws X.env)).filterMap (·.1) = ks := by rfl) (hdb : (x == ("__debug__" : Str)) = false := by decide) (he : starEach (e :: es) X.env = (false, eval e X.env) :: starEach es X.env := by rfl)
    (hpl : ((backTo pos (starEach (e :: es) X.env)).any (·.1) || (backToKw pos (keywordEach kws X.env)).any (·.1.isNone)) = false := by rfl) : PE X (.Call (.Name x p) (e :: es) kws pos) (tMakeS C n ks.length sp gV E t tk) :=
  ⟨fun pins s σ H Q I h => wpAny_Call_Name_kw (ld_glob I hg hm (PySem.W.callWith_KW (h₀ := X.base) I.ok.mod.kin mk.kp hall (thn (ha.run pos pins s σ H _ I h) fun us s1 ⟨vs, H1, I1, r, q⟩ => thn (hkw.run pos pins s1 σ H1 _ I1 q) fun ws s2 ⟨zs, H2, I2, rz, l1, l2, q2⟩ => ⟨I2.kIn, hks ▸ run_makeG mk F hr hb (hx σ) I2 r rz l1 l2 q2⟩) hpl he) hdb)⟩
theorem pe_makeG0 {E : L2.St → XK} (mk : Mk X.K C f) (F : FnG X.prog X.w X.K X.mg X.base CX k f fd ps sp) (hr : RoomG (k + 1) X.A) (hg : Gl X x) (hm : X.mg x = some (.ref C)) (hb : KBn X.K fd ps 1 ks g gV) (hx : ∀ σ, PassesAt CX X σ (E σ)) (hkw : PK X kws tk)
    (hall : (backToKw pos (keywordEach kws X.env)).all (·.1.isSome) = true := by rfl) (hks : (backToKw pos (keywordEach kws X.env)).filterMap (·.1) = ks := by rfl) (hdb : (x == ("__debug__" : Str)) = false := by decide)
    (hpl : ((backTo pos (starEach [] X.env)).any (·.1) || (backToKw pos (keywordEach kws X.env)).any (·.1.isNone)) = false := by rfl) : PE X (.Call (.Name x p) [] kws pos) (tMakeS C 0 ks.length sp gV E tNil tk) :=
  ⟨fun pins s σ H Q I h => wpAny_Call_Name_kw (ld_glob I hg hm (PySem.W.callWith_KW0 (h₀ := X.base) I.ok.mod.kin mk.kp hall (thn (hkw.run pos pins s σ H _ I h) fun ws s2 ⟨zs, H2, I2, rz, l1, l2, q2⟩ => ⟨I2.kIn, hks ▸ run_makeG (us := []) (vs := []) mk F hr hb (hx σ) I2 .nil rz rfl l2 q2⟩) hpl) hdb)⟩
end
end M
/-! M10: promises over data, calls, the body of a def. -/
namespace M
open PySem PySem.Spec PyProof.Rows L2

/-- what is wanted of an exception: its class, its fields, what they hold -/
abbrev DX := Str → List Str → List D → Prop
abbrev DXs := Str → List Str → List D → Sl → Prop
/-- a promise: the arguments, what is wanted of the result (and of what the owned arguments hold then), of an exception -/
abbrev Spd := List D → (D → List D → Prop) → DX → Prop
def exF : DXs := fun _ _ _ _ => False

section
variable {G : Gc} {X : Cx} {F F' F1 F2 : Addr → Prop} {H H' H1 H2 : Hp} {σ σ' : L2.St} {ρ ρ' ρ1 ρ2 : Sl} {fp fp' fp1 fp2 fr fr1 fr2 : List Addr} {v v1 v2 : V} {r r1 r2 d : D} {p : Addr} {o : HO}
  {a b c e : Expr} {es : List Expr} {wa wb wc we : WE} {ta tb tc : WT} {rest : List Expr} {pos : Pos} {K : PySem.W.Frag} {ca : Str → Addr}

/-- what the owned arguments hold -/
inductive RpO (K : PySem.W.Frag) (ca : Str → Addr) (F : Addr → Prop) (H : Hp) (vs : List V) : List Nat → List D → List Addr → Prop
  | nil : RpO K ca F H vs [] [] []
  | cons {i : Nat} {is : List Nat} {v : V} {d : D} {ds : List D} {fr fp : List Addr} : vs[i]? = some v → Rp K ca F H v d fr → RpO K ca F H vs is ds fp → RpO K ca F H vs (i :: is) (d :: ds) (fr ++ fp)
/-- a promise over data as one over the heap; own: the places of the owned arguments -/
def lift (K : PySem.W.Frag) (ca : Str → Addr) (own : List Nat) (sp : Spd) : Sp := fun vs H Q E => ∃ F ds fp Qd Ed, RpL K ca F H vs ds fp ∧ fp.Nodup ∧ (∀ a, F a → ∃ o, H a = some o) ∧ (∀ i d, ds[i]? = some d → i ∉ own → isOw d = false) ∧ sp ds Qd Ed ∧
  (∀ v H' F' r fr os fo, Step F H fp F' H' (fr ++ fo) → (fr ++ fo).Nodup → (∀ a, F' a → ∃ o, H' a = some o) → Rp K ca F' H' v r fr → RpO K ca F' H' vs own os fo → Qd r os → Q v H') ∧
  ∀ c x H' F' fs us xs, Step F H fp F' H' [] → (∀ a, F' a → ∃ o, H' a = some o) → H' x = some (.xd (fs.zip us)) → fs.length = us.length → RpL K ca F' H' us xs [] → Ed c fs xs → E (.ref (ca c)) (some x) H'

/-! ### a call's arguments -/
def isSl : D → Bool
  | .sl _ => true
  | _ => false
/-- the arguments at the places own are moved out of their slots, those at bor left where they are, the others shared -/
def pre (own bor : List Nat) : Nat → Sl → List D → Option (List D × Sl × List Nat)
  | _, ρ, [] => some ([], ρ, [])
  | n, ρ, r :: rs =>
    if own.contains n = true then
      match r with
      | .sl j => match ρ[j]? with
        | some (some d) => (pre own bor (n + 1) (ρ.set j none) rs).map fun x => (d :: x.1, x.2.1, j :: x.2.2)
        | _ => none
      | _ => none
    else if bor.contains n = true ∧ isSl r = true then (pre own bor (n + 1) ρ rs).map fun x => (r :: x.1, x.2.1, x.2.2)
    else match fzR ρ r with
      | some (d, ρ1) => (pre own bor (n + 1) ρ1 rs).map fun x => (d :: x.1, x.2.1, x.2.2)
      | none => none
/-- what is lent, as it is seen -/
def lend (ρ : Sl) : List D → Option (List D)
  | [] => some []
  | r :: rs => match (match r with
      | .sl j => match ρ[j]? with
        | some (some d) => some (fz d)
        | _ => none
      | r => some r), lend ρ rs with
    | some d, some ds => some (d :: ds)
    | _, _ => none
def puts : Sl → List Nat → List D → Sl
  | ρ, j :: js, d :: ds => puts (ρ.set j (some d)) js ds
  | ρ, _, _ => ρ
/-- the values at the places own, in order, are those of the slots js -/
inductive Own (σ : L2.St) (own : List Nat) : Nat → List V → List Nat → List V → Prop
  | nil {n : Nat} : Own σ own n [] [] []
  | yes {n j : Nat} {v : V} {vs ws : List V} {js : List Nat} : own.contains n = true → σ[j]? = some (some v) → Own σ own (n + 1) vs js ws → Own σ own n (v :: vs) (j :: js) (v :: ws)
  | no {n : Nat} {v : V} {vs ws : List V} {js : List Nat} : own.contains n = false → Own σ own (n + 1) vs js ws → Own σ own n (v :: vs) js ws
/-- behind the arguments: what is shared (F'), the moved ones' (fo), the slots' (fp') -/
structure Arg (G : Gc) (F : Addr → Prop) (H : Hp) (σ : L2.St) (ρ : Sl) (fp fr : List Addr) (F' : Addr → Prop) (ρ' : Sl) (fp' fo : List Addr) : Prop where
  mono : ∀ a, F a → F' a
  new : ∀ a, F' a → F a ∨ a ∈ fr ∨ (a ∈ fp ∧ a ∉ fp' ∧ a ∉ fo)
  ok : Ok G F' H σ ρ' fp'
  sub : ∀ a ∈ fp', a ∈ fp
  subo : ∀ a ∈ fo, a ∈ fp ∧ a ∉ fp'
  ndo : fo.Nodup
theorem Rr.take (ok : Ok G F H σ ρ fp) {j : Nat} (h : Rr G F H σ v (.sl j) fr) (e : ρ[j]? = some (some d)) : ∃ fs fp', Rp G.K G.ca F H v d fs ∧ Ok G F H σ (ρ.set j none) fp' ∧ (∀ a ∈ fp', a ∈ fp) ∧ (∀ a ∈ fs, a ∈ fp ∧ a ∉ fp') ∧ fs.Nodup := by
  obtain ⟨hσ, _⟩ := h.sl
  obtain ⟨l, fs, r, e1, g1, _, g3, _⟩ := ok.rs.at_ (i := j) (by rw [List.getElem?_eq_some_iff] at e; exact e.1)
  obtain ⟨v', ev, rp⟩ := g1 d e
  rw [hσ] at ev; cases ev
  have q := g3 (some v)
  rw [set_get hσ] at q
  have nd2 := ok.nd
  rw [e1] at nd2
  have lr : ∀ a, a ∈ l ++ r → a ∉ fs := fun a z y => by
    rcases List.mem_append.mp z with z | z
    · exact nodup_d (nodup_l nd2) a z y
    · exact nodup_d nd2 a (List.mem_append_right _ y) z
  exact ⟨fs, l ++ r, rp, ⟨q, nodup_of (nodup_l (nodup_l nd2)) (nodup_r nd2) fun x z y => nodup_d nd2 x (List.mem_append_left _ z) y, ok.dom, ok.pm, ok.rch.less fun a z => by rw [e1]; rcases List.mem_append.mp z with w | w <;> simp [w]⟩,
    fun a z => by rw [e1]; rcases List.mem_append.mp z with w | w <;> simp [w], fun a z => ⟨by rw [e1]; simp [z], fun w => lr a w z⟩, nodup_r (nodup_l nd2)⟩
theorem omap {α β : Type} {x : Option α} {f : α → β} {y : β} (h : x.map f = some y) : ∃ z, x = some z ∧ f z = y := by
  cases x with
  | none => cases h
  | some z => exact ⟨z, rfl, Option.some.inj h⟩
theorem RrL.pre {own bor : List Nat} : ∀ {rs : List D} {n : Nat} {vs : List V} {F : Addr → Prop} {ρ : Sl} {fp fr : List Addr} {ds : List D} {ρ' : Sl} {js : List Nat}, Ok G F H σ ρ fp → RrL G F H σ vs rs fr → (fr ++ fp).Nodup → (∀ a ∈ fr, a ∈ G.fp0 ∨ G.H0 a = none) → M.pre own bor n ρ rs = some (ds, ρ', js) →
    ∃ F' fp' fo ws, Arg G F H σ ρ fp fr F' ρ' fp' fo ∧ RrL G F' H σ vs ds fo ∧ Own σ own n vs js ws ∧ (bor = [] → RpL G.K G.ca F' H vs ds fo)
  | [], n, _, F, ρ, fp, _, ds, ρ', js, ok, .nil, nd, hr, e => by
    cases e
    exact ⟨F, fp, [], [], ⟨fun _ z => z, fun _ z => .inl z, ok, fun _ z => z, (fun _ z => nomatch z), List.nodup_nil⟩, .nil, .nil, fun _ => .nil⟩
  | r :: rs, n, _, F, ρ, fp, _, ds, ρ', js, ok, @RrL.cons _ _ _ _ v vs _ _ f1 f2 h1 h2, nd, hr, e => by
    have ndx : (f2 ++ fp).Nodup := by rw [List.append_assoc] at nd; exact nodup_r nd
    have nd1 : (f1 ++ fp).Nodup := by
      rw [List.append_assoc] at nd
      exact nodup_of (nodup_l nd) (nodup_r (nodup_r nd)) fun a z y => nodup_d nd a z (List.mem_append_right _ y)
    have d12 : ∀ a ∈ f1, a ∉ f2 := nodup_d (nodup_l nd)
    unfold M.pre at e
    by_cases ho : own.contains n = true
    · rw [if_pos ho] at e
      cases r <;> (try (cases e; done))
      rename_i j
      have e : (match ρ[j]? with
        | some (some d) => (M.pre own bor (n + 1) (ρ.set j none) rs).map fun x => (d :: x.1, x.2.1, j :: x.2.2)
        | _ => none) = some (ds, ρ', js) := e
      cases q1 : ρ[j]? with
      | none => rw [q1] at e; cases e
      | some x => cases x with
        | none => rw [q1] at e; cases e
        | some d =>
          rw [q1] at e
          obtain ⟨⟨ds2, ρ2, js2⟩, q2, q3⟩ := omap e
          cases q3
          obtain ⟨hσ, rfl⟩ := h1.sl
          obtain ⟨fs, fp1, rp, ok1, sub1, own1, ndf⟩ := h1.take ok q1
          obtain ⟨F2, fp2, fo, ws, A, rl, ow, hb⟩ := RrL.pre ok1 h2 (nodup_of (nodup_l ndx) ok1.nd fun a z y => nodup_d ndx a z (sub1 a y)) (fun a z => hr a (by simp [z])) q2
          have nF2 : ∀ a ∈ fs, ¬ F2 a := fun a z f => by
            rcases A.new a f with w | w | w
            · exact (rp.own a z).1 w
            · exact nodup_d ndx a w (own1 a z).1
            · exact (own1 a z).2 w.1
          have rp2 : Rp G.K G.ca F2 H v d fs := rp.keep (fun _ _ e _ => e) (fun _ _ _ e _ => e) (fun _ _ _ e _ => e) A.mono (fun _ _ _ e => e) nF2
          refine ⟨F2, fp2, fs ++ fo, v :: ws, ⟨A.mono, fun a z => ?_, A.ok, fun a z => sub1 a (A.sub a z), fun a z => ?_, nodup_of ndf A.ndo fun a z y => (own1 a z).2 (A.subo a y).1⟩, .cons (.inl rp2) rl, .yes ho hσ ow, fun b => .cons rp2 (hb b)⟩
          · rcases A.new a z with w | w | w
            · exact .inl w
            · exact .inr (.inl (by simp [w]))
            · refine .inr (.inr ⟨sub1 a w.1, w.2.1, fun y => ?_⟩)
              rcases List.mem_append.mp y with y | y
              · exact (own1 a y).2 w.1
              · exact w.2.2 y
          · rcases List.mem_append.mp z with z | z
            · exact ⟨(own1 a z).1, fun w => (own1 a z).2 (A.sub a w)⟩
            · exact ⟨sub1 a (A.subo a z).1, (A.subo a z).2⟩
    · rw [if_neg ho] at e
      have ho' : own.contains n = false := by simpa using ho
      by_cases hb : bor.contains n = true ∧ isSl r = true
      · rw [if_pos hb] at e
        obtain ⟨⟨ds2, ρ2, js2⟩, q2, q3⟩ := omap e
        cases q3
        cases r <;> (try (exact absurd hb.2 Bool.false_ne_true))
        obtain ⟨hσ, rfl⟩ := h1.sl
        obtain ⟨F2, fp2, fo, ws, A, rl, ow, hb2⟩ := RrL.pre ok h2 ndx (fun a z => hr a (by simp [z])) q2
        refine ⟨F2, fp2, [] ++ fo, ws, ⟨A.mono, fun a z => by simpa using A.new a z, A.ok, A.sub, A.subo, A.ndo⟩, .cons (.inr ⟨_, rfl, hσ, rfl⟩) rl, .no ho' ow, fun b => ?_⟩
        rw [b] at hb
        exact absurd hb.1 (by simp)
      · rw [if_neg hb] at e
        cases q1 : fzR ρ r with
        | none => rw [q1] at e; cases e
        | some x =>
          obtain ⟨d, ρ1⟩ := x
          rw [q1] at e
          obtain ⟨⟨ds2, ρ2, js2⟩, q2, q3⟩ := omap e
          cases q3
          obtain ⟨F1, fp1, s1, p1⟩ := h1.share ok nd1 (fun a z => hr a (List.mem_append_left _ z)) q1
          have h2' : RrL G F1 H σ vs rs f2 := by
            refine h2.step (fp := f1 ++ fp) (fp' := fp1) s1.step (fun a z => ?_) fun a z y => ?_
            · rcases List.mem_append.mp z with z | z
              · exact (h1.own a z).1
              · exact ok.nf a z
            · rcases List.mem_append.mp y with y | y
              · exact d12 a y z
              · exact nodup_d ndx a z y
          obtain ⟨F2, fp2, fo, ws, A, rl, ow, hb2⟩ := RrL.pre s1.ok h2' (nodup_of (nodup_l ndx) s1.ok.nd fun a z y => nodup_d ndx a z (s1.sub a y)) (fun a z => hr a (List.mem_append_right _ z)) q2
          have rp2 : Rp G.K G.ca F2 H v d [] := p1.keep (fun _ _ e _ => e) (fun _ _ _ e _ => e) (fun _ _ _ e _ => e) A.mono (fun a z => nomatch z) fun a z => nomatch z
          refine ⟨F2, fp2, [] ++ fo, ws, ⟨fun a z => A.mono a (s1.mono a z), fun a z => ?_, A.ok, fun a z => s1.sub a (A.sub a z), fun a z => ⟨s1.sub a (A.subo a z).1, (A.subo a z).2⟩, A.ndo⟩, .cons (.inl rp2) rl, .no ho' ow, fun b => .cons rp2 (hb2 b)⟩
          rcases A.new a z with y | y | y
          · rcases s1.new a y with w | w | w
            · exact .inl w
            · exact .inr (.inl (List.mem_append_left _ w))
            · exact .inr (.inr ⟨w.1, fun x => w.2 (A.sub a x), fun x => w.2 (A.subo a x).1⟩)
          · exact .inr (.inl (List.mem_append_right _ y))
          · exact .inr (.inr ⟨s1.sub a y.1, y.2⟩)
theorem RrL.lend (ok : Ok G F H σ ρ fp) : ∀ {rs : List D} {vs : List V} {ds : List D} {fr : List Addr}, RrL G F H σ vs rs fr → (∀ a ∈ fr, a ∉ fp) → M.lend ρ rs = some ds → RpL G.K G.ca (fun a => F a ∨ a ∈ fp) H vs ds fr
  | [], _, ds, _, .nil, _, e => by cases e; exact .nil
  | r :: rs, _, ds, _, .cons h1 h2, dj, e => by
    unfold M.lend at e
    split at e
    · rename_i d ds2 q1 q2
      cases e
      refine .cons ?_ (RrL.lend ok h2 (fun a z => dj a (List.mem_append_right _ z)) q2)
      rcases h1 with h1 | ⟨j, rfl, hσ, rfl⟩
      · have : d = r := by cases h1 <;> exact (Option.some.inj q1).symm
        subst this
        exact h1.keep (fun _ _ e _ => e) (fun _ _ _ e _ => e) (fun _ _ _ e _ => e) (fun a z => .inl z) (fun _ _ _ e => e) fun a z w => w.elim (h1.own a z).1 (dj a (List.mem_append_left _ z))
      · have q1 : (match ρ[j]? with
          | some (some d) => some (fz d)
          | _ => none) = some d := q1
        cases q3 : ρ[j]? with
        | none => rw [q3] at q1; cases q1
        | some x => cases x with
          | none => rw [q3] at q1; cases q1
          | some y =>
            rw [q3] at q1
            cases q1
            have rr : Rr G F H σ _ (.sl j) [] := .inr ⟨j, rfl, hσ, rfl⟩
            obtain ⟨fs, rp, sub⟩ := rr.see ok (d := y) (by show (ρ[j]?).join = _; rw [q3]; rfl)
            exact rp.fz (fun a z => .inl z) fun a z => .inr (by simpa using sub a z)
    · cases e

/-! ### behind a call -/
theorem Ok.putF {i : Nat} (ok : Ok G F H σ ρ fp) (e : σ[i]? = some (some v)) (rp : Rp G.K G.ca F H v d fr) (dj : ∀ a ∈ fr, a ∉ fp) (nd : fr.Nodup) (hr : ∀ a ∈ fr, a ∈ G.fp0 ∨ G.H0 a = none) : ∃ fp', Ok G F H σ (ρ.set i (some d)) fp' ∧ ∀ a ∈ fp', a ∈ fr ++ fp := by
  have hi : i < ρ.length := by rw [← ok.rs.length]; exact (List.getElem?_eq_some_iff.mp e).1
  obtain ⟨l, fs, r, e1, _, _, _, h4⟩ := ok.rs.at_ hi
  have nd2 := ok.nd
  rw [e1] at nd2
  have q := h4 v d fr rp
  rw [set_get e] at q
  have sub : ∀ a ∈ l ++ fr ++ r, a ∈ fr ++ fp := fun a z => by
    rw [e1]
    rcases List.mem_append.mp z with z | z
    · rcases List.mem_append.mp z with z | z <;> simp [z]
    · simp [z]
  refine ⟨l ++ fr ++ r, ⟨q, ?_, ok.dom, ok.pm, ⟨ok.rch.mono, ok.rch.new, ok.rch.keep, ok.rch.there, fun a z => ?_⟩⟩, sub⟩
  · rw [e1] at dj
    refine nodup_of (nodup_of (nodup_l (nodup_l nd2)) nd fun a z y => dj a y (by simp [z])) (nodup_r nd2) fun a z y => ?_
    rcases List.mem_append.mp z with z | z
    · exact nodup_d nd2 a (List.mem_append_left _ z) y
    · exact dj a z (by simp [y])
  · rcases List.mem_append.mp (sub a z) with w | w
    · exact hr a w
    · exact ok.rch.fps a w
/-- the owned arguments' values -/
theorem Own.get {own : List Nat} {n : Nat} {vs ws : List V} {js : List Nat} (h : Own σ own n vs js ws) : Paired (fun j w => σ[j]? = some (some w)) js ws := by
  induction h with
  | nil => exact .nil
  | yes _ e _ ih => exact .cons e ih
  | no _ _ ih => exact ih
/-- own: ascending, within the arguments: the values at those places -/
theorem Own.at_ {own : List Nat} : ∀ {n : Nat} {vs ws : List V} {js : List Nat}, Own σ own n vs js ws → ∀ {os : List Nat} (pre : List V), pre.length = n → (∀ i, i ∈ os ↔ i ∈ own ∧ n ≤ i) → os.Pairwise (· < ·) → (∀ i ∈ os, i < n + vs.length) → Paired (fun i w => (pre ++ vs)[i]? = some w) os ws
  | n, _, _, _, .nil, os, pre, hp, h1, h2, h3 => by
    cases os with
    | nil => exact .nil
    | cons i os =>
      have := h3 i List.mem_cons_self
      have := (h1 i).mp List.mem_cons_self
      simp at *
      omega
  | n, _, _, _, .yes (v := v) (vs := vs) (ws := ws) hc _ t, os, pre, hp, h1, h2, h3 => by
    have hn : n ∈ os := (h1 n).mpr ⟨by simpa using hc, Nat.le_refl _⟩
    cases os with
    | nil => cases hn
    | cons i os =>
      have hi : i = n := by
        rcases List.mem_cons.mp hn with z | z
        · exact z.symm
        · have l1 := (List.pairwise_cons.mp h2).1 n z
          have l2 := ((h1 i).mp List.mem_cons_self).2
          omega
      subst hi
      refine .cons ?_ ?_
      · rw [List.getElem?_append_right (by omega), hp]; simp
      · have := Own.at_ t (os := os) (pre ++ [v]) (by simp [hp]) (fun k => ?_) (List.pairwise_cons.mp h2).2 fun k hk => ?_
        · simpa using this
        · constructor
          · intro hk
            have l1 := (List.pairwise_cons.mp h2).1 k hk
            exact ⟨((h1 k).mp (List.mem_cons_of_mem _ hk)).1, l1⟩
          · intro ⟨h4, h5⟩
            rcases List.mem_cons.mp ((h1 k).mpr ⟨h4, by omega⟩) with z | z
            · omega
            · exact z
        · have := h3 k (List.mem_cons_of_mem _ hk)
          simp at this
          omega
  | n, _, _, _, .no (v := v) (vs := vs) hc t, os, pre, hp, h1, h2, h3 => by
    have := Own.at_ t (os := os) (pre ++ [v]) (by simp [hp]) (fun k => ?_) h2 fun k hk => ?_
    · simpa using this
    · constructor
      · intro hk
        have l1 := (h1 k).mp hk
        refine ⟨l1.1, ?_⟩
        by_cases e : k = n
        · rw [e] at l1
          have := l1.1
          simp at hc
          exact absurd this hc
        · omega
      · intro ⟨h4, h5⟩
        exact (h1 k).mpr ⟨h4, by omega⟩
    · have := h3 k hk
      simp at this
      omega
/-- the owned arguments come back into their slots -/
theorem Ok.puts {vs : List V} : ∀ {os : List Nat} {js : List Nat} {ws : List V} {ds : List D} {fo : List Addr} {ρ : Sl} {fp : List Addr}, Ok G F H σ ρ fp → RpO G.K G.ca F H vs os ds fo → Paired (fun i w => vs[i]? = some w) os ws → Paired (fun j w => σ[j]? = some (some w)) js ws → (fo ++ fp).Nodup → (∀ a ∈ fo, a ∈ G.fp0 ∨ G.H0 a = none) →
    ∃ fp', Ok G F H σ (M.puts ρ js ds) fp' ∧ ∀ a ∈ fp', a ∈ fo ++ fp
  | [], [], [], _, _, ρ, fp, ok, .nil, .nil, .nil, nd, hr => ⟨fp, ok, fun a z => by simpa using z⟩
  | [], _ :: _, _, _, _, _, _, _, _, h1, h2, _, _ => by cases h1; cases h2
  | _ :: _, [], _, _, _, _, _, _, _, h1, h2, _, _ => by cases h1 with | cons _ _ => cases h2
  | i :: os, j :: js, w :: ws, d :: ds, _, ρ, fp, ok, @RpO.cons _ _ _ _ _ _ _ v _ _ fr fo e rp t, .cons e1 t1, .cons e2 t2, nd, hr => by
    rw [e] at e1; cases e1
    have nd' := nd
    rw [List.append_assoc] at nd'
    obtain ⟨fp1, ok1, sub1⟩ := ok.putF e2 rp (fun a z y => nodup_d nd' a z (List.mem_append_right _ y)) (nodup_l nd') (fun a z => hr a (List.mem_append_left _ z))
    obtain ⟨fp2, ok2, sub2⟩ := Ok.puts ok1 t t1 t2 (nodup_of (nodup_l (nodup_r nd')) ok1.nd fun a z y => by
      rcases List.mem_append.mp (sub1 a y) with x | x
      · exact nodup_d nd' a x (List.mem_append_left _ z)
      · exact nodup_d (nodup_r nd') a z x) fun a z => hr a (List.mem_append_right _ z)
    refine ⟨fp2, ok2, fun a z => ?_⟩
    rcases List.mem_append.mp (sub2 a z) with x | x
    · simp [x]
    · rcases List.mem_append.mp (sub1 a x) with y | y <;> simp [y]
theorem RpO.own {vs : List V} {os : List Nat} {ds : List D} (h : RpO K ca F H vs os ds fr) : ∀ a ∈ fr, ¬ F a ∧ ∃ o, H a = some o ∧ MutK o := by
  induction h with
  | nil => intro a z; cases z
  | cons _ r _ ih =>
    intro a z
    rcases List.mem_append.mp z with z | z
    · exact r.own a z
    · exact ih a z
theorem RpO.nfz {F' : Addr → Prop} {vs : List V} {os : List Nat} {ds : List D} (h : RpO K ca F H vs os ds fr) (q : nfzL ds = true) (n : ∀ a ∈ fr, ¬ F' a) : RpO K ca F' H vs os ds fr := by
  induction h with
  | nil => exact .nil
  | cons e r _ ih =>
    have h' := Bool.and_eq_true_iff.mp q
    exact .cons e (r.nfz h'.1 fun a z => n a (List.mem_append_left _ z)) (ih h'.2 fun a z => n a (List.mem_append_right _ z))

/-! ### the call of a def -/
/-- what the body wants of an exception, as the machine's wish W -/
def XLk (G : Gc) (Ex : DXs) (W : WX) : Prop := ∀ c x σ' H' F' ρ' fp' fs us xs, Ok G F' H' σ' ρ' fp' → H' x = some (.xd (fs.zip us)) → fs.length = us.length → RpL G.K G.ca F' H' us xs [] → Ex c fs xs ρ' → W (.ref (G.ca c)) (some x) σ' H'
/-- own: the places of the owned arguments; bor: of those that are lent; dd: the defaults that fill up -/
def callD (own bor : List Nat) (n : Nat) (sp : Spd) (dd : List D) (Ex : DXs) (Q : D → Sl → Prop) (rs : List D) (ρ1 : Sl) : Prop := ∃ ds ρ2 js es, rs.length = n ∧ pre own bor 0 ρ1 rs = some (ds, ρ2, js) ∧ (bor = [] → es = ds) ∧ (bor ≠ [] → lend ρ2 ds = some es) ∧ (∀ i d, (es ++ dd)[i]? = some d → i ∉ own → isOw d = false) ∧
  sp (es ++ dd) (fun r os => (bor ≠ [] → nfz r = true ∧ nfzL os = true) ∧ Q r (puts ρ2 js os)) fun c fs xs => (bor ≠ [] → nfzL xs = true) ∧ Ex c fs xs ρ2
def wCall (own bor : List Nat) (n : Nat) (sp : Spd) (dd : List D) (Ex : DXs) (wa : WA) : WE := fun ρ Q => wa ρ fun rs ρ1 => callD own bor n sp dd Ex Q rs ρ1
/-- own is in order, within the arguments -/
def ownOk (own : List Nat) (n : Nat) : Bool := decide (own.Pairwise (· < ·)) && own.all fun i => decide (i < n)
theorem call_core {own bor : List Nat} {sp : Spd} {dvs : List V} {dd : List D} {Ex : DXs} {W : WX} {n : Nat} {vs : List V} {rs : List D} {Qd : D → Sl → Prop} {Q : VK} (lk : XLk G Ex W) (hd : ∀ F H, RpL G.K G.ca F H dvs dd []) (ho : ownOk own n = true)
    (rch : Step G.F0 G.H0 G.fp0 F H fp) (en : En G F H fp σ F1 H1 ρ1 fp1 fr) (rr : RrL G F1 H1 σ vs rs fr) (q : callD own bor n sp dd Ex Qd rs ρ1) (k : ∀ v H' F' ρ' fp' r fr, En G F H fp σ F' H' ρ' fp' fr → Rr G F' H' σ v r fr → Qd r ρ' → Q v H') :
    lift G.K G.ca own sp (vs ++ dvs) H1 Q (fun cls d H => W cls d σ H) := by
  obtain ⟨ds, ρ2, js, es, hlen, ep, eb0, eb1, hpl, hsp⟩ := q
  obtain ⟨F2, fp2, fo, ws, A, rl, ow, hb⟩ := rr.pre en.ok en.nd (fun a z => (rch.trans en.st).fps a (List.mem_append_left _ z)) ep
  have ho1 := Bool.and_eq_true_iff.mp ho
  have asc : own.Pairwise (· < ·) := of_decide_eq_true ho1.1
  have lt : ∀ i ∈ own, i < n := fun i hi => of_decide_eq_true (List.all_eq_true.mp ho1.2 i hi)
  have lenv : vs.length = n := by
    have : ∀ {vs : List V} {rs : List D} {fr : List Addr}, RrL G F1 H1 σ vs rs fr → vs.length = rs.length := by
      intro vs rs fr h
      induction h with
      | nil => rfl
      | cons _ _ ih => simp [ih]
    rw [this rr]; exact hlen
  -- the values at the places own
  have pw : Paired (fun i w => vs[i]? = some w) own ws := by
    have := ow.at_ (os := own) [] rfl (fun i => ⟨fun z => ⟨z, Nat.zero_le _⟩, fun z => z.1⟩) asc fun i hi => by rw [lenv, Nat.zero_add]; exact lt i hi
    simpa using this
  have pw2 : Paired (fun i w => (vs ++ dvs)[i]? = some w) own ws := by
    refine L2.Paired.mapP pw fun i w e => ?_
    rw [List.getElem?_append_left (List.getElem?_eq_some_iff.mp e).1]; exact e
  have pj := ow.get
  -- ahead of the call
  have dj : ∀ a ∈ fo, a ∉ fp2 := fun a z => (A.subo a z).2
  have sA : Step F H fp F2 H1 (fo ++ fp2) := by
    refine ⟨fun a z => A.mono a (en.st.mono a z), fun a z => ?_, en.st.keep, en.st.there, fun a z => ?_⟩
    · rcases A.new a z with w | w | w
      · exact en.st.new a w
      · exact .inr (en.st.fps a (List.mem_append_left _ w))
      · exact .inr (en.st.fps a (List.mem_append_right _ w.1))
    · rcases List.mem_append.mp z with w | w
      · exact en.st.fps a (List.mem_append_right _ (A.subo a w).1)
      · exact en.st.fps a (List.mem_append_right _ (A.sub a w))
  have hro : ∀ a ∈ fo, a ∈ G.fp0 ∨ G.H0 a = none := fun a z => (rch.trans sA).fps a (List.mem_append_left _ z)
  have nFo : ∀ a ∈ fo, ¬ F2 a := fun a z => (rl.own a z).1
  -- what is shared for the call
  obtain ⟨B, hB, hB0, rle⟩ : ∃ B : Addr → Prop, (∀ a, B a → a ∈ fp2) ∧ (bor = [] → ∀ a, ¬ B a) ∧ RpL G.K G.ca (fun a => F2 a ∨ B a) H1 vs es fo := by
    by_cases hbor : bor = []
    · refine ⟨fun _ => False, fun _ z => z.elim, fun _ _ z => z, ?_⟩
      have e := eb0 hbor
      subst e
      exact (hb hbor).keep (fun _ _ e _ => e) (fun _ _ _ e _ => e) (fun _ _ _ e _ => e) (fun a z => .inl z) (fun _ _ _ e => e) fun a z w => w.elim (nFo a z) id
    · exact ⟨fun a => a ∈ fp2, fun _ z => z, fun z => absurd z hbor, rl.lend A.ok dj (eb1 hbor)⟩
  have dmB : ∀ a, (F2 a ∨ B a) → ∃ o, H1 a = some o := fun a z => z.elim (A.ok.dom a) fun z => let ⟨_, o, e, _⟩ := A.ok.rs.own a (hB a z); ⟨o, e⟩
  have nd2 : (fo ++ []).Nodup := by simpa using A.ndo
  have rla : RpL G.K G.ca (fun a => F2 a ∨ B a) H1 (vs ++ dvs) (es ++ dd) fo := by
    have : ∀ {vs : List V} {ds : List D} {fr : List Addr}, RpL G.K G.ca (fun a => F2 a ∨ B a) H1 vs ds fr → RpL G.K G.ca (fun a => F2 a ∨ B a) H1 (vs ++ dvs) (ds ++ dd) fr := by
      intro vs
      induction vs with
      | nil => intro ds fr h; cases h; exact hd _ _
      | cons v vs ih => intro ds fr h; cases h with
        | cons r t => exact .cons r (ih t)
    exact this rle
  -- through the call, the slots' own ones stand
  have thru : ∀ {F' H' fr'}, Step (fun a => F2 a ∨ B a) H1 fo F' H' fr' → (∀ a, F' a → ∃ o, H' a = some o) → Step F2 H1 (fo ++ fp2) (fun a => F' a ∧ ¬ B a) H' (fr' ++ fp2) ∧ Ok G (fun a => F' a ∧ ¬ B a) H' σ ρ2 fp2 ∧ (∀ a ∈ fr', a ∉ fp2) := fun {F' H' fr'} s dm => by
    have keepF : ∀ a, F2 a → F' a ∧ ¬ B a := fun a z => ⟨s.mono a (.inl z), fun b => (A.ok.nf a (hB a b)) z⟩
    have newF : ∀ a, F' a ∧ ¬ B a → F2 a ∨ a ∈ fo ∨ H1 a = none := fun a ⟨z, nb⟩ => by
      rcases s.new a z with (w | w) | w | w
      · exact .inl w
      · exact absurd w nb
      · exact .inr (.inl w)
      · exact .inr (.inr w)
    have st2 : Step F2 H1 (fo ++ fp2) (fun a => F' a ∧ ¬ B a) H' (fr' ++ fp2) := ⟨keepF, fun a z => (newF a z).imp id (Or.imp (List.mem_append_left _) id), fun a o e c => s.keep a o e (c.imp (fun n z => n (List.mem_append_left _ z)) id), s.there, fun a z => by
      rcases List.mem_append.mp z with w | w
      · exact (s.fps a w).imp (List.mem_append_left _) id
      · exact .inl (List.mem_append_right _ w)⟩
    have djr : ∀ a ∈ fr', a ∉ fp2 := fun a z y => by
      rcases s.fps a z with w | w
      · exact dj a w y
      · obtain ⟨_, o, e, _⟩ := A.ok.rs.own a y
        rw [e] at w; cases w
    refine ⟨st2, ⟨A.ok.rs.keep (fun a o e n => s.keep a o e (.inr n)) (fun a o f e _ => s.keep a o e (.inl fun z => nFo a z f)) (fun a u f e _ => rd_keep (fun o e => s.keep a o e (.inl fun z => nFo a z f)) e) keepF (fun a z o e => s.keep a o e (.inl fun w => dj a w z)) (fun a z f => ?_), A.ok.nd, fun a z => dm a z.1, A.ok.pm, ?_⟩, djr⟩
    · rcases newF a f with w | w | w
      · exact A.ok.nf a z w
      · exact dj a w z
      · obtain ⟨_, o, e, _⟩ := A.ok.rs.own a z
        rw [e] at w; cases w
    · exact (rch.trans sA).trans (st2.less fun a z => List.mem_append_right _ z)
  refine ⟨fun a => F2 a ∨ B a, es ++ dd, fo, _, _, rla, A.ndo, dmB, hpl, hsp, fun v H' F' r fr' os fo' s nd' dm rp ro q => ?_, fun c x H' F' fs us xs s dm ex hl rx q => ?_⟩
  · obtain ⟨st3, ok3, djr⟩ := thru s dm
    have nFr : ∀ a ∈ fr', ¬ (F' a ∧ ¬ B a) := fun a z w => (rp.own a z).1 w.1
    have nFo' : ∀ a ∈ fo', ¬ (F' a ∧ ¬ B a) := fun a z w => (ro.own a z).1 w.1
    have rp3 : Rp G.K G.ca (fun a => F' a ∧ ¬ B a) H' v r fr' := by
      by_cases hbor : bor = []
      · exact rp.keep (fun _ _ e _ => e) (fun _ _ _ e _ => e) (fun _ _ _ e _ => e) (fun a z => ⟨z, hB0 hbor a⟩) (fun _ _ _ e => e) nFr
      · exact rp.nfz (q.1 hbor).1 nFr
    have ro3 : RpO G.K G.ca (fun a => F' a ∧ ¬ B a) H' (vs ++ dvs) own os fo' := by
      by_cases hbor : bor = []
      · clear nFr rp3 pw pw2 hpl hsp
        have key : ∀ {is : List Nat} {ds : List D} {fr : List Addr}, RpO G.K G.ca F' H' (vs ++ dvs) is ds fr → RpO G.K G.ca (fun a => F' a ∧ ¬ B a) H' (vs ++ dvs) is ds fr := by
          intro is ds fr h
          induction h with
          | nil => exact .nil
          | cons e r _ ih => exact .cons e (r.keep (fun _ _ e _ => e) (fun _ _ _ e _ => e) (fun _ _ _ e _ => e) (fun a z => ⟨z, hB0 hbor a⟩) (fun _ _ _ e => e) fun a z w => (r.own a z).1 w.1) ih
        exact key ro
      · exact ro.nfz (q.1 hbor).2 nFo'
    have djo : ∀ a ∈ fo', a ∉ fp2 := fun a z => djr a (List.mem_append_right _ z)
    have hro' : ∀ a ∈ fo', a ∈ G.fp0 ∨ G.H0 a = none := fun a z => ((rch.trans sA).trans st3).fps a (by simp [z])
    obtain ⟨fp4, ok4, sub4⟩ := ok3.puts ro3 pw2 pj (nodup_of (nodup_r nd') ok3.nd djo) hro'
    refine k v H' (fun a => F' a ∧ ¬ B a) (puts ρ2 js os) fp4 r fr' ⟨(sA.trans st3).less fun a z => ?_, ok4, nodup_of (nodup_l nd') ok4.nd fun a z y => ?_⟩ (.inl rp3) q.2
    · rcases List.mem_append.mp z with w | w
      · simp [w]
      · rcases List.mem_append.mp (sub4 a w) with y | y <;> simp [y]
    · rcases List.mem_append.mp (sub4 a y) with w | w
      · exact nodup_d nd' a z w
      · exact djr a (List.mem_append_left _ z) w
  · obtain ⟨st3, ok3, _⟩ := thru s dm
    have rx3 : RpL G.K G.ca (fun a => F' a ∧ ¬ B a) H' us xs [] := by
      by_cases hbor : bor = []
      · exact rx.keep (fun _ _ e _ => e) (fun _ _ _ e _ => e) (fun _ _ _ e _ => e) (fun a z => ⟨z, hB0 hbor a⟩) (fun _ _ _ e => e) fun _ z => nomatch z
      · exact rx.nfz (q.1 hbor) fun _ z => nomatch z
    exact lk c x σ H' _ ρ2 fp2 fs us xs ok3 ex hl rx3 q.2

theorem ls_call {own bor : List Nat} {sp : Spd} {dvs : List V} {dd : List D} {Ex : DXs} {W : WX} {wa : WA} {n : Nat} (lk : XLk G Ex W) (hd : ∀ F H, RpL G.K G.ca F H dvs dd []) (ho : ownOk own n = true) :
    ∀ σ H Q, LE G (wCall own bor n sp dd Ex wa) σ H Q → tCallSD (lift G.K G.ca own sp) dvs (fun σ cls d H => W cls d σ H) (LA G wa) σ H Q := fun σ H Q q => by
  obtain ⟨F, ρ, fp, Qd, ok, h, k⟩ := q
  exact ⟨F, ρ, fp, _, ok, h, fun vs H1 F1 ρ1 fp1 rs fr en rr q => call_core lk hd ho ok.rch en rr q k⟩

variable {P : Program} {w : World} {mg : Str → Option Value} {base : Heap} {k : Nat} {f : Addr} {fd : FuncData} {ps : List Str} {sp : Spd} {own bor : List Nat} {dvs : List V} {dd : List D} {dsv : List Value} {Ex : DXs} {W : WX} {x : Str} {wa : WA} {n : Nat}
/-- x(e, ..) -/
theorem d_call {p : Pos} (FO : FnG X.prog X.w X.K X.mg X.base (L2.CX X.prog X.w) k f fd ps (lift G.K G.ca own sp)) (hr : RoomG k X.A) (hm : X.mg x = some (.ref f)) (hk : PySem.W.keepIn X.K (.ref f) = true) (hb : Binds X.K fd ps dsv) (hdv : Vals dvs dsv) (tk : Takes X W) (lk : XLk G Ex W) (hd : ∀ F H, RpL G.K G.ca F H dvs dd [])
    (ha : PA X (e :: es) (LA G wa)) (ho : ownOk own n = true := by decide) (hg : Gl X x := by rfl) (hdb : (x == ("__debug__" : Str)) = false := by decide) (he : starEach (e :: es) X.env = (false, eval e X.env) :: starEach es X.env := by rfl) (hpl : (backTo pos (starEach es X.env)).any (·.1) = false := by rfl) :
    PE X (.Call (.Name x p) (e :: es) [] pos) (LE G (wCall own bor n sp dd Ex wa)) :=
  imE (pe_callG FO hr hg hm hk hb hdv (fun σ => passAt tk σ) ha hdb he hpl) (ls_call lk hd ho)
theorem xlk0 {W : WX} : XLk G exF W := fun _ _ _ _ _ _ _ _ _ _ _ _ _ _ z => z.elim

/-! ### a def's body -/
/-- what the owned parameters hold at the end -/
def outs (ρ : Sl) : List Nat → Option (List D)
  | [] => some []
  | i :: is => match ρ[i]?, outs ρ is with
    | some (some d), some ds => some (d :: ds)
    | _, _ => none
/-- the result: what a slot holds is handed out -/
def ret (ρ : Sl) : D → Option (D × Sl)
  | .sl i => match ρ[i]? with
    | some (some d) => some (d, ρ.set i none)
    | _ => none
  | d => some (d, ρ)
/-- the ends of a body that is to keep the promise -/
def endD (own : List Nat) (Qd : D → List D → Prop) : EndD where
  nx := fun ρ => ∃ os, outs ρ own = some os ∧ Qd .non os
  rt := fun r ρ => ∃ d ρ' os, ret ρ r = some (d, ρ') ∧ outs ρ' own = some os ∧ Qd d os
def startD (N : List Str) (ds : List D) : Sl := ds.map some ++ List.replicate (N.length - ds.length) none
theorem RpL.start {N : List Str} {vs : List V} {ds : List D} (h : RpL K ca F H vs ds fr) : ∀ m, RpS K ca F H (vs.map some ++ List.replicate m none) (ds.map some ++ List.replicate m none) fr := by
  intro m
  induction vs generalizing ds fr with
  | nil =>
    cases h
    induction m with
    | zero => exact .nil
    | succ m ih => exact .no ih
  | cons v vs ih => cases h with
    | cons r t => exact .has r (ih t)
theorem Ok.outs {vs : List V} : ∀ {own : List Nat} {os : List D} {ρ : Sl} {fp : List Addr}, Ok G F H σ ρ fp → own.Pairwise (· < ·) → M.outs ρ own = some os → (∀ i ∈ own, ∃ v, vs[i]? = some v ∧ σ[i]? = some (some v)) → ∃ fo, RpO G.K G.ca F H vs own os fo ∧ fo.Nodup ∧ ∀ a ∈ fo, a ∈ fp
  | [], os, ρ, fp, ok, _, e, _ => by cases e; exact ⟨[], .nil, List.nodup_nil, fun _ z => nomatch z⟩
  | i :: own, os, ρ, fp, ok, pw, e, hv => by
    unfold M.outs at e
    split at e
    · rename_i d ds q1 q2
      cases e
      obtain ⟨v, ev, es⟩ := hv i List.mem_cons_self
      obtain ⟨fs, fp1, rp, ok1, sub1, own1, ndf⟩ := Rr.take ok (j := i) (v := v) (fr := []) (.inr ⟨i, rfl, es, rfl⟩) q1
      have q3 : M.outs (ρ.set i none) own = some ds := by
        have : ∀ is : List Nat, (∀ j ∈ is, i < j) → M.outs (ρ.set i none) is = M.outs ρ is := by
          intro is
          induction is with
          | nil => intro _; rfl
          | cons j is ih =>
            intro hj
            show (match (ρ.set i none)[j]?, M.outs (ρ.set i none) is with
              | some (some d), some ds => some (d :: ds)
              | _, _ => none) = _
            rw [List.getElem?_set_ne (fun z => Nat.lt_irrefl _ (z ▸ hj j List.mem_cons_self)), ih fun k hk => hj k (List.mem_cons_of_mem _ hk)]
            rfl
        rw [this own (List.pairwise_cons.mp pw).1]
        exact q2
      obtain ⟨fo, ro, ndo, subo⟩ := Ok.outs ok1 (List.pairwise_cons.mp pw).2 q3 fun j hj => hv j (List.mem_cons_of_mem _ hj)
      exact ⟨fs ++ fo, .cons ev rp ro, nodup_of ndf ndo fun a z y => (own1 a z).2 (subo a y), fun a z => by
        rcases List.mem_append.mp z with z | z
        · exact (own1 a z).1
        · exact sub1 a (subo a z)⟩
    · cases e
theorem ret_ok (ok : Ok G F H σ ρ fp) (rr : Rr G F H σ v r fr) (nd : (fr ++ fp).Nodup) {d : D} {ρ' : Sl} (e : ret ρ r = some (d, ρ')) : ∃ fs fp', Rp G.K G.ca F H v d fs ∧ Ok G F H σ ρ' fp' ∧ (fs ++ fp').Nodup ∧ (∀ a ∈ fs, a ∈ fr ++ fp) ∧ ∀ a ∈ fp', a ∈ fp := by
  rcases rr with rp | ⟨i, rfl, hσ, rfl⟩
  · have e' : (r, ρ) = (d, ρ') := by
      have : ret ρ r = some (r, ρ) := by cases rp <;> rfl
      rw [this] at e
      exact Option.some.inj e
    cases e'
    exact ⟨fr, fp, rp, ok, nd, fun a z => List.mem_append_left _ z, fun _ z => z⟩
  · have e : (match ρ[i]? with
      | some (some d) => some (d, ρ.set i none)
      | _ => none) = some (d, ρ') := e
    cases q : ρ[i]? with
    | none => rw [q] at e; cases e
    | some x => cases x with
      | none => rw [q] at e; cases e
      | some c =>
        rw [q] at e
        cases e
        obtain ⟨fs, fp1, rp, ok1, sub1, own1, ndf⟩ := Rr.take ok (j := i) (v := v) (fr := []) (.inr ⟨i, rfl, hσ, rfl⟩) q
        exact ⟨fs, fp1, rp, ok1, nodup_of ndf ok1.nd fun a z => (own1 a z).2, fun a z => by simpa using (own1 a z).1, sub1⟩
/-- THE RULE: the body over data keeps the promise over data -/
theorem fn_lift {qual : Str} {params : Arguments} {body : List Stmt} {scope : Scope} {dvs0 : List V} {kws : List (Str × V)} {N : List Str} (FD : FunD K x qual params body scope dvs0 kws f fd) (S : FnScope N ps scope) (ho : ownOk own ps.length = true)
    (hlen : ∀ ds Qd Ed, sp ds Qd Ed → ds.length = ps.length) (wf : DXs → WS)
    (hbody : ∀ (cdv : Value) (A : Around) (outer : List Env) (s : Shared) (H : Hp) (E : XK), RoomG k (A.deeper (envOfC qual scope s.heap.objs.size f cdv)) → ∀ (G : Gc) (Ex : DXs), G.K = K → G.ca = ca → G.pm.map (·.1) = own → XLk G Ex (fun cls d _ H => E cls d H) →
      PSs (cxOf (L2.CX P w) P w K mg base N qual scope f cdv A outer s H E) body (LS G (wf Ex)))
    (hw : ∀ ds Qd Ed, sp ds Qd Ed → wf (fun c fs xs _ => Ed c fs xs) (endD own Qd) (startD N ds)) : FnG P w K mg base (L2.CX P w) (k + 1) f fd ps (lift K ca own sp) := by
  refine fnG_of FD S (fun vs H Q E h => ?_) (fun cdv A outer s H vs Q E hr h => ?_)
  · obtain ⟨F, ds, fp, Qd, Ed, rl, _, _, _, hs, _⟩ := h
    rw [rl.length]
    exact hlen ds Qd Ed hs
  · obtain ⟨F, ds, fp, Qd, Ed, rl, nd, dm, hpl, hs, hQ, hE⟩ := h
    have hl := hlen ds Qd Ed hs
    have ho1 := Bool.and_eq_true_iff.mp ho
    have asc : own.Pairwise (· < ·) := of_decide_eq_true ho1.1
    have lt : ∀ i ∈ own, i < vs.length := fun i hi => by rw [rl.length, hl]; exact of_decide_eq_true (List.all_eq_true.mp ho1.2 i hi)
    -- the owned parameters' values
    obtain ⟨pm, ep, hpm⟩ : ∃ pm : List (Nat × V), pm.map (·.1) = own ∧ ∀ p ∈ pm, vs[p.1]? = some p.2 := by
      refine ⟨own.filterMap fun i => (vs[i]?).map fun v => (i, v), ?_, fun p hp => ?_⟩
      · have : ∀ is : List Nat, (∀ i ∈ is, i < vs.length) → (is.filterMap fun i => (vs[i]?).map fun v => (i, v)).map (·.1) = is := by
          intro is
          induction is with
          | nil => intro _; rfl
          | cons i is ih =>
            intro h
            have hi := h i List.mem_cons_self
            rw [List.filterMap_cons, List.getElem?_eq_getElem hi]
            simp only [Option.map_some, List.map_cons]
            rw [ih fun j hj => h j (List.mem_cons_of_mem _ hj)]
        exact this own lt
      · obtain ⟨i, _, e⟩ := List.mem_filterMap.mp hp
        cases q : vs[i]? with
        | none => rw [q] at e; cases e
        | some v => rw [q] at e; cases e; exact q
    have hst : ∀ {i : Nat} {v : V}, vs[i]? = some v → (L2.start N vs)[i]? = some (some v) := fun {i v} e => by
      unfold L2.start
      rw [List.getElem?_append_left (by simpa using (List.getElem?_eq_some_iff.mp e).1), List.getElem?_map, e]; rfl
    let G : Gc := ⟨K, ca, pm, F, H, fp⟩
    have ok : Ok G F H (L2.start N vs) (startD N ds) fp := by
      refine ⟨?_, nd, dm, fun p hp => hst (hpm p hp), .refl⟩
      unfold L2.start startD
      rw [rl.length]
      exact rl.start (N := N) _
    refine ⟨_, hbody cdv A outer s H E hr G (fun c fs xs _ => Ed c fs xs) rfl rfl ep fun c x σ' H' F' ρ' fp' fs us xs ok' ex l rx q => hE c x H' F' fs us xs (ok'.rch.less fun _ z => nomatch z) ok'.dom ex l rx q, F, startD N ds, fp, endD own Qd, ok, hw ds Qd Ed hs, ⟨?_, ?_, fun _ _ _ _ _ _ _ z => z.elim, fun _ _ _ _ _ _ _ z => z.elim⟩⟩
    · rintro σ' H' F' ρ' fp' st ok' ⟨os, eo, q⟩
      obtain ⟨fo, ro, ndo, subo⟩ := ok'.outs (vs := vs) asc eo fun i hi => by
        rw [← ep] at hi
        obtain ⟨p, hp, e⟩ := List.mem_map.mp hi
        subst e
        exact ⟨p.2, hpm p hp, ok'.pm p hp⟩
      exact hQ .non H' F' .non [] os fo (st.less subo) (by simpa using ndo) ok'.dom .non ro q
    · rintro v σ' H' F' ρ' fp' r fr st ok' nd' rr ⟨d, ρ2, os, er, eo, q⟩
      obtain ⟨fs, fp2, rp, ok2, nd2, sub1, sub2⟩ := ret_ok ok' rr nd' er
      obtain ⟨fo, ro, ndo, subo⟩ := ok2.outs (vs := vs) asc eo fun i hi => by
        rw [← ep] at hi
        obtain ⟨p, hp, e⟩ := List.mem_map.mp hi
        subst e
        exact ⟨p.2, hpm p hp, ok2.pm p hp⟩
      refine hQ v H' F' d fs os fo (st.less fun a z => ?_) (nodup_of (nodup_l nd2) ndo fun a z y => nodup_d nd2 a z (subo a y)) ok2.dom rp ro q
      rcases List.mem_append.mp z with z | z
      · exact sub1 a z
      · exact List.mem_append_right _ (sub2 a (subo a z))
end
end M
/-! M11: several stores at once, tuples of owned things, the script. -/
namespace M
open PySem PySem.Spec PyProof.Rows L2

section
variable {G : Gc} {X : Cx} {F F' F1 F2 : Addr → Prop} {H H' H1 H2 : Hp} {σ σ' : L2.St} {ρ ρ' ρ1 ρ2 : Sl} {fp fp' fp1 fp2 fr fr1 fr2 fr' : List Addr} {v v1 v2 : V} {r r1 r2 d : D} {p : Addr} {o : HO}
  {a b c e : Expr} {es : List Expr} {wa wb wc we : WE} {ta tb tc : WT} {rest : List Expr} {pos : Pos} {K : PySem.W.Frag} {ca : Str → Addr}

/-- results, each kept owned (true) or shared (false); what a slot holds is shared -/
def parR : List Bool → Sl → List D → Option (List D × Sl)
  | _, ρ, [] => some ([], ρ)
  | b, ρ, r :: rs => match (if b.head? = some true then owR ρ r else fzR ρ r) with
    | some (d, ρ1) => match parR b.tail ρ1 rs with
      | some (ds, ρ2) => some (d :: ds, ρ2)
      | none => none
    | none => none
structure ParS (G : Gc) (F : Addr → Prop) (H : Hp) (σ : L2.St) (ρ : Sl) (fp fr : List Addr) (F' : Addr → Prop) (ρ' : Sl) (fp' fr' : List Addr) : Prop where
  mono : ∀ a, F a → F' a
  new : ∀ a, F' a → F a ∨ a ∈ fr ∨ (a ∈ fp ∧ a ∉ fp')
  ok : Ok G F' H σ ρ' fp'
  sub : ∀ a ∈ fp', a ∈ fp
  subr : ∀ a ∈ fr', a ∈ fr
  ndr : fr'.Nodup
theorem ParS.nd (h : ParS G F H σ ρ fp fr F' ρ' fp' fr') (nd : (fr ++ fp).Nodup) : (fr' ++ fp').Nodup := nodup_of h.ndr h.ok.nd fun a z y => nodup_d nd a (h.subr a z) (h.sub a y)
theorem ParS.step (h : ParS G F H σ ρ fp fr F' ρ' fp' fr') : Step F H (fr ++ fp) F' H (fr' ++ fp') where
  mono := h.mono
  new := fun a z => (h.new a z).imp id fun z => .inl (z.elim (fun w => List.mem_append_left _ w) fun w => List.mem_append_right _ w.1)
  keep := fun _ _ e _ => e
  there := fun _ o e => ⟨o, e⟩
  fps := fun a z => .inl ((List.mem_append.mp z).elim (fun w => List.mem_append_left _ (h.subr a w)) fun w => List.mem_append_right _ (h.sub a w))
/-- one result -/
theorem Rr.par1 {q : Bool} (ok : Ok G F H σ ρ fp) (h : Rr G F H σ v r fr) (nd : (fr ++ fp).Nodup) (hr : ∀ a ∈ fr, a ∈ G.fp0 ∨ G.H0 a = none) (e : (if q = true then owR ρ r else fzR ρ r) = some (d, ρ')) : ∃ F' fp' fr', ParS G F H σ ρ fp fr F' ρ' fp' fr' ∧ Rp G.K G.ca F' H v d fr' := by
  have share : ∀ {r : D} {fr : List Addr}, Rr G F H σ v r fr → (fr ++ fp).Nodup → (∀ a ∈ fr, a ∈ G.fp0 ∨ G.H0 a = none) → fzR ρ r = some (d, ρ') → ∃ F' fp' fr', ParS G F H σ ρ fp fr F' ρ' fp' fr' ∧ Rp G.K G.ca F' H v d fr' := fun {r fr} h nd hr e => by
    obtain ⟨F1, fp1, s, rp⟩ := h.share ok nd hr e
    exact ⟨F1, fp1, [], ⟨s.mono, s.new, s.ok, s.sub, (fun a z => nomatch z), List.nodup_nil⟩, rp⟩
  cases q with
  | false => exact share h nd hr e
  | true =>
    have e : owR ρ r = some (d, ρ') := e
    rcases h with rp | ⟨j, rfl, ev, rfl⟩
    · have e' : (r, ρ) = (d, ρ') := by
        have : owR ρ r = some (r, ρ) := by cases rp <;> rfl
        rw [this] at e
        exact Option.some.inj e
      cases e'
      exact ⟨F, fp, fr, ⟨fun _ z => z, fun _ z => .inl z, ok, fun _ z => z, fun _ z => z, nodup_l nd⟩, rp⟩
    · exact share (.inr ⟨j, rfl, ev, rfl⟩) nd hr (show fzR ρ (.sl j) = _ from e)
theorem RrL.par : ∀ {rs : List D} {bs : List Bool} {vs : List V} {F : Addr → Prop} {ρ : Sl} {fp fr : List Addr} {ds : List D} {ρ' : Sl}, Ok G F H σ ρ fp → RrL G F H σ vs rs fr → (fr ++ fp).Nodup → (∀ a ∈ fr, a ∈ G.fp0 ∨ G.H0 a = none) → parR bs ρ rs = some (ds, ρ') →
    ∃ F' fp' fr', ParS G F H σ ρ fp fr F' ρ' fp' fr' ∧ RpL G.K G.ca F' H vs ds fr'
  | [], bs, _, F, ρ, fp, _, ds, ρ', ok, .nil, nd, hr, e => by
    cases e
    exact ⟨F, fp, [], ⟨fun _ z => z, fun _ z => .inl z, ok, fun _ z => z, fun _ z => z, List.nodup_nil⟩, .nil⟩
  | r :: rs, bs, _, F, ρ, fp, _, ds, ρ', ok, @RrL.cons _ _ _ _ v vs _ _ f1 f2 h1 h2, nd, hr, e => by
    unfold parR at e
    split at e
    · rename_i d1 ρ1 q1
      split at e
      · rename_i ds2 ρ2 q2
        cases e
        have ndx : (f2 ++ fp).Nodup := by rw [List.append_assoc] at nd; exact nodup_r nd
        have nd1 : (f1 ++ fp).Nodup := by
          rw [List.append_assoc] at nd
          exact nodup_of (nodup_l nd) (nodup_r (nodup_r nd)) fun a z y => nodup_d nd a z (List.mem_append_right _ y)
        have d12 : ∀ a ∈ f1, a ∉ f2 := nodup_d (nodup_l nd)
        obtain ⟨F1, fp1, g1, s1, p1⟩ := h1.par1 (q := decide (bs.head? = some true)) ok nd1 (fun a z => hr a (List.mem_append_left _ z)) (by simpa using q1)
        have h2' : RrL G F1 H σ vs rs f2 := by
          refine h2.step (fp := f1 ++ fp) (fp' := g1 ++ fp1) s1.step (fun a z => ?_) fun a z y => ?_
          · rcases List.mem_append.mp z with z | z
            · exact (h1.own a z).1
            · exact ok.nf a z
          · rcases List.mem_append.mp y with y | y
            · exact d12 a y z
            · exact nodup_d ndx a z y
        have nd2 : (f2 ++ fp1).Nodup := nodup_of (nodup_l ndx) s1.ok.nd fun a z y => nodup_d ndx a z (s1.sub a y)
        obtain ⟨F2, fp2, g2, s2, p2⟩ := RrL.par s1.ok h2' nd2 (fun a z => hr a (List.mem_append_right _ z)) q2
        have nF2 : ∀ a ∈ g1, ¬ F2 a := fun a z f => by
          rcases s2.new a f with w | w | w
          · exact (p1.own a z).1 w
          · exact d12 a (s1.subr a z) w
          · exact nodup_d nd1 a (s1.subr a z) (s1.sub a w.1)
        have p1' : Rp G.K G.ca F2 H v d1 g1 := p1.keep (fun _ _ e _ => e) (fun _ _ _ e _ => e) (fun _ _ _ e _ => e) s2.mono (fun _ _ _ e => e) nF2
        refine ⟨F2, fp2, g1 ++ g2, ⟨fun a z => s2.mono a (s1.mono a z), fun a z => ?_, s2.ok, fun a z => s1.sub a (s2.sub a z), fun a z => ?_, nodup_of s1.ndr s2.ndr fun a z y => d12 a (s1.subr a z) (s2.subr a y)⟩, .cons p1' p2⟩
        · rcases s2.new a z with w | w | w
          · rcases s1.new a w with w | w | w
            · exact .inl w
            · exact .inr (.inl (List.mem_append_left _ w))
            · exact .inr (.inr ⟨w.1, fun x => w.2 (s2.sub a x)⟩)
          · exact .inr (.inl (List.mem_append_right _ w))
          · exact .inr (.inr ⟨s1.sub a w.1, w.2⟩)
        · rcases List.mem_append.mp z with z | z
          · exact List.mem_append_left _ (s1.subr a z)
          · exact List.mem_append_right _ (s2.subr a z)
      · cases e
    · cases e

/-- a tuple display whose items may be owned -/
def wTpo (wa : WA) : WE := fun ρ Q => wa ρ fun rs ρ1 => ∃ ds ρ2, parR (rs.map fun _ => true) ρ1 rs = some (ds, ρ2) ∧ ds.length ≤ sizeLine ∧ Q (.tpo ds) ρ2
theorem d_tpo {x1} {wa : WA} (h : PA X es (LA G wa)) : PE X (.Tuple es x1 pos) (LE G (wTpo wa)) := imE (pe_tup h) fun σ H Q q => by
  obtain ⟨F, ρ, fp, Qd, ok, h, k⟩ := q
  refine ⟨F, ρ, fp, _, ok, h, fun vs H1 F1 ρ1 fp1 rs fr en rr q => ?_⟩
  obtain ⟨ds, ρ2, e, z, q⟩ := q
  obtain ⟨F2, fp2, fr2, s, rp⟩ := rr.par en.ok en.nd (en.hr ok) e
  refine ⟨by rw [rp.length]; exact z, fun a ha => ?_⟩
  have en2 : En G F H fp σ F2 H1 ρ2 fp2 fr2 := ⟨en.st.trans s.step, s.ok, s.nd en.nd⟩
  have en3 := en2.trans (En.tup (o := .tup vs) en2.ok ha) fun x z => (rp.own x z).2.imp fun _ h => h.1
  rw [List.append_nil] at en3
  exact k _ _ F2 ρ2 fp2 (.tpo ds) fr2 en3 (.inl (.tpo (.of upd_same) (rp.new ha))) q

/-! ### a, b = x, y -/
def wPar (bs : List Bool) (st : List D → Sl → Sl) (n : Nat) (wa : WA) : WS := fun Dd ρ => wa ρ fun rs ρ1 => ∃ ds ρ2, rs.length = n ∧ parR bs ρ1 rs = some (ds, ρ2) ∧ Dd.nx (st ds ρ2)
def st2 (i j : Nat) : List D → Sl → Sl
  | [d, e], ρ => (ρ.set i (some d)).set j (some e)
  | _, ρ => ρ
def st3 (i j l : Nat) : List D → Sl → Sl
  | [d, e, f], ρ => ((ρ.set i (some d)).set j (some e)).set l (some f)
  | _, ρ => ρ
theorem RrL.len {vs : List V} {rs : List D} (h : RrL G F H σ vs rs fr) : vs.length = rs.length := by
  induction h with
  | nil => rfl
  | cons _ _ ih => simp [ih]
theorem Ok.setW {i : Nat} (ok : Ok G F H σ ρ fp) (hi : i < ρ.length) (hpm : ∀ p ∈ G.pm, p.1 ≠ i) (rp : Rp G.K G.ca F H v d fr) (nd : (fr ++ fr' ++ fp).Nodup) (hr : ∀ a ∈ fr ++ fr', a ∈ G.fp0 ∨ G.H0 a = none) : ∃ fp', Ok G F H (σ.set i (some v)) (ρ.set i (some d)) fp' ∧ (∀ a ∈ fp', a ∈ fr ++ fp) ∧ (fr' ++ fp').Nodup := by
  have nd' := nd
  rw [List.append_assoc] at nd
  obtain ⟨fp', ok', sub⟩ := ok.setV hi hpm rp (fun a z y => nodup_d nd a z (List.mem_append_right _ y)) (nodup_l nd) (fun a z => hr a (List.mem_append_left _ z))
  refine ⟨fp', ok', sub, nodup_of (nodup_l (nodup_r nd)) ok'.nd fun a z y => ?_⟩
  rcases List.mem_append.mp (sub a y) with w | w
  · exact nodup_d nd a w (List.mem_append_left _ z)
  · exact nodup_d (nodup_r nd) a z w
theorem ls_par {bs : List Bool} {i j : Nat} {wa : WA} (hpi : ∀ p ∈ G.pm, p.1 ≠ i) (hpj : ∀ p ∈ G.pm, p.1 ≠ j) : ∀ D σ H, i < σ.length ∧ j < σ.length ∧ LS G (wPar bs (st2 i j) 2 wa) D σ H → tPar i j (LA G wa) D σ H := fun D σ H ⟨hi, hj, q⟩ => by
  obtain ⟨F, ρ, fp, Dd, ok, h, k⟩ := q
  refine ⟨F, ρ, fp, _, ok, h, fun vs H1 F1 ρ1 fp1 rs fr en rr q => ?_⟩
  obtain ⟨ds, ρ2, hl, e, q⟩ := q
  obtain ⟨F2, fp2, fr2, s, rp⟩ := rr.par en.ok en.nd (en.hr ok) e
  have st := en.st.trans s.step
  have hr2 : ∀ a ∈ fr2, a ∈ G.fp0 ∨ G.H0 a = none := fun a z => (ok.rch.trans st).fps a (List.mem_append_left _ z)
  have l1 := rr.len
  have l2 := rp.length
  match vs, ds, fr2, rp with
  | [v, w], [d1, d2], _, .cons (fp := f1) r1 (.cons (fp := f2) r2 .nil) =>
    refine ⟨v, w, rfl, ?_⟩
    have nd := s.nd en.nd
    have len2 : ρ2.length = σ.length := s.ok.rs.length.symm
    have nd' : (f1 ++ f2 ++ fp2).Nodup := by simpa using nd
    obtain ⟨fp3, ok3, sub3, nd3⟩ := s.ok.setW (i := i) (fr' := f2) (by omega) hpi r1 nd' (by simpa using hr2)
    obtain ⟨fp4, ok4, sub4, _⟩ := ok3.setW (i := j) (fr' := []) (by rw [List.length_set]; omega) hpj r2 (by simpa using nd3) (fun a z => hr2 a (by simp at z; simp [z]))
    refine k.nx _ H1 F2 _ fp4 (st.less fun a z => ?_) ok4 q
    rcases List.mem_append.mp (sub4 a z) with w | w
    · simp [w]
    · rcases List.mem_append.mp (sub3 a w) with w | w <;> simp [w]
  | [], _, _, _ => simp at l1; omega
  | [_], _, _, _ => simp at l1; omega
  | _ :: _ :: _ :: _, _, _, _ => simp at l1; omega
  | [_, _], [], _, _ => simp at l2
  | [_, _], [_], _, _ => simp at l2
  | [_, _], _ :: _ :: _ :: _, _, _ => simp at l2
theorem ls_par3 {bs : List Bool} {i j l : Nat} {wa : WA} (hpi : ∀ p ∈ G.pm, p.1 ≠ i) (hpj : ∀ p ∈ G.pm, p.1 ≠ j) (hpl : ∀ p ∈ G.pm, p.1 ≠ l) : ∀ D σ H, i < σ.length ∧ j < σ.length ∧ l < σ.length ∧ LS G (wPar bs (st3 i j l) 3 wa) D σ H → tPar3 i j l (LA G wa) D σ H := fun D σ H ⟨hi, hj, hl', q⟩ => by
  obtain ⟨F, ρ, fp, Dd, ok, h, k⟩ := q
  refine ⟨F, ρ, fp, _, ok, h, fun vs H1 F1 ρ1 fp1 rs fr en rr q => ?_⟩
  obtain ⟨ds, ρ2, hl, e, q⟩ := q
  obtain ⟨F2, fp2, fr2, s, rp⟩ := rr.par en.ok en.nd (en.hr ok) e
  have st := en.st.trans s.step
  have hr2 : ∀ a ∈ fr2, a ∈ G.fp0 ∨ G.H0 a = none := fun a z => (ok.rch.trans st).fps a (List.mem_append_left _ z)
  have l1 := rr.len
  have l2 := rp.length
  match vs, ds, fr2, rp with
  | [v, w, x], [d1, d2, d3], _, .cons (fp := f1) r1 (.cons (fp := f2) r2 (.cons (fp := f3) r3 .nil)) =>
    refine ⟨v, w, x, rfl, ?_⟩
    have nd := s.nd en.nd
    have len2 : ρ2.length = σ.length := s.ok.rs.length.symm
    have nd' : (f1 ++ (f2 ++ f3) ++ fp2).Nodup := by simpa using nd
    obtain ⟨fp3, ok3, sub3, nd3⟩ := s.ok.setW (i := i) (fr' := f2 ++ f3) (by omega) hpi r1 nd' (by simpa using hr2)
    obtain ⟨fp4, ok4, sub4, nd4⟩ := ok3.setW (i := j) (fr' := f3) (by rw [List.length_set]; omega) hpj r2 (by simpa using nd3) (fun a z => hr2 a (by
      rcases List.mem_append.mp z with z | z <;> simp [z]))
    obtain ⟨fp5, ok5, sub5, _⟩ := ok4.setW (i := l) (fr' := []) (by rw [List.length_set, List.length_set]; omega) hpl r3 (by simpa using nd4) (fun a z => hr2 a (by simp at z; simp [z]))
    refine k.nx _ H1 F2 _ fp5 (st.less fun a z => ?_) ok5 q
    rcases List.mem_append.mp (sub5 a z) with w | w
    · simp [w]
    · rcases List.mem_append.mp (sub4 a w) with w | w
      · simp [w]
      · rcases List.mem_append.mp (sub3 a w) with w | w <;> simp [w]
  | [], _, _, _ => simp at l1; omega
  | [_], _, _, _ => simp at l1; omega
  | [_, _], _, _, _ => simp at l1; omega
  | _ :: _ :: _ :: _ :: _, _, _, _ => simp at l1; omega
  | [_, _, _], [], _, _ => simp at l2
  | [_, _, _], [_], _, _ => simp at l2
  | [_, _, _], [_, _], _, _ => simp at l2
  | [_, _, _], _ :: _ :: _ :: _ :: _, _, _ => simp at l2
theorem ds_par {bs : List Bool} {i j : Nat} {x y : Str} {wa : WA} {px py pt : Pos} {kt k2 pt2} (hc : X.calm = true) (hN : X.N.Nodup) (hi : X.N[i]? = some x) (hj : X.N[j]? = some y) (hij : i ≠ j)
    (hx : X.env.scope.names.lookup x = some .local) (hy : X.env.scope.names.lookup y = some .local) (hpi : ∀ p ∈ G.pm, p.1 ≠ i) (hpj : ∀ p ∈ G.pm, p.1 ≠ j) (ha : PA X [a, b] (LA G wa))
    (hw : swappedStores [.Tuple [.Name x px, .Name y py] kt pt] (.Tuple [a, b] k2 pt2) X.env = pure (some [x, y]) := by rfl)
    (hs : swapsWithSole [.Tuple [.Name x px, .Name y py] kt pt] (.Tuple [a, b] k2 pt2) pos.line X.env = pure false := by rfl) :
    PS X (.Assign [.Tuple [.Name x px, .Name y py] kt pt] (.Tuple [a, b] k2 pt2) pos) (LS G (wPar bs (st2 i j) 2 wa)) := by
  refine ⟨fun pins s σ H D I q => (ps_par hc hN hi hj hij hx hy ha hw hs).run pins s σ H D I (ls_par hpi hpj D σ H ⟨?_, ?_, q⟩)⟩
  · rw [I.len]; exact (List.getElem?_eq_some_iff.mp hi).1
  · rw [I.len]; exact (List.getElem?_eq_some_iff.mp hj).1
theorem ds_par3 {bs : List Bool} {i j l : Nat} {x y z : Str} {wa : WA} {px py pz pt : Pos} {kt k2 pt2} (hc : X.calm = true) (hN : X.N.Nodup) (hi : X.N[i]? = some x) (hj : X.N[j]? = some y) (hl : X.N[l]? = some z) (hij : i ≠ j) (hil : i ≠ l) (hjl : j ≠ l)
    (hx : X.env.scope.names.lookup x = some .local) (hy : X.env.scope.names.lookup y = some .local) (hz : X.env.scope.names.lookup z = some .local) (hpi : ∀ p ∈ G.pm, p.1 ≠ i) (hpj : ∀ p ∈ G.pm, p.1 ≠ j) (hpl : ∀ p ∈ G.pm, p.1 ≠ l) (ha : PA X [a, b, c] (LA G wa))
    (hw : swappedStores [.Tuple [.Name x px, .Name y py, .Name z pz] kt pt] (.Tuple [a, b, c] k2 pt2) X.env = pure (some [x, y, z]) := by rfl)
    (hs : swapsWithSole [.Tuple [.Name x px, .Name y py, .Name z pz] kt pt] (.Tuple [a, b, c] k2 pt2) pos.line X.env = pure false := by rfl) :
    PS X (.Assign [.Tuple [.Name x px, .Name y py, .Name z pz] kt pt] (.Tuple [a, b, c] k2 pt2) pos) (LS G (wPar bs (st3 i j l) 3 wa)) := by
  refine ⟨fun pins s σ H D I q => (ps_par3 hc hN hi hj hl hij hil hjl hx hy hz ha hw hs).run pins s σ H D I (ls_par3 hpi hpj hpl D σ H ⟨?_, ?_, ?_, q⟩)⟩
  · rw [I.len]; exact (List.getElem?_eq_some_iff.mp hi).1
  · rw [I.len]; exact (List.getElem?_eq_some_iff.mp hj).1
  · rw [I.len]; exact (List.getElem?_eq_some_iff.mp hl).1

/-! ### the script -/
theorem Rr.scr {ns : List Int} (h : Rr G F H σ v (.scr ns) fr) : ∃ a, v = .ref a ∧ fr = [] ∧ SqL G.K H a (ns.map V.int) := by
  rcases h with h | ⟨_, e, _⟩
  · cases h with
    | @scr a _ h =>
      refine ⟨a, rfl, rfl, ?_⟩
      rcases h with ⟨o, h⟩ | (h | ⟨o, h⟩) | h
      · exact .inl (.inr ⟨o, h⟩)
      · cases h
      · cases h
      · exact .inr h
  · cases e
def nLenS : ON := fun ρ rs K => ∃ ns, rs = [.scr ns] ∧ K (.int ns.length) ρ
theorem nLenS_ok : ONOk G (fun vs H Q => ∃ x n, vs = [x] ∧ LenV G.K x H n ∧ Q (.int n) H) nLenS := fun F H σ ρ fp vs rs fr Kd Q ok rr nd h k => by
  obtain ⟨ns, rfl, q⟩ := h
  obtain ⟨v, rfl, r1⟩ := rr.one
  obtain ⟨a, rfl, _, s⟩ := r1.scr
  exact ⟨_, ns.length, rfl, .inl ⟨_, s, by simp⟩, k _ H F ρ fp _ [] (En.stay ok) (.inl (.int _)) q⟩
theorem d_lenS {p : Pos} {wa : WA} (hK : X.K = G.K) (hg : Gl X "len") (hm : X.mg "len" = none) (ha : PA X (e :: es) (LA G wa)) (he : starEach (e :: es) X.env = (false, eval e X.env) :: starEach es X.env := by rfl) (hpl : (backTo pos (starEach es X.env)).any (·.1) = false := by rfl) :
    PE X (.Call (.Name "len" p) (e :: es) [] pos) (LE G (wCB nLenS wa)) := d_cb call_len (hK ▸ nLenS_ok) hg hm boot_len ha (by decide) (by decide) he hpl
def oIxS : O2 := fun ρ x y K => ∃ ns i u, x = .scr ns ∧ y = .int i ∧ atI ns i = some u ∧ K (.int u)
theorem atI_map {ns : List Int} {i u : Int} (h : atI ns i = some u) : atI (ns.map V.int) i = some (.int u) := by
  unfold atI at h ⊢
  rw [List.length_map]
  cases q : ixN ns.length i with
  | none => rw [q] at h; cases h
  | some j =>
    rw [q] at h
    show (ns.map V.int)[j]? = _
    rw [List.getElem?_map, show ns[j]? = some u from h]; rfl
theorem oIxS_ok : O2Ok G (rIx G.K) oIxS := fun F H σ ρ fp v1 v2 x y f1 f2 Kd Q ok r1 r2 nd h k => by
  obtain ⟨ns, i, u, rfl, rfl, e, q⟩ := h
  obtain ⟨rfl, _⟩ := r2.int
  obtain ⟨a, rfl, _, s⟩ := r1.scr
  exact .inl ⟨a, _, i, _, rfl, rfl, s, atI_map e, k _ H F _ [] (En.refl ok) (.int _) q⟩
theorem d_ixS (hK : X.K = G.K) (ha : PE X a (LE G wa)) (hb : PE X b (LE G wb)) (hs : PlainIx b := by exact fun _ _ => rfl) : PE X (.Subscript a b pos) (LE G (wOp oIxS wa wb)) :=
  imE (pe_ix ix_seq ha hb hs) (LE.op (hK ▸ oIxS_ok))
theorem RpL.ints (ns : List Int) : RpL K ca F H (ns.map V.int) (ns.map D.int) [] := by
  induction ns with
  | nil => exact .nil
  | cons n ns ih => exact .cons (fp := []) (fq := []) (.int n) ih
def wSlS (we : WE) (wl wh : WO) : WE := fun ρ Q => we ρ fun x ρ1 => wl ρ1 fun lo ρ2 => wh ρ2 fun hi ρ3 => ∃ ns, x = .scr ns ∧ Q (.lst true (cut (ns.map D.int) lo hi)) ρ3
theorem d_slS {lo hi : Option Expr} {wl wh : WO} {p2 : Pos} (hK : X.K = G.K) (he : PE X e (LE G we)) (hl : PO X lo (LO G wl)) (hu : PO X hi (LO G wh)) : PE X (.Subscript e (.Slice lo hi none p2) pos) (LE G (wSlS we wl wh)) :=
  imE (pe_slice sl_list he hl hu) fun σ H Q q => by
    obtain ⟨F, ρ, fp, Qd, ok, h, k⟩ := q
    refine ⟨F, ρ, fp, _, ok, h, fun v H1 F1 ρ1 fp1 x f1 en1 rr1 q => ?_⟩
    refine ⟨F1, ρ1, fp1, _, en1.ok, q, fun i H2 F2 ρ2 fp2 en2 q => ?_⟩
    refine ⟨F2, ρ2, fp2, _, en2.ok, q, fun j H3 F3 ρ3 fp3 en3 q => ?_⟩
    have en := (en1.drop en2).drop en3
    have rr := (rr1.step en2.st en1.ok.nf (nodup_d en1.nd))
    have nd2 : (f1 ++ fp2).Nodup := ((en1.trans en2 rr1.dom)).nd |> fun z => by simpa using z
    have rr3 := rr.step en3.st en2.ok.nf (nodup_d nd2)
    obtain ⟨ns, rfl, qq⟩ := q
    obtain ⟨a, rfl, _, s⟩ := rr3.scr
    exact ⟨a, _, rfl, hK ▸ s, fun p hp => k _ _ F3 ρ3 fp3 _ [p] (en.trans0 (En.own en.ok hp)) (.inl (.low upd_same (en.ok.not_none hp).1 (((RpL.ints ns).cut _ _).new hp))) qq⟩
end
end M
/-! M12: defs by name. -/
namespace M
open PySem PySem.Spec PyProof.Rows L2

/-- a def that may be called by its name -/
structure Cal (P : Program) (w : World) (K : PySem.W.Frag) (ca : Str → Addr) (mg : Str → Option Value) (base : Heap) (k : Nat) (x : Str) (own : List Nat) (sp : Spd) : Prop where
  ex : ∃ (f : Addr) (fd : FuncData) (ps : List Str), FnG P w K mg base (L2.CX P w) k f fd ps (lift K ca own sp) ∧ mg x = some (.ref f) ∧ PySem.W.keepIn K (.ref f) = true ∧ Binds K fd ps []
/-- the built-in names are free -/
structure Bt (mg : Str → Option Value) : Prop where
  len : mg "len" = none
  range : mg "range" = none
  list : mg "list" = none
  tuple : mg "tuple" = none
  str : mg "str" = none
  int : mg "int" = none
  bool : mg "bool" = none
  repr : mg "repr" = none
  abs : mg "abs" = none
  min : mg "min" = none
  max : mg "max" = none
  sum : mg "sum" = none
  all : mg "all" = none
  any : mg "any" = none
  sorted : mg "sorted" = none
  divmod : mg "divmod" = none
  isinstance : mg "isinstance" = none
  enumerate : mg "enumerate" = none
  zip : mg "zip" = none
  dict : mg "dict" = none
  set : mg "set" = none
  type : mg "type" = none

section
variable {G : Gc} {X : Cx} {x : Str} {own bor : List Nat} {n k j : Nat} {sp : Spd} {wa : WA} {e : Expr} {es : List Expr} {Ex : DXs} {W : WX}
theorem d_c {p pos : Pos} (c : Cal X.prog X.w X.K G.ca X.mg X.base k x own sp) (hr : RoomG j X.A) (ha : PA X (e :: es) (LA G wa)) (hK : X.K = G.K := by rfl) (hk : k ≤ j := by decide) (ho : ownOk own n = true := by decide) (hg : Gl X x := by rfl) (hdb : (x == ("__debug__" : Str)) = false := by decide) (he : starEach (e :: es) X.env = (false, eval e X.env) :: starEach es X.env := by rfl) (hpl : (backTo pos (starEach es X.env)).any (·.1) = false := by rfl) :
    PE X (.Call (.Name x p) (e :: es) [] pos) (LE G (wCall own bor n sp [] exF wa)) := by
  obtain ⟨f, fd, ps, F, hm, kp, b⟩ := c.ex
  rw [hK] at F
  exact d_call (G := G) (by rw [hK]; exact F) (hr.mono hk) hm kp b .nil takes0 xlk0 (fun _ _ => .nil) ha ho hg hdb he hpl
theorem d_cx {p pos : Pos} (c : Cal X.prog X.w X.K G.ca X.mg X.base k x own sp) (hr : RoomG j X.A) (tk : Takes X W) (lk : XLk G Ex W) (ha : PA X (e :: es) (LA G wa)) (hK : X.K = G.K := by rfl) (hk : k ≤ j := by decide) (ho : ownOk own n = true := by decide) (hg : Gl X x := by rfl) (hdb : (x == ("__debug__" : Str)) = false := by decide) (he : starEach (e :: es) X.env = (false, eval e X.env) :: starEach es X.env := by rfl) (hpl : (backTo pos (starEach es X.env)).any (·.1) = false := by rfl) :
    PE X (.Call (.Name x p) (e :: es) [] pos) (LE G (wCall own bor n sp [] Ex wa)) := by
  obtain ⟨f, fd, ps, F, hm, kp, b⟩ := c.ex
  rw [hK] at F
  exact d_call (G := G) (by rw [hK]; exact F) (hr.mono hk) hm kp b .nil tk lk (fun _ _ => .nil) ha ho hg hdb he hpl
theorem d_glI {x : Str} {i : Int} {pos : Pos} (hm : ∃ t, X.mg x = some (.int i t)) (hg : Gl X x := by rfl) (hd : (x == ("__debug__" : Str)) = false := by decide) : PE X (.Name x pos) (LE G (wC (.int i))) := by
  obtain ⟨t, hm⟩ := hm
  exact le_c (pe_glob (v := .int i) hg hm ⟨t, rfl⟩ hd) fun _ _ _ _ => .int i
theorem d_glS {x z : Str} {pos : Pos} (hm : ∃ t, X.mg x = some (.str z t)) (hg : Gl X x := by rfl) (hd : (x == ("__debug__" : Str)) = false := by decide) : PE X (.Name x pos) (LE G (wC (.str z))) := by
  obtain ⟨t, hm⟩ := hm
  exact le_c (pe_glob (v := .str z) hg hm ⟨t, rfl⟩ hd) fun _ _ _ _ => .str z
def wNeg (wa : WE) : WE := fun ρ Q => wa ρ fun x ρ1 => ∃ i, x = .int i ∧ Q (.int (-i)) ρ1
theorem d_ng {a : Expr} {wa : WE} {pos : Pos} (ha : PE X a (LE G wa)) : PE X (.UnaryOp .USub a pos) (LE G (wNeg wa)) := d_neg ha
theorem pmni {own vs : List Nat} (h : G.pm.map (·.1) = own) (hi : own.all (fun j => !vs.contains j) = true := by decide) : ∀ p ∈ G.pm, p.1 ∉ vs := fun p hp e => by
  have : p.1 ∈ own := by rw [← h]; exact List.mem_map.mpr ⟨p, hp, rfl⟩
  have := List.all_eq_true.mp hi _ this
  simp [e] at this
theorem gOw_name {i : Nat} (hpm : ∀ p ∈ G.pm, p.1 ≠ i) : ∀ v σ H Q, LG G (gOw i) [i] v σ H Q → i < σ.length → gName i v σ H Q := fun v σ H Q q hi => by
  obtain ⟨F, ρ, fp, r, fr, Qd, ok, rr, ⟨nd, hr⟩, ⟨d, ρ1, e, q⟩, k⟩ := q
  obtain ⟨F1, fp1, g1, s1, rp⟩ := rr.par1 (q := true) ok nd hr e
  have hl : i < ρ1.length := by
    have := s1.ok.rs.length
    omega
  have nd1 := s1.nd nd
  obtain ⟨fp2, ok2, sub⟩ := s1.ok.setV (i := i) hl hpm rp (nodup_d nd1) (nodup_l nd1) (fun a z => hr a (s1.subr a z))
  exact k _ H F1 _ fp2 (s1.step.less sub) ok2 off_set q
theorem ds_lcN {i : Nat} {y : Str} {py spos pos : Pos} {elt tg iter : Expr} {ifs : List Expr} {scope : Scope} {own : List (Str × Nat)} {wi : WI} {g gy : WG} {S : List Nat} {wt : WT} {we : WE} (hc : X.calm = true) (hN : X.N.Nodup) (hy : X.N[i]? = some y) (hyl : X.env.scope.names.lookup y = some .local) (hgy : ∀ v σ H Q, LG G gy [i] v σ H Q → i < σ.length → gName i v σ H Q)
    (hsw : swapsWith (.ListComp elt [⟨tg, iter, ifs, 0⟩] scope pos) (some (.Name y py)) spos.line X.env = pure true) (hi : PI X tg iter (LW G wi)) (ok : BlkOk X.N X.env.scope scope own)
    (hg : ∀ (s : Shared) (H : Hp) (C : Addr) (cl : List (Str × Addr)) (fp : List Addr), PG (X.blk s H scope (compEnvC scope cl C X.env) fp) tg (LG G g S)) (ht : ∀ (s : Shared) (H : Hp) (C : Addr) (cl : List (Str × Addr)) (fp : List Addr), PTs (X.blk s H scope (compEnvC scope cl C X.env) fp) ifs (LT G wt))
    (he : ∀ (s : Shared) (H : Hp) (C : Addr) (cl : List (Str × Addr)) (fp : List Addr), PE (X.blk s H scope (compEnvC scope cl C X.env) fp) elt (LE G we)) (hS : ∀ j ∈ S, j ∈ own.map (·.2)) (hpm : ∀ p ∈ G.pm, p.1 ∉ own.map (·.2)) (hs : ∀ x, foldedSetIterable iter X.env x = pure x := by intro _; rfl) :
    PS X (.Assign [.Name y py] (.ListComp elt [⟨tg, iter, ifs, 0⟩] scope pos) spos) (LS G (wAsg (wLc wi g wt we (own.map (·.2))) gy)) := ⟨fun pins s σ H D I q => (ps_setLc hc hN hy hyl hsw hi ok hg ht he hs).run pins s σ H D I (by
  obtain ⟨F, ρ, fp, Dd, ok, h, k⟩ := q
  refine le_lc hS hpm σ H _ ⟨F, ρ, fp, _, ok, h, fun v H1 F1 ρ1 fp1 r fr en rr q => ?_⟩
  exact hgy v σ H1 _ ⟨F1, ρ1, fp1, r, fr, Dd.nx, en.ok, rr, ⟨en.nd, en.hr ok⟩, q, fun σ' H' F' ρ' fp' s ok' _ q' => k.nx σ' H' F' ρ' fp' (en.st.trans s) ok' q'⟩ (by rw [I.len]; exact (List.getElem?_eq_some_iff.mp hy).1))⟩
end
end M
/-! M13: instances: fields, methods, properties, made anew. -/
namespace M
open PySem PySem.Spec PyProof.Rows L2

def getX {α : Type} (f : Str) : List Str → List α → Option α
  | g :: r, x :: xs => if g = f then some x else getX f r xs
  | _, _ => none
def putK (f : Str) : List Str → List Str
  | [] => [f]
  | g :: r => if g = f then g :: r else g :: putK f r
def putX {α : Type} (f : Str) (d : α) : List Str → List α → List α
  | g :: r, x :: xs => if g = f then d :: xs else x :: putX f d r xs
  | _, _ => [d]
theorem putF_zip (f : Str) (v : V) : ∀ (fs : List Str) (us : List V), fs.length = us.length → putF f v (fs.zip us) = (putK f fs).zip (putX f v fs us)
  | [], [], _ => rfl
  | g :: fs, u :: us, h => by
    show (if g = f then (g, v) :: fs.zip us else (g, u) :: putF f v (fs.zip us)) = _
    unfold putK putX
    by_cases e : g = f
    · rw [if_pos e, if_pos e, if_pos e]; rfl
    · rw [if_neg e, if_neg e, if_neg e, putF_zip f v fs us (by simpa using h)]; rfl
theorem put_len {α : Type} (f : Str) (v : α) : ∀ (fs : List Str) (us : List α), fs.length = us.length → (putK f fs).length = (putX f v fs us).length
  | [], [], _ => rfl
  | g :: fs, u :: us, h => by
    unfold putK putX
    by_cases e : g = f
    · rw [if_pos e, if_pos e]; simpa using h
    · rw [if_neg e, if_neg e]
      have := put_len f v fs us (by simpa using h)
      simp [this]
theorem getX_lookup (f : Str) : ∀ (fs : List Str) (us : List V), (fs.zip us).lookup f = getX f fs us
  | [], _ => by cases ‹List V› <;> rfl
  | g :: fs, [] => rfl
  | g :: fs, u :: us => by
    show List.lookup f ((g, u) :: fs.zip us) = _
    unfold getX
    by_cases e : g = f
    · subst e
      rw [if_pos rfl, List.lookup_cons_self]
    · rw [if_neg e, List.lookup_cons, show (f == g) = false from beq_eq_false_iff_ne.mpr (Ne.symm e)]
      exact getX_lookup f fs us

section
variable {G : Gc} {X : Cx} {F F' F1 F2 : Addr → Prop} {H H' H1 H2 : Hp} {σ σ' : L2.St} {ρ ρ' ρ1 ρ2 : Sl} {fp fp' fp1 fp2 fr fr1 fr2 fr' fo : List Addr} {v v1 v2 : V} {r r1 r2 d : D} {p : Addr} {o : HO}
  {a b c e : Expr} {es : List Expr} {wa wb wc we wo : WE} {ta tb tc : WT} {rest : List Expr} {pos : Pos} {K : PySem.W.Frag} {ca : Str → Addr}

theorem RpL.getX {f : Str} : ∀ {fs : List Str} {ds : List D} {vs : List V}, RpL K ca F H vs ds [] → ∀ {d : D}, M.getX f fs ds = some d → ∃ v, M.getX f fs vs = some v ∧ Rp K ca F H v d []
  | [], ds, vs, _, d, e => by cases ds <;> cases e
  | g :: fs, [], vs, _, d, e => by cases e
  | g :: fs, x :: ds, v :: vs, h, d, e => by
    obtain ⟨r, t⟩ := h.nil_of
    unfold M.getX at e ⊢
    by_cases q : g = f
    · rw [if_pos q] at e ⊢; cases e; exact ⟨v, rfl, r⟩
    · rw [if_neg q] at e ⊢; exact RpL.getX t e
theorem RpL.noX {f : Str} : ∀ {fs : List Str} {ds : List D} {vs : List V} {fr : List Addr}, RpL K ca F H vs ds fr → M.getX f fs ds = none → M.getX f fs vs = none
  | [], ds, vs, _, _, e => by cases vs <;> rfl
  | g :: fs, [], [], _, _, e => rfl
  | g :: fs, x :: ds, v :: vs, _, .cons r t, e => by
    unfold M.getX at e ⊢
    by_cases q : g = f
    · rw [if_pos q] at e; cases e
    · rw [if_neg q] at e ⊢; exact RpL.noX t e
theorem RpL.putX {f : Str} (rv : Rp K ca F H v d []) : ∀ {fs : List Str} {ds : List D} {vs : List V}, RpL K ca F H vs ds [] → RpL K ca F H (M.putX f v fs vs) (M.putX f d fs ds) []
  | [], [], [], _ => .one rv
  | [], x :: ds, v :: vs, h => .one rv
  | g :: fs, [], [], _ => .one rv
  | g :: fs, x :: ds, v :: vs, h => by
    obtain ⟨r, t⟩ := h.nil_of
    unfold M.putX
    by_cases q : g = f
    · rw [if_pos q, if_pos q]; exact .cons (fp := []) (fq := []) rv t
    · rw [if_neg q, if_neg q]; exact .cons (fp := []) (fq := []) r (RpL.putX rv t)

/-- an instance -/
theorem Rp.ins {o : Bool} {c : Str} {fs : List Str} {xs : List D} (h : Rp K ca F H v (.ins o c fs xs) fr) : ∃ a dx vs, v = .ref a ∧ H a = some (.ins (ca c) dx (fs.zip vs)) ∧ fs.length = vs.length ∧ RpL K ca F H vs xs [] := by
  cases h with
  | ifz e _ l r => exact ⟨_, _, _, rfl, e, l, r⟩
  | iow e _ l r => exact ⟨_, _, _, rfl, e, l, r⟩
def wFld (c f : Str) (wo : WE) : WE := fun ρ Q => wo ρ fun x ρ1 => ∃ o fs xs d, pk ρ1 x = some (.ins o c fs xs) ∧ getX f fs xs = some d ∧ Q d ρ1
theorem d_fld {c f : Str} (hc : Cls X.K (G.ca c)) (hn : NoAttr X.K (G.ca c) f) (he : PE X e (LE G wo)) (hb : attributeBase e f X.env (eval e X.env) = eval e X.env := by rfl) : PE X (.Attribute e f pos) (LE G (wFld c f wo)) := imE (pe_fld he hb) fun σ H Q q => by
  obtain ⟨F, ρ, fp, Qd, ok, h, k⟩ := q
  refine ⟨F, ρ, fp, _, ok, h, fun v1 H1 F1 ρ1 fp1 x f1 en1 rr1 q => ?_⟩
  obtain ⟨o, fs, xs, d, e1, e2, q⟩ := q
  obtain ⟨_, rp, _⟩ := rr1.see en1.ok e1
  obtain ⟨a, dx, vs, rfl, ha, l, rl⟩ := rp.ins
  obtain ⟨u, eu, ru⟩ := rl.getX e2
  exact ⟨a, G.ca c, dx, _, u, rfl, ha, hc, hn, by rw [getX_lookup]; exact eu, k u H1 F1 ρ1 fp1 d [] (en1.drop (En.refl en1.ok)) (.inl ru) q⟩

/-- e.f = .., e an instance that a slot owns -/
def gAttr (c f : Str) (wo : WE) : WG := fun r ρ Q => wo ρ fun o ρ1 => ∃ j fs xs d ρ2, o = .sl j ∧ fzR ρ1 r = some (d, ρ2) ∧ ρ2[j]? = some (some (.ins true c fs xs)) ∧ fs.length < 1000 ∧ Q (ρ2.set j (some (.ins true c (putK f fs) (putX f d fs xs))))
theorem low_ins {a : Addr} {c : Str} {fs : List Str} {xs : List D} : ∀ fp, Rp K ca F H (.ref a) (.ins true c fs xs) fp → fp = [a] := fun fp h => by cases h; rfl
theorem pg_attr {o : Expr} {f : Str} {to : TE} (ho : PE X o to) : PG X (.Attribute o f pos) (fun y σ H Q => to σ H fun x H2 => ∃ a C dx fs, x = .ref a ∧ H2 a = some (.ins C dx fs) ∧ Cls X.K C ∧ NoAttr X.K C f ∧ fs.length < 1000 ∧ Q σ (upd H2 a (.ins C dx (putF f y fs)))) := by
  refine ⟨fun pins s σ H v u Q I r h => ?_⟩
  rw [assign_Attribute]
  refine wpAny_bind (wpAny_holding (thn (ho.run pins s σ H _ I h) fun ov s1 ⟨x, H1, I1, r1, q1⟩ => ?_))
  obtain ⟨a, C, dx, fs, rfl, ea, c, n, hl, q⟩ := q1
  obtain rfl : ov = Value.ref a := r1
  refine wpAny_bind (wpAny_standAt (wpAny_bind (wpAny_holding ?_)))
  exact setattr_ok I1 ea c n hl r fun s' I' => wpAny_release ⟨σ, _, I', q⟩
theorem dg_attr {o : Expr} {c f : Str} (hc : Cls X.K (G.ca c)) (hn : NoAttr X.K (G.ca c) f) (ho : PE X o (LE G wo)) : PG X (.Attribute o f pos) (LG G (gAttr c f wo) []) := imG (pg_attr ho) fun v σ H Q q => by
  obtain ⟨F, ρ, fp, r, fr, Qd, ok, rr, ⟨nd, hr⟩, h, k⟩ := q
  refine ⟨F, ρ, fp, _, ok, h, fun vo H1 F1 ρ1 fp1 o f1 en1 ro q => ?_⟩
  obtain ⟨j, fs, xs, d, ρ2, rfl, e3, e4, hl, q⟩ := q
  obtain ⟨hσ, rfl⟩ := ro.sl
  have st : Step F H fp F1 H1 fp1 := en1.st0
  have rr2 := rr.step st ok.nf (nodup_d nd)
  have nd2 : (fr ++ fp1).Nodup := nodup_of (nodup_l nd) en1.ok.nd fun a z y => by
    rcases st.fps a y with w | w
    · exact nodup_d nd a z w
    · obtain ⟨u, eu⟩ := rr.dom a z
      rw [eu] at w; cases w
  obtain ⟨F3, fp3, s3, rp⟩ := rr2.share en1.ok nd2 hr e3
  obtain ⟨l, fq, r', e1, g1, _, g3, _⟩ := s3.ok.rs.at_ (i := j) (by rw [List.getElem?_eq_some_iff] at e4; exact e4.1)
  obtain ⟨v', ev, rpi⟩ := g1 _ e4
  rw [hσ] at ev; cases ev
  cases rpi with
  | @iow a dx _ _ us _ ha nF ll rl =>
    have rl2 := rl.putX (f := f) (fs := fs) rp
    obtain ⟨fp4, en4⟩ := s3.ok.change (fr := []) e4 hσ low_ins ha trivial (u := .ins (G.ca c) dx ((putK f fs).zip (putX f v fs us))) (d1 := .ins true c (putK f fs) (putX f d fs xs))
      (.iow upd_same nF (put_len f v fs us ll) (rl2.mut ha trivial nF))
    refine ⟨a, G.ca c, dx, _, rfl, ha, hc, hn, by rw [List.length_zip]; omega, ?_⟩
    rw [putF_zip f v fs us ll]
    refine k σ _ F3 _ fp4 ?_ en4.ok off_refl q
    have s1 : Step F H (fr ++ fp) F1 H1 (fr ++ fp1) := st.frame fr
    have s4 : Step F3 H1 fp3 F3 (upd H1 a (HO.ins (G.ca c) dx ((putK f fs).zip (putX f v fs us)))) fp4 := by simpa using en4.st
    exact s1.trans (s3.step.trans s4)

/-! ### a method called -/
/-- a def that may be called as a method (a property, a special method) of the class c -/
structure Met (P : Program) (w : World) (K : PySem.W.Frag) (ca : Str → Addr) (mg : Str → Option Value) (base : Heap) (k : Nat) (c m : Str) (own : List Nat) (sp : Spd) : Prop where
  ex : ∃ (f : Addr) (fd : FuncData) (ps : List Str), FnG P w K mg base (L2.CX P w) k f fd ps (lift K ca own sp) ∧ L2.Meth K (ca c) m f ∧ Binds K fd ps [] ∧ PySem.W.fnIn K f = true
  cls : Cls K (ca c)
def isIns (ρ : Sl) (r : D) (c m : Str) : Prop := ∃ o fs xs, pk ρ r = some (.ins o c fs xs) ∧ getX m fs xs = none
def wMeth (c m : Str) (own bor : List Nat) (n : Nat) (sp : Spd) (dd : List D) (Ex : DXs) (wo : WE) (wa : WA) : WE := fun ρ Q => wo ρ fun x ρ0 => isIns ρ0 x c m ∧ wa ρ0 fun rs ρ1 => callD own bor n sp dd Ex Q (x :: rs) ρ1
theorem isIns.at_ {c m : Str} (ok : Ok G F H σ ρ fp) (rr : Rr G F H σ v r fr) (h : isIns ρ r c m) : ∃ a dx fs, v = .ref a ∧ H a = some (.ins (G.ca c) dx fs) ∧ fs.lookup m = none := by
  obtain ⟨o, fs, xs, e1, e2⟩ := h
  obtain ⟨_, rp, _⟩ := rr.see ok e1
  obtain ⟨a, dx, vs, rfl, ha, l, rl⟩ := rp.ins
  exact ⟨a, dx, _, rfl, ha, by rw [getX_lookup]; exact rl.noX e2⟩
theorem ls_meth {c m : Str} {own bor : List Nat} {sp : Spd} {dvs : List V} {dd : List D} {Ex : DXs} {W : WX} {wa : WA} {n : Nat} (lk : XLk G Ex W) (hd : ∀ F H, RpL G.K G.ca F H dvs dd []) (ho : ownOk own n = true) :
    ∀ σ H Q, LE G (wMeth c m own bor n sp dd Ex wo wa) σ H Q → tMethS (G.ca c) m (lift G.K G.ca own sp) dvs (fun σ cls d H => W cls d σ H) (LE G wo) (LA G wa) σ H Q := fun σ H Q q => by
  obtain ⟨F, ρ, fp, Qd, ok, h, k⟩ := q
  refine ⟨F, ρ, fp, _, ok, h, fun v0 H0 F0 ρ0 fp0 r0 f0 en0 rr0 ⟨hi, q⟩ => ?_⟩
  obtain ⟨a, dx, fs, rfl, ha, hm⟩ := hi.at_ en0.ok rr0
  refine ⟨a, dx, fs, rfl, ha, hm, F0, ρ0, fp0, _, en0.ok, q, fun vs H1 F1 ρ1 fp1 rs fr en rr q => ?_⟩
  exact call_core (vs := .ref a :: vs) lk hd ho ok.rch (en0.trans en rr0.dom) (.cons (rr0.step en.st en0.ok.nf (nodup_d en0.nd)) rr) q k
theorem d_meth {c m : Str} {own bor : List Nat} {sp : Spd} {Ex : DXs} {W : WX} {wa : WA} {n k j : Nat} {apos : Pos} {o : Expr} {pl : Sem Bool} (me : Met X.prog X.w X.K G.ca X.mg X.base k c m own sp) (hr : RoomG j X.A) (tk : Takes X W) (lk : XLk G Ex W) (he : PE X o (LE G wo)) (ha : PA X (e :: es) (LA G wa)) (hK : X.K = G.K := by rfl) (hk : k ≤ j := by decide) (ho : ownOk own n = true := by decide)
    (hst : starEach (e :: es) X.env = (false, eval e X.env) :: starEach es X.env := by rfl) (hpl : (backTo pos (starEach es X.env)).any (·.1) = false := by rfl) (ht : MRunK X o m (e :: es) [] apos pos pl := by rfl) :
    PE X (.Call (.Attribute o m apos) (e :: es) [] pos) (LE G (wMeth c m own bor n sp [] Ex wo wa)) := by
  obtain ⟨f, fd, ps, F, hm, b, _⟩ := me.ex
  exact imE (pe_methG (pl := pl) he me.cls hm F (hr.mono hk) b .nil (fun σ => passAt tk σ) ha hst hpl ht) (hK ▸ ls_meth (dvs := []) lk (fun _ _ => .nil) ho)
theorem la_nil : ∀ σ H Q, LA G wNil σ H Q → tNil σ H Q := fun σ H Q q => by
  obtain ⟨F, ρ, fp, Qd, ok, h, k⟩ := q
  exact k [] H F ρ fp [] [] (En.refl ok) .nil h
theorem d_meth0 {c m : Str} {own bor : List Nat} {sp : Spd} {Ex : DXs} {W : WX} {n k j : Nat} {apos : Pos} {o : Expr} {pl : Sem Bool} (me : Met X.prog X.w X.K G.ca X.mg X.base k c m own sp) (hr : RoomG j X.A) (tk : Takes X W) (lk : XLk G Ex W) (he : PE X o (LE G wo)) (hK : X.K = G.K := by rfl) (hk : k ≤ j := by decide) (ho : ownOk own n = true := by decide) (ht : MRunK X o m [] [] apos pos pl := by rfl) :
    PE X (.Call (.Attribute o m apos) [] [] pos) (LE G (wMeth c m own bor n sp [] Ex wo wNil)) := by
  obtain ⟨f, fd, ps, F, hm, b, _⟩ := me.ex
  refine imE (pe_methG0 (pl := pl) he me.cls hm F (hr.mono hk) b .nil (fun σ => passAt tk σ) ht) fun σ H Q q => ?_
  have := (hK ▸ ls_meth (dvs := []) lk (fun _ _ => .nil) ho) σ H Q q
  obtain ⟨F, ρ, fp, Qd, ok, h, k⟩ := this
  exact ⟨F, ρ, fp, Qd, ok, h, fun v H' F' ρ' fp' r fr en rr q => let ⟨a, dx, fs, e1, e2, e3, z⟩ := k v H' F' ρ' fp' r fr en rr q; ⟨a, dx, fs, e1, e2, e3, la_nil σ _ _ z⟩⟩

/-! ### a property read, len, bool, str, [] of an instance -/
/-- the getter -/
structure Prp (P : Program) (w : World) (K : PySem.W.Frag) (ca : Str → Addr) (mg : Str → Option Value) (base : Heap) (k : Nat) (c f : Str) (sp : Spd) : Prop where
  ex : ∃ (p g : Addr) (fd : FuncData) (ps : List Str), FnG P w K mg base (L2.CX P w) k g fd ps (lift K ca [] sp) ∧ PropOf K (ca c) f p g ∧ Binds K fd ps []
  cls : Cls K (ca c)
def isIn (ρ : Sl) (r : D) (c : Str) : Prop := ∃ o fs xs, pk ρ r = some (.ins o c fs xs)
theorem isIn.at_ {c : Str} (ok : Ok G F H σ ρ fp) (rr : Rr G F H σ v r fr) (h : isIn ρ r c) : ∃ a dx fs, v = .ref a ∧ H a = some (.ins (G.ca c) dx fs) := by
  obtain ⟨o, fs, xs, e1⟩ := h
  obtain ⟨_, rp, _⟩ := rr.see ok e1
  obtain ⟨a, dx, vs, rfl, ha, l, rl⟩ := rp.ins
  exact ⟨a, dx, _, rfl, ha⟩
def wProp (c : Str) (sp : Spd) (wo : WE) : WE := fun ρ Q => wo ρ fun x ρ0 => isIn ρ0 x c ∧ callD [] [] 1 sp [] exF Q [x] ρ0
theorem d_prop {c f : Str} {sp : Spd} {k j : Nat} (me : Prp X.prog X.w X.K G.ca X.mg X.base k c f sp) (hr : RoomG j X.A) (he : PE X e (LE G wo)) (hK : X.K = G.K := by rfl) (hk : k + 1 ≤ j := by decide) (hb : attributeBase e f X.env (eval e X.env) = eval e X.env := by rfl) : PE X (.Attribute e f pos) (LE G (wProp c sp wo)) := by
  obtain ⟨p, g, fd, ps, F, hp, b⟩ := me.ex
  refine imE (pe_propG (E := fun _ _ _ _ => False) he me.cls hp F (hr.mono hk) b (fun σ => passAt (takes0 (X := X.nox)) σ) hb) fun σ H Q q => ?_
  obtain ⟨F, ρ, fp, Qd, ok, h, k⟩ := q
  refine ⟨F, ρ, fp, _, ok, h, fun v0 H0 F0 ρ0 fp0 r0 f0 en0 rr0 ⟨hi, q⟩ => ?_⟩
  obtain ⟨a, dx, fs, rfl, ha⟩ := hi.at_ en0.ok rr0
  refine ⟨a, dx, fs, rfl, ha, ?_⟩
  have rl : RrL G F0 H0 σ [.ref a] [r0] (f0 ++ []) := .cons rr0 .nil
  exact hK ▸ call_core (W := fun _ _ _ _ => False) (dvs := []) (vs := [.ref a]) xlk0 (fun _ _ => .nil) (by decide) ok.rch (by rw [List.append_nil]; exact en0) rl q k
end
end M
/-! M14: len, str, bool, [] of an instance, by the class's own defs. -/
namespace M
open PySem PySem.Spec PyProof.Rows L2

section
variable {G : Gc} {X : Cx} {F F' F1 F2 : Addr → Prop} {H H' H1 H2 : Hp} {σ σ' : L2.St} {ρ ρ' ρ1 ρ2 : Sl} {fp fp' fp1 fp2 fr fr1 fr2 fr' fo : List Addr} {v v1 v2 : V} {r r1 r2 d : D} {p : Addr} {o : HO}
  {a b c e : Expr} {es : List Expr} {wa wb wc we wo : WE} {ta tb tc : WT} {rest : List Expr} {pos : Pos} {K : PySem.W.Frag} {ca : Str → Addr}
/-- a def runs at any place with room -/
theorem run_at {CX : CXT} {k : Nat} {f : Addr} {fd : FuncData} {ps : List Str} {sp : Sp} {E : L2.St → XK} {A' : Around} {pins : List (Addr × Obj)} {s : Shared} {Q : VK} {us : List Value} {vs : List V} (F : FnG X.prog X.w X.K X.mg X.base CX k f fd ps sp) (hr : RoomG k A') (h0 : Env0 X.prog X.w X.K X.mg X.base A' X.stack s H) (hb : Binds X.K fd ps []) (hx : PassesAt CX X σ (E σ))
    (I : Inv X pins σ H s) (rv : Vals vs us) (h : sp vs H Q (E σ)) : wpAny (model X.prog X.w) A' (call (.ref f) us) (EP X pins σ Q) X.xe s := run_posG (dvs := []) F hr h0 hb .nil hx I rv (by rw [List.append_nil]; exact h)

/-- an instance's own special method, told on values -/
abbrev rSpc (C : Addr) (sp : Sp) (p : V → Prop) : List V → Hp → VK → Prop := fun vs H Q => ∃ a dx fs, vs = [.ref a] ∧ H a = some (.ins C dx fs) ∧ sp [.ref a] H (fun v H' => p v ∧ Q v H') fun _ _ _ => False
def pLen : V → Prop := fun v => ∃ n : Int, v = .int n ∧ 0 ≤ n ∧ n < 2 ^ 63
def pStr : V → Prop := fun v => ∃ x, v = .str x
def pBl : V → Prop := fun v => ∃ x, v = .bl x
variable {k j : Nat} {C f : Addr} {fd : FuncData} {ps : List Str} {sp : Sp}
theorem no_pass {σ : L2.St} : PassesAt (L2.CX X.prog X.w) X σ ((fun _ _ _ _ => False : L2.St → XK) σ) := passAt (takes0 (X := X)) σ
theorem call_lenI (me : L2.Meth X.K C "__len__" f) (F : FnG X.prog X.w X.K X.mg X.base (L2.CX X.prog X.w) k f fd ps sp) (hr : RoomG (k + 1) X.A) (hb : Binds X.K fd ps []) : CallR X (.builtin "len") (rSpc C sp pLen) := by
  intro pins s σ H xs us Q I rv h
  obtain ⟨a, dx, fs, rfl, ea, q⟩ := h
  obtain ⟨u, rfl, ru⟩ := Vals.one rv
  obtain rfl : u = Value.ref a := ru
  obtain ⟨mA, O, _⟩ := ins_get I.hok ea
  obtain ⟨od, J, _⟩ := O.look
  obtain ⟨m, fr⟩ := I.fr
  refine PySem.W.len_K fr I.ok.mod.kin J me.at_ me.fn (wpAny_mono (run_at (E := fun _ _ _ _ => False) F hr.in1 I.env0.in1 hb no_pass I rv q) (fun u s' z => ?_) fun _ _ z => z)
  obtain ⟨v, H', I', rv', ⟨n, rfl, h0, h1⟩, q'⟩ := z
  obtain ⟨t, rfl⟩ := rv'
  exact ⟨⟨h0, h1⟩, .int n, H', I'.tok _, ⟨_, rfl⟩, q'⟩
theorem call_strI (me : L2.Meth X.K C "__str__" f) (F : FnG X.prog X.w X.K X.mg X.base (L2.CX X.prog X.w) k f fd ps sp) (hr : RoomG (k + 2) X.A) (hb : Binds X.K fd ps []) : CallR X (.type "str") (rSpc C sp pStr) := by
  intro pins s σ H xs us Q I rv h
  obtain ⟨a, dx, fs, rfl, ea, q⟩ := h
  obtain ⟨u, rfl, ru⟩ := Vals.one rv
  obtain rfl : u = Value.ref a := ru
  obtain ⟨mA, O, _⟩ := ins_get I.hok ea
  obtain ⟨od, J, _⟩ := O.look
  refine PySem.W.kso_call hr.in1.in1.rm.units0 I.kIn J me.at_ me.fn (wpAny_mono (run_at (E := fun _ _ _ _ => False) F hr.in1.in1 I.env0.in1.in1 hb no_pass I rv q) (fun u s' z => ?_) fun _ _ z => z)
  obtain ⟨v, H', I', rv', ⟨x, rfl⟩, q'⟩ := z
  obtain ⟨t, rfl⟩ := rv'
  exact ⟨.str x, H', I', ⟨_, rfl⟩, q'⟩
theorem bool_new_tree (x : Value) : Builtin.«bool.__new__» ⟨[.type "bool", x], []⟩ = (truthy x >>= fun b => PySem.ret (.bool b)) := by
  unfold Builtin.«bool.__new__»
  simp only [PySem.F.conv_sub_bool]
  rfl
/-- its truth -/
theorem truthyI0 {A' : Around} (me : L2.Meth X.K C "__bool__" f) (F : FnG X.prog X.w X.K X.mg X.base (L2.CX X.prog X.w) k f fd ps sp) (hr : RoomG k A') (hb : Binds X.K fd ps []) {pins : List (Addr × Obj)} {s : Shared} {Q : VK} {x : Addr} {dx : Addr} {fs : List (Str × V)} (I : Inv X pins σ H s) (h0 : Env0 X.prog X.w X.K X.mg X.base A' X.stack s H) (ea : H x = some (.ins C dx fs))
    (q : sp [.ref x] H (fun v H' => pBl v ∧ Q v H') fun _ _ _ => False) : wpAny (model X.prog X.w) A' (truthy (.ref x)) (TP X pins σ fun y H' => Q (.bl y) H') X.xe s := by
  obtain ⟨mA, O, _⟩ := ins_get I.hok ea
  obtain ⟨od, J, _⟩ := O.look
  obtain ⟨m, fr⟩ := I.fr
  refine PySem.W.truthy_K fr I.ok.mod.kin J me.at_ me.fn (wpAny_mono (run_at (E := fun _ _ _ _ => False) (us := [.ref x]) F hr h0 hb no_pass I (.cons (show RelV (.ref x) (.ref x) from rfl) .nil) q) (fun u s' z => ?_) fun _ _ z => z)
  obtain ⟨v, H', I', rv', ⟨y, rfl⟩, q'⟩ := z
  have : u = .bool y := rv'
  subst this
  exact ⟨H', I', q'⟩
theorem call_boolI (me : L2.Meth X.K C "__bool__" f) (F : FnG X.prog X.w X.K X.mg X.base (L2.CX X.prog X.w) k f fd ps sp) (hr : RoomG (k + 2) X.A) (hb : Binds X.K fd ps []) : CallR X (.type "bool") (rSpc C sp pBl) := by
  intro pins s σ H xs us Q I rv h
  obtain ⟨a, dx, fs, rfl, ea, q⟩ := h
  obtain ⟨u, rfl, ru⟩ := Vals.one rv
  obtain rfl : u = Value.ref a := ru
  refine callType_codes (T := "bool") (Bi := Builtin.«object.__init__») (Q₁ := fun r s₁ => ∃ y, r = .bool y ∧ EP X pins σ Q r s₁) PySem.F.called_bool (PySem.F.typeCall_bool_1 _) PySem.F.entry_object_init ?_ ?_
  · refine codeAny_of_tree ?_
    show wpAny _ X.A.in1.in1 (do checkBuiltinCall "bool.__new__" ⟨[.type "bool", .ref a], []⟩; again (.builtin "bool.__new__" ⟨[.type "bool", .ref a], []⟩)) _ _ s
    refine wpAny_bind (wpAny_of_eq (PySem.F.newCall_bool_1 _) (wpAny_pure ⟨plainId_quiet (by decide +kernel) _, codeAny_builtin PySem.F.entry_bool_new ?_⟩))
    rw [Around.under_plainId (by decide +kernel) _]
    rw [bool_new_tree]
    refine wpAny_bind (wpAny_mono (truthyI0 me F hr.in1.in1 hb I I.env0.in1.in1 ea q) (fun y s' z => ?_) fun _ _ z => z)
    obtain ⟨H', I', q'⟩ := z
    exact wpAny_pure ⟨_, rfl, .bl y, H', I', rfl, q'⟩
  · rintro obj s₁ ⟨y, rfl, hq⟩
    exact ⟨PySem.typeIs_bool _ _, PySem.F.args_object_init_2 _ _, object_init_meets PySem.F.called_bool.init.lookup PySem.F.called_bool.made (by decide) X.prog X.w X.A.in1 _ s₁ ⟨PySem.typeIs_bool _ _, rfl, hq⟩⟩
end
end M
/-! M15: calls by keywords and with defaults, instances made, specials over data. -/
namespace M
open PySem PySem.Spec PyProof.Rows L2

def permL {α : Type} (is : List Nat) (xs : List α) : List α := is.filterMap fun i => xs[i]?

section
variable {G : Gc} {X : Cx} {F F' F1 F2 : Addr → Prop} {H H' H1 H2 : Hp} {σ σ' : L2.St} {ρ ρ' ρ1 ρ2 : Sl} {fp fp' fp1 fp2 fr fr1 fr2 fr' fo : List Addr} {v v1 v2 : V} {r r1 r2 d : D} {p : Addr} {o : HO}
  {a b c e : Expr} {es : List Expr} {wa wb wc we wo : WE} {ta tb tc : WT} {rest : List Expr} {pos : Pos} {K : PySem.W.Frag} {ca : Str → Addr}

/-! ### specials -/
def nSpc (c : Str) (sp : Spd) (q : D → Prop) : ON := fun ρ rs K => ∃ x, rs = [x] ∧ isIn ρ x c ∧ callD [] [] 1 sp [] exF (fun r ρ1 => q r ∧ K r ρ1) [x] ρ
def qLen : D → Prop := fun v => ∃ n : Int, v = .int n ∧ 0 ≤ n ∧ n < 2 ^ 63
def qStr : D → Prop := fun v => ∃ x, v = .str x
def qBl : D → Prop := fun v => ∃ x, v = .bl x
theorem pq_len {K ca F H v r fr} (h : Rp K ca F H v r fr) (q : qLen r) : pLen v := by
  obtain ⟨n, rfl, z⟩ := q
  cases h; exact ⟨n, rfl, z⟩
theorem pq_str {K ca F H v r fr} (h : Rp K ca F H v r fr) (q : qStr r) : pStr v := by
  obtain ⟨n, rfl⟩ := q
  cases h; exact ⟨n, rfl⟩
theorem pq_bl {K ca F H v r fr} (h : Rp K ca F H v r fr) (q : qBl r) : pBl v := by
  obtain ⟨n, rfl⟩ := q
  cases h; exact ⟨n, rfl⟩
theorem nSpc_ok {c : Str} {sp : Spd} {q : D → Prop} {p : V → Prop} (hp : ∀ {K ca F H v r fr}, Rp K ca F H v r fr → q r → p v) (hs : ∀ i, ¬ q (.sl i)) : ONOk G (rSpc (G.ca c) (lift G.K G.ca [] sp) p) (nSpc c sp q) := fun F H σ ρ fp vs rs fr Kd Q ok rr ⟨nd, hr⟩ h k => by
  obtain ⟨x, rfl, hi, h⟩ := h
  obtain ⟨v, rfl, r1⟩ := rr.one
  obtain ⟨a, dx, fs, rfl, ha⟩ := hi.at_ ok r1
  refine ⟨a, dx, fs, rfl, ha, ?_⟩
  have rch : Step G.F0 G.H0 G.fp0 F H (fr ++ fp) := ⟨ok.rch.mono, ok.rch.new, ok.rch.keep, ok.rch.there, fun a z => (List.mem_append.mp z).elim (hr a) (ok.rch.fps a)⟩
  have en : En G F H (fr ++ fp) σ F H ρ fp fr := ⟨.refl, ok, nd⟩
  exact call_core (W := fun _ _ _ _ => False) (dvs := []) (vs := [.ref a]) xlk0 (fun _ _ => .nil) (by decide) rch en rr h fun v H' F' ρ' fp' r fr' en' rr' q' => by
    refine ⟨?_, k v H' F' ρ' fp' r fr' en' rr' q'.2⟩
    rcases rr' with rp | ⟨i, rfl, _⟩
    · exact hp rp q'.1
    · exact absurd q'.1 (hs i)
variable {k j : Nat} {cn : Str} {sp : Spd} {wa : WA} {p1 : Pos}
theorem d_lenI (me : Met X.prog X.w X.K G.ca X.mg X.base k cn "__len__" [] sp) (hr : RoomG j X.A) (hg : Gl X "len") (hm : X.mg "len" = none) (ha : PA X (e :: es) (LA G wa)) (hK : X.K = G.K := by rfl) (hk : k + 1 ≤ j := by decide) (he : starEach (e :: es) X.env = (false, eval e X.env) :: starEach es X.env := by rfl) (hpl : (backTo pos (starEach es X.env)).any (·.1) = false := by rfl) :
    PE X (.Call (.Name "len" p1) (e :: es) [] pos) (LE G (wCB (nSpc cn sp qLen) wa)) := by
  obtain ⟨f, fd, ps, F, m, b, _⟩ := me.ex
  exact d_cb (call_lenI m F (hr.mono hk) b) (hK ▸ nSpc_ok pq_len fun i ⟨_, z, _⟩ => nomatch z) hg hm boot_len ha (by decide) (by decide) he hpl
theorem d_strI (me : Met X.prog X.w X.K G.ca X.mg X.base k cn "__str__" [] sp) (hr : RoomG j X.A) (hg : Gl X "str") (hm : X.mg "str" = none) (ha : PA X (e :: es) (LA G wa)) (hK : X.K = G.K := by rfl) (hk : k + 2 ≤ j := by decide) (he : starEach (e :: es) X.env = (false, eval e X.env) :: starEach es X.env := by rfl) (hpl : (backTo pos (starEach es X.env)).any (·.1) = false := by rfl) :
    PE X (.Call (.Name "str" p1) (e :: es) [] pos) (LE G (wCB (nSpc cn sp qStr) wa)) := by
  obtain ⟨f, fd, ps, F, m, b, _⟩ := me.ex
  exact d_cty (call_strI m F (hr.mono hk) b) (hK ▸ nSpc_ok pq_str fun i ⟨_, z⟩ => nomatch z) hg hm (by decide +kernel) ha (by decide) (by decide) he hpl
theorem d_boolI (me : Met X.prog X.w X.K G.ca X.mg X.base k cn "__bool__" [] sp) (hr : RoomG j X.A) (hg : Gl X "bool") (hm : X.mg "bool" = none) (ha : PA X (e :: es) (LA G wa)) (hK : X.K = G.K := by rfl) (hk : k + 2 ≤ j := by decide) (he : starEach (e :: es) X.env = (false, eval e X.env) :: starEach es X.env := by rfl) (hpl : (backTo pos (starEach es X.env)).any (·.1) = false := by rfl) :
    PE X (.Call (.Name "bool" p1) (e :: es) [] pos) (LE G (wCB (nSpc cn sp qBl) wa)) := by
  obtain ⟨f, fd, ps, F, m, b, _⟩ := me.ex
  exact d_cty (call_boolI m F (hr.mono hk) b) (hK ▸ nSpc_ok pq_bl fun i ⟨_, z⟩ => nomatch z) hg hm (by decide +kernel) ha (by decide) (by decide) he hpl

/-! ### o[i], by the class's own __getitem__ -/
def wIxI (c : Str) (sp : Spd) (Ex : DXs) (wa wb : WE) : WE := fun ρ Q => wa ρ fun x ρ1 => wb ρ1 fun y ρ2 => isIn ρ2 x c ∧ callD [] [] 2 sp [] Ex Q [x, y] ρ2
theorem d_ixI {Ex : DXs} {W : WX} (me : Met X.prog X.w X.K G.ca X.mg X.base k cn "__getitem__" [] sp) (hr : RoomG j X.A) (tk : Takes X W) (lk : XLk G Ex W) {wa' : WE} (ha : PE X a (LE G wa')) (hb : PE X b (LE G wb)) (hK : X.K = G.K := by rfl) (hk : k + 1 ≤ j := by decide) (hsl : ∀ x i, subscripted b true (.ref x) i = runValue (.builtin "lifetime.subscript" ⟨[.ref x, i], []⟩) := by exact fun _ _ => by with_unfolding_all rfl) : PE X (.Subscript a b pos) (LE G (wIxI cn sp Ex wa' wb)) := by
  obtain ⟨f, fd, ps, F, m, bi, fi⟩ := me.ex
  refine ⟨fun pins s σ H Q I q => ?_⟩
  obtain ⟨F0, ρ, fp, Qd, ok, h, kk⟩ := q
  have key := bin2 (R := fun v1 v2 H2 => ∃ x dx fs, v1 = .ref x ∧ H2 x = some (.ins (G.ca cn) dx fs) ∧ lift G.K G.ca [] sp [v1, v2] H2 Q (fun cls d H => W cls d σ H)) (k := fun x y ρ2 => isIn ρ2 x cn ∧ callD [] [] 2 sp [] Ex Qd [x, y] ρ2) ok h fun v1 v2 H2 F2 ρ2 fp2 x y f1 f2 en r1 r2 ⟨hi, q⟩ => by
    obtain ⟨z, dx, fs, rfl, hz⟩ := hi.at_ en.ok r1
    have rl : RrL G F2 H2 σ [.ref z, v2] [x, y] (f1 ++ (f2 ++ [])) := .cons r1 (.cons r2 .nil)
    exact ⟨z, dx, fs, rfl, hz, call_core (dvs := []) (vs := [.ref z, v2]) lk (fun _ _ => .nil) (by decide) ok.rch (by rw [List.append_nil]; exact en) rl q kk⟩
  refine Subscript_ (binT ha hb I key fun v u s2 x y H2 I2 rx ry q => ?_)
  obtain ⟨z, dx, fs, rfl, hz, q⟩ := q
  obtain rfl : v = Value.ref z := rx
  obtain ⟨mA, O, _⟩ := ins_get I2.hok hz
  obtain ⟨od, J, _⟩ := O.look
  obtain ⟨mm, fr⟩ := I2.fr
  rw [← hK] at q
  exact PySem.W.sub_K fr I2.ok.mod.kin J m.at_ fi m.fn (run_at (E := fun σ cls d H => W cls d σ H) F (hr.mono hk).in1 I2.env0.in1 bi (passAt tk σ) I2 (.cons (show RelV (.ref z) (.ref z) from rfl) (.cons ry .nil)) q) (hsl z u)
end
end M
/-! M16: calls by keywords and with defaults; instances made. -/
namespace M
open PySem PySem.Spec PyProof.Rows L2
section
variable {G : Gc} {X : Cx} {F F' F1 F2 : Addr → Prop} {H H' H1 H2 : Hp} {σ σ' : L2.St} {ρ ρ' ρ1 ρ2 : Sl} {fp fp' fp1 fp2 fr fr1 fr2 fr' fo : List Addr} {v v1 v2 : V} {r r1 r2 d : D} {p : Addr} {o : HO}
  {a b c e : Expr} {es : List Expr} {wa wk : WA} {we wo : WE} {ta tb tc : WT} {rest : List Expr} {pos : Pos} {K : PySem.W.Frag} {ca : Str → Addr}

theorem isOw_fz (d : D) : isOw (fz d) = false := by cases d <;> rfl
theorem fzR_pl {ρ : Sl} {r d : D} {ρ' : Sl} (e : fzR ρ r = some (d, ρ')) : isOw d = false := by
  unfold fzR at e
  split at e
  · split at e
    · cases e; exact isOw_fz _
    · cases e
  · cases e; exact isOw_fz _
theorem fzRs_pl : ∀ {rs : List D} {ρ : Sl} {ds : List D} {ρ' : Sl}, fzRs ρ rs = some (ds, ρ') → ∀ d ∈ ds, isOw d = false
  | [], ρ, ds, ρ', e => by cases e; exact fun d z => nomatch z
  | r :: rs, ρ, ds, ρ', e => by
    unfold fzRs at e
    split at e
    · rename_i d1 ρ1 q1
      split at e
      · rename_i d2 ρ2 q2
        cases e
        intro d z
        rcases List.mem_cons.mp z with z | z
        · rw [z]; exact fzR_pl q1
        · exact fzRs_pl q2 d z
      · cases e
    · cases e
theorem RpL.perm {is : List Nat} {vs : List V} {ds : List D} (h : RpL K ca F H vs ds []) : RpL K ca F H (permL is vs) (permL is ds) [] := by
  induction is with
  | nil => exact .nil
  | cons i is ih =>
    unfold permL
    rw [List.filterMap_cons, List.filterMap_cons]
    cases q : ds[i]? with
    | none =>
      have : vs[i]? = none := by
        rw [List.getElem?_eq_none_iff] at q ⊢
        rw [h.length]; exact q
      rw [this]; exact ih
    | some d =>
      obtain ⟨v, e, r⟩ := h.at_ q
      rw [e]
      exact .cons (fp := []) (fq := []) r ih
theorem mem_perm {α : Type} {is : List Nat} {xs : List α} {x : α} (h : x ∈ permL is xs) : x ∈ xs := by
  obtain ⟨i, _, e⟩ := List.mem_filterMap.mp h
  exact List.mem_of_getElem? e
/-- through what a callee does, the slots' own ones stand -/
theorem thru0 (ok : Ok G F2 H2 σ ρ2 fp2) (dj : ∀ a ∈ fo, a ∉ fp2) (nFo : ∀ a ∈ fo, ¬ F2 a) (rch2 : Step G.F0 G.H0 G.fp0 F2 H2 (fo ++ fp2)) (s : Step F2 H2 fo F' H' fr') (dm : ∀ a, F' a → ∃ o, H' a = some o) :
    Step F2 H2 (fo ++ fp2) F' H' (fr' ++ fp2) ∧ Ok G F' H' σ ρ2 fp2 ∧ ∀ a ∈ fr', a ∉ fp2 := by
  have newF : ∀ a, F' a → F2 a ∨ a ∈ fo ∨ H2 a = none := s.new
  have there : ∀ a ∈ fp2, ∃ o, H2 a = some o := fun a z => let ⟨_, o, e, _⟩ := ok.rs.own a z; ⟨o, e⟩
  have st2 : Step F2 H2 (fo ++ fp2) F' H' (fr' ++ fp2) := ⟨s.mono, fun a z => (newF a z).imp id (Or.imp (List.mem_append_left _) id), fun a o e c => s.keep a o e (c.imp (fun n z => n (List.mem_append_left _ z)) id), s.there, fun a z => by
    rcases List.mem_append.mp z with w | w
    · exact (s.fps a w).imp (List.mem_append_left _) id
    · exact .inl (List.mem_append_right _ w)⟩
  refine ⟨st2, ⟨ok.rs.keep (fun a o e n => s.keep a o e (.inr n)) (fun a o f e _ => s.keep a o e (.inl fun z => nFo a z f)) (fun a u f e _ => rd_keep (fun o e => s.keep a o e (.inl fun z => nFo a z f)) e) s.mono (fun a z o e => s.keep a o e (.inl fun w => dj a w z)) (fun a z f => ?_), ok.nd, dm, ok.pm, ?_⟩, fun a z y => ?_⟩
  · rcases newF a f with w | w | w
    · exact ok.nf a z w
    · exact dj a w z
    · obtain ⟨o, e⟩ := there a z
      rw [e] at w; cases w
  · exact rch2.trans (st2.less fun a z => List.mem_append_right _ z)
  · rcases s.fps a z with w | w
    · exact dj a w y
    · obtain ⟨o, e⟩ := there a y
      rw [e] at w; cases w

/-- a call whose arguments are shared; is: the parameters' places among the arguments and the defaults -/
def callP (is : List Nat) (dd : List D) (sp : Spd) (Ex : DXs) (Q : D → Sl → Prop) (rs : List D) (ρ : Sl) : Prop := ∃ ds ρ2, fzRs ρ rs = some (ds, ρ2) ∧ sp (permL is (ds ++ dd)) (fun r _ => Q r ρ2) fun c fs xs => Ex c fs xs ρ2
theorem share_args {dvs : List V} {dd : List D} {vs : List V} {rs ds : List D} (rch : Step G.F0 G.H0 G.fp0 F H fp) (hd : ∀ F H, RpL G.K G.ca F H dvs dd []) (hdd : dd.all (fun d => !isOw d) = true) (en : En G F H fp σ F1 H1 ρ1 fp1 fr) (rr : RrL G F1 H1 σ vs rs fr) (e : fzRs ρ1 rs = some (ds, ρ2)) (is : List Nat) :
    ∃ F2 fp2, En G F H fp σ F2 H1 ρ2 fp2 [] ∧ RpL G.K G.ca F2 H1 (permL is (vs ++ dvs)) (permL is (ds ++ dd)) [] ∧ ∀ d ∈ permL is (ds ++ dd), isOw d = false := by
  obtain ⟨F2, fp2, s, rl⟩ := rr.share en.ok en.nd (fun a z => (rch.trans en.st).fps a (List.mem_append_left _ z)) e
  refine ⟨F2, fp2, en.share s, (rl.app (hd _ _)).perm, fun d z => ?_⟩
  rcases List.mem_append.mp (mem_perm z) with z | z
  · exact fzRs_pl e d z
  · simpa using List.all_eq_true.mp hdd d z
theorem callP_core {sp : Spd} {dvs : List V} {dd : List D} {Ex : DXs} {W : WX} {vs : List V} {rs : List D} {Qd : D → Sl → Prop} {Q : VK} {is : List Nat} (lk : XLk G Ex W) (hd : ∀ F H, RpL G.K G.ca F H dvs dd []) (hdd : dd.all (fun d => !isOw d) = true)
    (rch : Step G.F0 G.H0 G.fp0 F H fp) (en : En G F H fp σ F1 H1 ρ1 fp1 fr) (rr : RrL G F1 H1 σ vs rs fr) (q : callP is dd sp Ex Qd rs ρ1) (k : ∀ v H' F' ρ' fp' r fr, En G F H fp σ F' H' ρ' fp' fr → Rr G F' H' σ v r fr → Qd r ρ' → Q v H') :
    lift G.K G.ca [] sp (permL is (vs ++ dvs)) H1 Q (fun cls d H => W cls d σ H) := by
  obtain ⟨ds, ρ2, e, q⟩ := q
  obtain ⟨F2, fp2, en2, rl, hpl⟩ := share_args rch hd hdd en rr e is
  have rch2 : Step G.F0 G.H0 G.fp0 F2 H1 ([] ++ fp2) := rch.trans en2.st
  refine ⟨F2, _, [], _, _, rl, List.nodup_nil, en2.ok.dom, fun i d hi _ => hpl d (List.mem_of_getElem? hi), q, fun v H' F' r fr' os fo' s nd' dm rp ro q => ?_, fun c x H' F' fs us xs s dm ex hl rx q => ?_⟩
  · cases ro
    rw [List.append_nil] at s nd'
    obtain ⟨st, ok', dj⟩ := thru0 (fo := []) en2.ok (fun a z => nomatch z) (fun a z => nomatch z) rch2 s dm
    exact k v H' F' ρ2 fp2 r fr' ⟨en2.st.trans st, ok', nodup_of nd' ok'.nd dj⟩ (.inl rp) q
  · obtain ⟨st, ok', dj⟩ := thru0 (fo := []) en2.ok (fun a z => nomatch z) (fun a z => nomatch z) rch2 s dm
    exact lk c x σ H' _ ρ2 fp2 fs us xs ok' ex hl rx q

/-- an instance is made -/
def makeP (c : Str) (is : List Nat) (dd : List D) (sp : Spd) (Ex : DXs) (Q : D → Sl → Prop) (rs : List D) (ρ : Sl) : Prop := ∃ ds ρ2, fzRs ρ rs = some (ds, ρ2) ∧ sp (.ins true c [] [] :: permL is (ds ++ dd)) (fun r os => r = .non ∧ ∃ d, os = [d] ∧ Q d ρ2) fun c fs xs => Ex c fs xs ρ2
theorem makeP_core {c : Str} {sp : Spd} {dvs : List V} {dd : List D} {Ex : DXs} {W : WX} {vs : List V} {rs : List D} {Qd : D → Sl → Prop} {Q : VK} {is : List Nat} (lk : XLk G Ex W) (hd : ∀ F H, RpL G.K G.ca F H dvs dd []) (hdd : dd.all (fun d => !isOw d) = true)
    (rch : Step G.F0 G.H0 G.fp0 F H fp) (en : En G F H fp σ F1 H1 ρ1 fp1 fr) (rr : RrL G F1 H1 σ vs rs fr) (q : makeP c is dd sp Ex Qd rs ρ1) (k : ∀ v H' F' ρ' fp' r fr, En G F H fp σ F' H' ρ' fp' fr → Rr G F' H' σ v r fr → Qd r ρ' → Q v H') {x dx : Addr} (hx : H1 x = none) (hdx : H1 dx = none) (hne : dx ≠ x) :
    lift G.K G.ca [0] sp (.ref x :: permL is (vs ++ dvs)) (upd (upd H1 dx (.own x)) x (.ins (G.ca c) dx [])) (fun v H' => v = .non ∧ Q (.ref x) H') (fun cls d H => W cls d σ H) := by
  obtain ⟨ds, ρ2, e, q⟩ := q
  obtain ⟨F2, fp2, en2, rl, hpl⟩ := share_args rch hd hdd en rr e is
  have hx' : upd H1 dx (.own x) x = none := by rw [upd_ne hne.symm]; exact hx
  have okA := en2.ok.new (o := .own x) hdx
  have okB := okA.new (o := .ins (G.ca c) dx []) hx'
  have enA := En.tup (o := .own x) en2.ok hdx
  have enB := En.own (o := .ins (G.ca c) dx []) okA hx'
  have st3 := (en2.st.trans enA.st).trans enB.st
  have nFx : ¬ F2 x := (en2.ok.not_none hx).1
  have nfx : x ∉ fp2 := (en2.ok.not_none hx).2
  have rlB : RpL G.K G.ca F2 (upd (upd H1 dx (.own x)) x (.ins (G.ca c) dx [])) (permL is (vs ++ dvs)) (permL is (ds ++ dd)) [] := (rl.new hdx).new hx'
  have rpx : Rp G.K G.ca F2 (upd (upd H1 dx (.own x)) x (.ins (G.ca c) dx [])) (.ref x) (.ins true c [] []) [x] := .iow (dx := dx) (vs := []) upd_same nFx rfl .nil
  have djx : ∀ a ∈ [x], a ∉ fp2 := fun a z => by rw [List.mem_singleton.mp z]; exact nfx
  have nFo : ∀ a ∈ [x], ¬ F2 a := fun a z => by rw [List.mem_singleton.mp z]; exact nFx
  refine ⟨F2, _, [x] ++ [], _, _, .cons rpx rlB, by simp, okB.dom, fun i d hi hn => ?_, q, fun v H' F' r fr' os fo' s nd' dm rp ro q => ?_, fun c x H' F' fs us xs s dm ex hl rx q => ?_⟩
  · cases i with
    | zero => exact absurd List.mem_cons_self hn
    | succ i => exact hpl d (List.mem_of_getElem? (by simpa using hi))
  · obtain ⟨st, ok', dj⟩ := thru0 (fo := [x]) okB djx nFo (rch.trans st3) (by simpa using s) dm
    obtain ⟨rfl, d, rfl, q⟩ := q
    cases rp
    cases ro with
    | @cons _ _ u _ _ f1 f2 eu r1 r2 =>
      cases r2
      have : u = .ref x := by simpa using eu.symm
      subst this
      refine ⟨rfl, k _ H' F' ρ2 fp2 d f1 ⟨st3.trans (by simpa using st), ok', nodup_of (by simpa using nd') ok'.nd fun a z => dj a (by simp [z])⟩ (.inl r1) q⟩
  · obtain ⟨st, ok', dj⟩ := thru0 (fo := [_]) okB djx nFo (rch.trans st3) (fr' := []) (by simpa using s) dm
    exact lk c x σ H' _ ρ2 fp2 fs us xs ok' ex hl rx q

/-! ### the bundles -/
structure KCal (P : Program) (w : World) (K : PySem.W.Frag) (ca : Str → Addr) (mg : Str → Option Value) (base : Heap) (k : Nat) (x : Str) (n : Nat) (ks : List Str) (is : List Nat) (dd : List D) (sp : Spd) : Prop where
  ex : ∃ (f : Addr) (fd : FuncData) (ps : List Str) (its : List Value) (dvs : List V), FnG P w K mg base (L2.CX P w) k f fd ps (lift K ca [] sp) ∧ mg x = some (.ref f) ∧ PySem.W.keepIn K (.ref f) = true ∧ KBn K fd ps n ks (fun us ws => permL is (us ++ ws ++ its)) (fun vs zs => permL is (vs ++ zs ++ dvs)) ∧ ∀ F H, RpL K ca F H dvs dd []
structure KMet (P : Program) (w : World) (K : PySem.W.Frag) (ca : Str → Addr) (mg : Str → Option Value) (base : Heap) (k : Nat) (c m : Str) (n : Nat) (ks : List Str) (is : List Nat) (dd : List D) (sp : Spd) : Prop where
  ex : ∃ (f : Addr) (fd : FuncData) (ps : List Str) (its : List Value) (dvs : List V), FnG P w K mg base (L2.CX P w) k f fd ps (lift K ca [] sp) ∧ L2.Meth K (ca c) m f ∧ KBn K fd ps (n + 1) ks (fun us ws => permL is (us ++ ws ++ its)) (fun vs zs => permL is (vs ++ zs ++ dvs)) ∧ ∀ F H, RpL K ca F H dvs dd []
  cls : Cls K (ca c)
/-- is counts the arguments without self -/
structure KMak (P : Program) (w : World) (K : PySem.W.Frag) (ca : Str → Addr) (mg : Str → Option Value) (base : Heap) (k : Nat) (c : Str) (n : Nat) (ks : List Str) (is : List Nat) (dd : List D) (sp : Spd) : Prop where
  ex : ∃ (f : Addr) (fd : FuncData) (ps : List Str) (its : List Value) (dvs : List V), FnG P w K mg base (L2.CX P w) k f fd ps (lift K ca [0] sp) ∧ Mk K (ca c) f ∧ KBn K fd ps (n + 1) ks (fun us ws => us.take 1 ++ permL is (us.drop 1 ++ ws ++ its)) (fun vs zs => vs.take 1 ++ permL is (vs.drop 1 ++ zs ++ dvs)) ∧ (∀ F H, RpL K ca F H dvs dd []) ∧ mg c = some (.ref (ca c))

def wCallP (n m : Nat) (is : List Nat) (dd : List D) (sp : Spd) (Ex : DXs) (wa wk : WA) : WE := fun ρ Q => wa ρ fun rs ρ1 => wk ρ1 fun zs ρ2 => rs.length = n ∧ zs.length = m ∧ callP is dd sp Ex Q (rs ++ zs) ρ2
def wMakeP (c : Str) (n m : Nat) (is : List Nat) (dd : List D) (sp : Spd) (Ex : DXs) (wa wk : WA) : WE := fun ρ Q => wa ρ fun rs ρ1 => wk ρ1 fun zs ρ2 => rs.length = n ∧ zs.length = m ∧ makeP c is dd sp Ex Q (rs ++ zs) ρ2
def wMethP (c mt : Str) (n m : Nat) (is : List Nat) (dd : List D) (sp : Spd) (Ex : DXs) (wo : WE) (wa wk : WA) : WE := fun ρ Q => wo ρ fun x ρ0 => isIns ρ0 x c mt ∧ wa ρ0 fun rs ρ1 => wk ρ1 fun zs ρ2 => rs.length = n ∧ zs.length = m ∧ callP is dd sp Ex Q (x :: rs ++ zs) ρ2
theorem imK {kws : List Keyword} {t u : TA} (h : PK X kws t) (i : ∀ σ H Q, u σ H Q → t σ H Q) : PK X kws u := ⟨fun pos pins s σ H Q I q => h.run pos pins s σ H Q I (i σ H Q q)⟩
theorem dk_nil : PK X [] (LA G wNil) := imK pk_nil la_nil
theorem dk_cons {kws : List Keyword} {nm : Option Str} {kpos : Pos} (ha : PE X e (LE G we)) (hr : PK X kws (LA G wk)) : PK X (⟨nm, e, kpos⟩ :: kws) (LA G (wCons we wk)) := imK (pk_cons ha hr) la_cons
section
variable {k j n m : Nat} {x c mt : Str} {ks : List Str} {is : List Nat} {dd : List D} {sp : Spd} {Ex : DXs} {W : WX} {kws : List Keyword} {p1 apos : Pos}
/-- both argument lists, seen at the end -/
theorem two_lists {R : List V → List V → Hp → Prop} {kk : List D → List D → Sl → Prop} (ok : Ok G F H σ ρ fp) (h : wa ρ fun rs ρ1 => wk ρ1 fun zs ρ2 => kk rs zs ρ2)
    (hR : ∀ vs us H' F' ρ' fp' rs zs f1 f2, En G F H fp σ F' H' ρ' fp' (f1 ++ f2) → RrL G F' H' σ vs rs f1 → RrL G F' H' σ us zs f2 → kk rs zs ρ' → R vs us H') : LA G wa σ H fun vs H1 => LA G wk σ H1 fun us H2 => R vs us H2 :=
  ⟨F, ρ, fp, _, ok, h, fun vs H1 F1 ρ1 fp1 rs f1 en1 rr1 q1 => ⟨F1, ρ1, fp1, _, en1.ok, q1, fun us H2 F2 ρ2 fp2 zs f2 en2 rr2 q2 => hR vs us H2 F2 ρ2 fp2 rs zs f1 f2 (en1.trans en2 fun a z => (rr1.own a z).2.imp fun _ h => h.1) (rr1.step en2.st en1.ok.nf (nodup_d en1.nd)) rr2 q2⟩⟩
theorem d_callP (c : KCal X.prog X.w X.K G.ca X.mg X.base k x n ks is dd sp) (hr : RoomG j X.A) (tk : Takes X W) (lk : XLk G Ex W) (ha : PA X (e :: es) (LA G wa)) (hw : PK X kws (LA G wk)) (hK : X.K = G.K := by rfl) (hk : k ≤ j := by decide) (hm : ks.length = m := by rfl) (hdd : dd.all (fun d => !isOw d) = true := by rfl) (hg : Gl X x := by rfl)
    (hall : (backToKw pos (keywordEach kws X.env)).all (·.1.isSome) = true := by rfl) (hks : (backToKw pos (keywordEach kws X.env)).filterMap (·.1) = ks := by rfl) (hdb : (x == ("__debug__" : Str)) = false := by decide) (he : starEach (e :: es) X.env = (false, eval e X.env) :: starEach es X.env := by rfl)
    (hpl : ((backTo pos (starEach (e :: es) X.env)).any (·.1) || (backToKw pos (keywordEach kws X.env)).any (·.1.isNone)) = false := by rfl) : PE X (.Call (.Name x p1) (e :: es) kws pos) (LE G (wCallP n m is dd sp Ex wa wk)) := by
  obtain ⟨f, fd, ps, its, dvs, F, g, kp, b, hd⟩ := c.ex
  refine imE (pe_callKG F (hr.mono hk) hg g kp b (fun σ => passAt tk σ) ha hw hall hks hdb he hpl) fun σ H Q q => ?_
  obtain ⟨F0, ρ, fp, Qd, ok, h, kk⟩ := q
  refine two_lists ok h fun vs us H' F' ρ' fp' rs zs f1 f2 en r1 r2 ⟨l1, l2, q⟩ => ⟨r1.len.trans l1, (r2.len.trans l2).trans hm.symm, ?_⟩
  exact hK ▸ callP_core (vs := vs ++ us) lk (hK ▸ hd) hdd ok.rch en (r1.app r2) q kk
theorem d_makeP (mk : KMak X.prog X.w X.K G.ca X.mg X.base k c n ks is dd sp) (hr : RoomG j X.A) (tk : Takes X W) (lk : XLk G Ex W) (ha : PA X (e :: es) (LA G wa)) (hw : PK X kws (LA G wk)) (hK : X.K = G.K := by rfl) (hk : k + 1 ≤ j := by decide) (hm : ks.length = m := by rfl) (hdd : dd.all (fun d => !isOw d) = true := by rfl) (hg : Gl X c := by rfl)
    (hall : (backToKw pos (keywordEach kws X.env)).all (·.1.isSome) = true := by rfl) (hks : (backToKw pos (keywordEach kws X.env)).filterMap (·.1) = ks := by rfl) (hdb : (c == ("__debug__" : Str)) = false := by decide) (he : starEach (e :: es) X.env = (false, eval e X.env) :: starEach es X.env := by rfl)
    (hpl : ((backTo pos (starEach (e :: es) X.env)).any (·.1) || (backToKw pos (keywordEach kws X.env)).any (·.1.isNone)) = false := by rfl) : PE X (.Call (.Name c p1) (e :: es) kws pos) (LE G (wMakeP c n m is dd sp Ex wa wk)) := by
  obtain ⟨f, fd, ps, its, dvs, F, M, b, hd, g⟩ := mk.ex
  refine imE (pe_makeG M F (hr.mono hk) hg g b (fun σ => passAt tk σ) ha hw hall hks hdb he hpl) fun σ H Q q => ?_
  obtain ⟨F0, ρ, fp, Qd, ok, h, kk⟩ := q
  refine two_lists ok h fun vs us H' F' ρ' fp' rs zs f1 f2 en r1 r2 ⟨l1, l2, q⟩ => ⟨r1.len.trans l1, (r2.len.trans l2).trans hm.symm, fun y dx hx hdx hne => ?_⟩
  exact hK ▸ makeP_core (vs := vs ++ us) lk (hK ▸ hd) hdd ok.rch en (r1.app r2) q kk hx hdx hne
theorem d_makeP0 (mk : KMak X.prog X.w X.K G.ca X.mg X.base k c 0 ks is dd sp) (hr : RoomG j X.A) (tk : Takes X W) (lk : XLk G Ex W) (hw : PK X kws (LA G wk)) (hK : X.K = G.K := by rfl) (hk : k + 1 ≤ j := by decide) (hm : ks.length = m := by rfl) (hdd : dd.all (fun d => !isOw d) = true := by rfl) (hg : Gl X c := by rfl)
    (hall : (backToKw pos (keywordEach kws X.env)).all (·.1.isSome) = true := by rfl) (hks : (backToKw pos (keywordEach kws X.env)).filterMap (·.1) = ks := by rfl) (hdb : (c == ("__debug__" : Str)) = false := by decide)
    (hpl : ((backTo pos (starEach [] X.env)).any (·.1) || (backToKw pos (keywordEach kws X.env)).any (·.1.isNone)) = false := by rfl) : PE X (.Call (.Name c p1) [] kws pos) (LE G (wMakeP c 0 m is dd sp Ex wNil wk)) := by
  obtain ⟨f, fd, ps, its, dvs, F, M, b, hd, g⟩ := mk.ex
  refine imE (pe_makeG0 M F (hr.mono hk) hg g b (fun σ => passAt tk σ) hw hall hks hdb hpl) fun σ H Q q => ?_
  obtain ⟨F0, ρ, fp, Qd, ok, h, kk⟩ := q
  have := two_lists (wa := wNil) ok h (R := fun vs us H2 => vs = [] → us.length = ks.length ∧ ∀ x dx, H2 x = none → H2 dx = none → dx ≠ x → lift G.K G.ca [0] sp (.ref x :: permL is (us ++ dvs)) (upd (upd H2 dx (.own x)) x (.ins (G.ca c) dx [])) (fun v H3 => v = .non ∧ Q (.ref x) H3) (fun cls d H => W cls d σ H)) fun vs us H' F' ρ' fp' rs zs f1 f2 en r1 r2 ⟨l1, l2, q⟩ e => by
    subst e
    refine ⟨(r2.len.trans l2).trans hm.symm, fun y dx hx hdx hne => ?_⟩
    have := makeP_core (vs := [] ++ us) lk (hK ▸ hd) hdd ok.rch en (r1.app r2) q kk hx hdx hne
    exact this
  have := la_nil σ H _ this
  obtain ⟨F1, ρ1, fp1, Q1, ok1, h1, k1⟩ := this
  exact ⟨F1, ρ1, fp1, Q1, ok1, h1, fun us H2 F2 ρ2 fp2 zs f2 en2 rr2 q2 => let z := k1 us H2 F2 ρ2 fp2 zs f2 en2 rr2 q2 rfl; ⟨rfl, z.1, hK ▸ z.2⟩⟩
theorem d_methP {o : Expr} {pl : Sem Bool} (me : KMet X.prog X.w X.K G.ca X.mg X.base k c mt n ks is dd sp) (hr : RoomG j X.A) (tk : Takes X W) (lk : XLk G Ex W) (he : PE X o (LE G wo)) (ha : PA X (e :: es) (LA G wa)) (hw : PK X kws (LA G wk)) (hK : X.K = G.K := by rfl) (hk : k ≤ j := by decide) (hm : ks.length = m := by rfl) (hdd : dd.all (fun d => !isOw d) = true := by rfl)
    (hall : (backToKw pos (keywordEach kws X.env)).all (·.1.isSome) = true := by rfl) (hks : (backToKw pos (keywordEach kws X.env)).filterMap (·.1) = ks := by rfl) (hst : starEach (e :: es) X.env = (false, eval e X.env) :: starEach es X.env := by rfl)
    (hpl : ((backTo pos (starEach (e :: es) X.env)).any (·.1) || (backToKw pos (keywordEach kws X.env)).any (·.1.isNone)) = false := by rfl) (ht : MRunK X o mt (e :: es) kws apos pos pl := by rfl) :
    PE X (.Call (.Attribute o mt apos) (e :: es) kws pos) (LE G (wMethP c mt n m is dd sp Ex wo wa wk)) := by
  obtain ⟨f, fd, ps, its, dvs, F, hme, b, hd⟩ := me.ex
  refine ⟨fun pins s σ H Q I q => ?_⟩
  obtain ⟨F0, ρ, fp, Qd, ok, h, kk⟩ := q
  have key : LE G wo σ H fun v0 H0 => ∃ a dx fs, v0 = .ref a ∧ H0 a = some (.ins (G.ca c) dx fs) ∧ fs.lookup mt = none ∧ LA G wa σ H0 fun vs H2 => LA G wk σ H2 fun us H3 => vs.length = n ∧ us.length = ks.length ∧ lift G.K G.ca [] sp (permL is (.ref a :: vs ++ us ++ dvs)) H3 Q (fun cls d H => W cls d σ H) := by
    refine ⟨F0, ρ, fp, _, ok, h, fun v0 H0 F1 ρ0 fp0 r0 f0 en0 rr0 ⟨hi, q⟩ => ?_⟩
    obtain ⟨a, dx, fs, rfl, hz, hl⟩ := hi.at_ en0.ok rr0
    refine ⟨a, dx, fs, rfl, hz, hl, two_lists en0.ok q fun vs us H' F' ρ' fp' rs zs f1 f2 en r1 r2 ⟨l1, l2, q⟩ => ⟨r1.len.trans l1, (r2.len.trans l2).trans hm.symm, ?_⟩⟩
    exact callP_core (vs := .ref a :: vs ++ us) lk (hK ▸ hd) hdd ok.rch (en0.trans en rr0.dom) (RrL.cons (rr0.step en.st en0.ok.nf (nodup_d en0.nd)) (r1.app r2)) q kk
  refine PySem.W.methodCall_KW (pl := pl) (thn (he.run pins s σ H _ I key) fun u s1 ⟨x, H1, I1, rx, a, dx, fs, ex, ea, l, q⟩ => ?_) ht
  · subst ex
    have hu : u = Value.ref a := rx
    subst hu
    refine getmeth_ok I1 ea me.cls hme l ?_
    refine PySem.W.callWith_KW (first := [.ref a]) (h₀ := X.base) I.ok.mod.kin hme.kp hall (thn (ha.run pos pins s1 σ H1 _ I1 q) fun us s2 ⟨vs, H2, I2, r, q2⟩ => thn (hw.run pos pins s2 σ H2 _ I2 q2) fun ws s3 ⟨zs, H3, I3, rz, l1, l2, q3⟩ => ⟨I3.kIn, ?_⟩) hpl hst
    rw [hks]
    rw [← hK] at q3
    exact run_kwG (E := fun σ cls d H => W cls d σ H) (us := .ref a :: us) (vs := .ref a :: vs) F (hr.mono hk) b (passAt tk σ) I3 (.cons (show RelV (.ref a) (.ref a) from rfl) r) rz (congrArg Nat.succ l1) l2 q3
end
end
end M
/-! M17: dicts with keys that are ints or texts. -/
namespace M
open PySem PySem.Spec PyProof.Rows L2

def keyOf : D → Option Key
  | .int i => some (.inl i)
  | .str x => some (.inr x)
  | _ => none
def keyD : Key → D
  | .inl i => .int i
  | .inr x => .str x
def valD {α : Type} : List Key → List α → Key → Option α
  | j :: ks, x :: xs, k => if j = k then some x else valD ks xs k
  | _, _, _ => none
def hasK (ks : List Key) (k : Key) : Bool := ks.any fun j => decide (j = k)
def putKs (ks : List Key) (k : Key) : List Key := if hasK ks k = true then ks else ks ++ [k]
def repX {α : Type} : List Key → List α → Key → α → List α
  | j :: ks, x :: xs, k, v => (if j = k then v else x) :: repX ks xs k v
  | _, _, _, _ => []
def putXs {α : Type} (ks : List Key) (xs : List α) (k : Key) (v : α) : List α := if hasK ks k = true then repX ks xs k v else xs ++ [v]
theorem zip_any {us : List V} {k : Key} : ∀ {ks : List Key} {us : List V}, ks.length = us.length → ((ks.zip us).any fun kv => decide (kv.1 = k)) = hasK ks k
  | [], [], _ => rfl
  | j :: ks, u :: us, h => by
    show (decide (j = k) || (ks.zip us).any _) = (decide (j = k) || hasK ks k)
    rw [zip_any (us := us) (by simpa using h)]
theorem zip_rep {k : Key} {v : V} : ∀ {ks : List Key} {us : List V}, ks.length = us.length → (ks.zip us).map (fun kv => if kv.1 = k then (kv.1, v) else kv) = ks.zip (repX ks us k v)
  | [], [], _ => rfl
  | j :: ks, u :: us, h => by
    show (if j = k then (j, v) else (j, u)) :: (ks.zip us).map _ = (j, if j = k then v else u) :: ks.zip (repX ks us k v)
    rw [zip_rep (by simpa using h)]
    by_cases e : j = k
    · rw [if_pos e, if_pos e]
    · rw [if_neg e, if_neg e]
theorem rep_len {α : Type} {k : Key} {v : α} : ∀ {ks : List Key} {us : List α}, ks.length = us.length → (repX ks us k v).length = us.length
  | [], [], _ => rfl
  | j :: ks, u :: us, h => by
    show (repX ks us k v).length + 1 = us.length + 1
    rw [rep_len (by simpa using h)]
theorem putK_zip {ks : List Key} {us : List V} {k : Key} {v : V} (h : ks.length = us.length) : L2.putK (ks.zip us) k v = (putKs ks k).zip (putXs ks us k v) := by
  unfold L2.putK putKs putXs
  rw [zip_any (us := us) h]
  by_cases e : hasK ks k = true
  · rw [if_pos e, if_pos e, if_pos e, zip_rep h]
  · rw [if_neg e, if_neg e, if_neg e, List.zip_append h]; rfl
theorem putK_len {α : Type} {ks : List Key} {us : List α} {k : Key} {v : α} (h : ks.length = us.length) : (putKs ks k).length = (putXs ks us k v).length := by
  unfold putKs putXs
  by_cases e : hasK ks k = true
  · rw [if_pos e, if_pos e, rep_len h, h]
  · rw [if_neg e, if_neg e]; simp [h]
theorem valV_zip {k : Key} : ∀ {ks : List Key} {us : List V}, valV (ks.zip us) k = valD ks us k
  | [], _ => by cases ‹List V› <;> rfl
  | j :: ks, [] => rfl
  | j :: ks, u :: us => by
    show valV ((j, u) :: ks.zip us) k = if j = k then some u else valD ks us k
    by_cases e : j = k
    · rw [valV_pos e, if_pos e]
    · rw [valV_neg e, if_neg e, valV_zip]

section
variable {G : Gc} {X : Cx} {F F' F1 F2 : Addr → Prop} {H H' H1 H2 : Hp} {σ σ' : L2.St} {ρ ρ' ρ1 ρ2 : Sl} {fp fp' fp1 fp2 fr fr1 fr2 fr' fo : List Addr} {v v1 v2 : V} {r r1 r2 d : D} {p : Addr} {o : HO}
  {a b c e : Expr} {es : List Expr} {wa wb we wo wk : WE} {ta tb tc : WT} {rest : List Expr} {pos : Pos} {K : PySem.W.Frag} {ca : Str → Addr}
theorem Rr.key {k : Key} (h : Rr G F H σ v r fr) (e : keyOf r = some k) : v = kV k ∧ fr = [] := by
  cases r <;> (try (cases e; done))
  · obtain ⟨rfl, rfl⟩ := h.int; cases e; exact ⟨rfl, rfl⟩
  · obtain ⟨rfl, rfl⟩ := h.str; cases e; exact ⟨rfl, rfl⟩
theorem Rp.dct {o : Bool} {ks : List Key} {xs : List D} (h : Rp K ca F H v (.dct o ks xs) fr) : ∃ a us, v = .ref a ∧ Rd H a (.dK (ks.zip us)) ∧ ks.length = us.length ∧ RpL K ca F H us xs [] := by
  cases h with
  | dfz e _ l r => exact ⟨_, _, rfl, e, l, r⟩
  | dow e _ l r => exact ⟨_, _, rfl, .inl e, l, r⟩
theorem RpL.valD {k : Key} : ∀ {ks : List Key} {xs : List D} {us : List V}, RpL K ca F H us xs [] → ∀ {d : D}, M.valD ks xs k = some d → ∃ v, M.valD ks us k = some v ∧ Rp K ca F H v d []
  | [], xs, us, _, d, e => by cases xs <;> cases e
  | j :: ks, [], us, _, d, e => by cases e
  | j :: ks, x :: xs, u :: us, h, d, e => by
    obtain ⟨r, t⟩ := h.nil_of
    unfold M.valD at e ⊢
    by_cases q : j = k
    · rw [if_pos q] at e ⊢; cases e; exact ⟨u, rfl, r⟩
    · rw [if_neg q] at e ⊢; exact RpL.valD t e
theorem valD_some {α β : Type} {k : Key} : ∀ {ks : List Key} {xs : List α} {us : List β}, xs.length = us.length → (valD ks xs k).isSome = (valD ks us k).isSome
  | [], xs, us, _ => by cases xs <;> cases us <;> rfl
  | j :: ks, [], [], _ => rfl
  | j :: ks, x :: xs, u :: us, h => by
    unfold valD
    by_cases q : j = k
    · rw [if_pos q, if_pos q]; rfl
    · rw [if_neg q, if_neg q]; exact valD_some (by simpa using h)
theorem RpL.rep {k : Key} (rv : Rp K ca F H v d []) : ∀ {ks : List Key} {xs : List D} {us : List V}, RpL K ca F H us xs [] → RpL K ca F H (repX ks us k v) (repX ks xs k d) []
  | [], xs, us, _ => by cases xs <;> cases us <;> exact .nil
  | j :: ks, [], [], _ => .nil
  | j :: ks, x :: xs, u :: us, h => by
    obtain ⟨r, t⟩ := h.nil_of
    unfold repX
    refine .cons (fp := []) (fq := []) ?_ (RpL.rep rv t)
    by_cases q : j = k
    · rw [if_pos q, if_pos q]; exact rv
    · rw [if_neg q, if_neg q]; exact r
theorem RpL.putXs {k : Key} {ks : List Key} {xs : List D} {us : List V} (h : RpL K ca F H us xs []) (rv : Rp K ca F H v d []) : RpL K ca F H (M.putXs ks us k v) (M.putXs ks xs k d) [] := by
  unfold M.putXs
  by_cases e : hasK ks k = true
  · rw [if_pos e, if_pos e]; exact RpL.rep rv h
  · rw [if_neg e, if_neg e]; exact h.app (.one rv)

/-! ### d[k], k in d, {} -/
def rIxDk : R2 := fun x y H Q => ∃ a v, x = .ref a ∧ DGet H a y (some v) ∧ Q v H
theorem ix_dict (hu : X.A.units + 1 < cLine) : IxR X rIxDk := by
  intro value slice pins s σ H x y v u Q I rx ry h hs
  obtain ⟨a, w, rfl, g, q⟩ := h
  obtain rfl : v = Value.ref a := rx
  unfold subscriptTail
  refine wpAny_bind ?_
  rw [getitemInPython_of_ne (dict_typeIs I g).not_modules]
  refine wpAny_bind (wpAny_specialOf (dict_typeIs I g) PySem.F.slot_dict_getitem.lookup ?_)
  have fin : wpAny (model X.prog X.w) X.A (subscripted slice false (.ref a) u) (fun r s₃ => wpAny (model X.prog X.w) X.A (letTemporaryGo value (.ref a) r >>= fun _ => pure r) (EP X pins σ Q) X.xe s₃) X.xe s := by
    rw [hs]
    exact wpAny_operating (d_getItem hu I g ry fun w' s3 I3 rw' => wpAny_bind (wpAny_letTemporaryGo (wpAny_pure ⟨w, H, I3, rw', q⟩)))
  first
    | exact wpAny_pure (wpAny_bind fin)
    | exact wpAny_bind (wpAny_pure (wpAny_bind fin))
    | exact wpAny_bind fin
def oIxD : O2 := fun ρ x y K => ∃ o ks xs k d, pk ρ x = some (.dct o ks xs) ∧ keyOf y = some k ∧ valD ks xs k = some d ∧ K d
theorem oIxD_ok : O2Ok G rIxDk oIxD := fun F H σ ρ fp v1 v2 x y f1 f2 Kd Q ok r1 r2 nd h kk => by
  obtain ⟨o, ks, xs, k, d, e1, e2, e3, q⟩ := h
  obtain ⟨rfl, _⟩ := r2.key e2
  obtain ⟨_, rp, _⟩ := r1.see ok e1
  obtain ⟨a, us, rfl, hd, l, rl⟩ := rp.dct
  obtain ⟨w, ew, rw_⟩ := rl.valD e3
  exact ⟨a, w, rfl, .inl ⟨_, k, hd, rfl, by rw [valV_zip, ew]⟩, kk w H F d [] (En.refl ok) rw_ q⟩
def oIxA : O2 := oOr oIx oIxD
theorem d_ixA (hu : X.A.units + 64 < cLine) (hK : X.K = G.K) (ha : PE X a (LE G wa)) (hb : PE X b (LE G wb)) (hs : PlainIx b := by exact fun _ _ => rfl) : PE X (.Subscript a b pos) (LE G (wOp oIxA wa wb)) :=
  imE (pe_ix (ix_seq.or (ix_dict (by omega))) ha hb hs) (LE.op ((hK ▸ oIx_ok).or oIxD_ok))
def rInDk (g : Bool → Bool) : R2 := fun y x H Q => ∃ a o, x = .ref a ∧ DGet H a y o ∧ Q (.bl (g o.isSome)) H
theorem op_inDk (hu : X.A.units + 1 < cLine) : OpR X (compareOp .In) (rInDk id) := fun pins s σ H x y v u Q I rx ry h => by
  obtain ⟨a, o, rfl, g, q⟩ := h
  obtain rfl : u = Value.ref a := ry
  exact d_in hu I g rx fun s3 I3 => ⟨.bl o.isSome, H, I3, rfl, q⟩
theorem op_notInDk (hu : X.A.units + 1 < cLine) : OpR X (compareOp .NotIn) (rInDk not) := fun pins s σ H x y v u Q I rx ry h => by
  obtain ⟨a, o, rfl, g, q⟩ := h
  obtain rfl : u = Value.ref a := ry
  exact d_notIn hu I g rx fun s3 I3 => ⟨.bl (!o.isSome), H, I3, rfl, q⟩
def oInDk (g : Bool → Bool) : O2 := fun ρ x y K => ∃ o ks xs k, pk ρ y = some (.dct o ks xs) ∧ keyOf x = some k ∧ K (.bl (g (valD ks xs k).isSome))
theorem oInDk_ok (g : Bool → Bool) : O2Ok G (rInDk g) (oInDk g) := fun F H σ ρ fp v1 v2 x y f1 f2 Kd Q ok r1 r2 nd h kk => by
  obtain ⟨o, ks, xs, k, e1, e2, q⟩ := h
  obtain ⟨rfl, _⟩ := r1.key e2
  obtain ⟨_, rp, _⟩ := r2.see ok e1
  obtain ⟨a, us, rfl, hd, l, rl⟩ := rp.dct
  refine ⟨a, valD ks us k, rfl, .inl ⟨_, k, hd, rfl, by rw [valV_zip]⟩, ?_⟩
  rw [← valD_some rl.length.symm]
  exact kk _ H F _ [] (En.refl ok) (.bl _) q
def oInA : O2 := oOr oIn (oInDk id)
def oNotInA : O2 := oOr oNotIn (oInDk not)
theorem c_inA (hK : X.K = G.K) (hu : X.A.units + 65 < cLine) : CmpR X G .In oInA := let ⟨r, h1, h2⟩ := (c_in (G := G) hK hu).ex; ⟨_, h1.or (op_inDk (by omega)), h2.or (oInDk_ok id)⟩
theorem c_notInA (hK : X.K = G.K) (hu : X.A.units + 65 < cLine) : CmpR X G .NotIn oNotInA := let ⟨r, h1, h2⟩ := (c_notIn (G := G) hK hu).ex; ⟨_, h1.or (op_notInDk (by omega)), h2.or (oInDk_ok not)⟩
def wDn : WE := fun ρ Q => Q (.dct true [] []) ρ
theorem d_dn : PE X (.Dict [] [] pos) (LE G wDn) := imE pe_dnewK fun σ H Q q => by
  obtain ⟨F, ρ, fp, Qd, ok, h, k⟩ := q
  exact fun q hq => k _ _ F ρ fp _ [q] (En.own ok hq) (.inl (.dow (vs := []) upd_same (ok.not_none hq).1 rfl .nil)) h

/-! ### xs[i] = .., d[k] = .. -/
def rSetA : TSet := fun o i v H Q => rSetL o i v H Q ∨ rSetD o i v H Q
theorem set_any (hu : X.A.units + 64 < cLine) : PSet X rSetA := fun pins s σ H o i v ov iv u Q I ro ri rv h => h.elim (set_list pins s σ H o i v ov iv u Q I ro ri rv) (set_dict (by omega) pins s σ H o i v ov iv u Q I ro ri rv)
def gSetA (wo wi : WE) : WG := fun r ρ Q => wo ρ fun o ρ1 => wi ρ1 fun i ρ2 => (∃ j n xs k d ρ3, o = .sl j ∧ i = .int n ∧ fzR ρ2 r = some (d, ρ3) ∧ ρ3[j]? = some (some (.lst true xs)) ∧ ixN xs.length n = some k ∧ Q (ρ3.set j (some (.lst true (xs.set k d))))) ∨
  ∃ j ks xs k d ρ3, o = .sl j ∧ keyOf i = some k ∧ fzR ρ2 r = some (d, ρ3) ∧ ρ3[j]? = some (some (.dct true ks xs)) ∧ ks.length < sizeLine ∧ Q (ρ3.set j (some (.dct true (putKs ks k) (putXs ks xs k d))))
theorem low_dct {a : Addr} {ks : List Key} {xs : List D} : ∀ fp, Rp K ca F H (.ref a) (.dct true ks xs) fp → fp = [a] := fun fp h => by cases h; rfl
theorem dg_setA {o i : Expr} {wo wi : WE} (hg : PG X (.Subscript o i pos) (gSub (LE G wo) (LE G wi) rSetA)) : PG X (.Subscript o i pos) (LG G (gSetA wo wi) []) := imG hg fun v σ H Q q => by
  obtain ⟨F, ρ, fp, r, fr, Qd, ok, rr, ⟨nd, hr⟩, h, k⟩ := q
  refine ⟨F, ρ, fp, _, ok, h, fun vo H1 F1 ρ1 fp1 o f1 en1 ro q => ?_⟩
  refine ⟨F1, ρ1, fp1, _, en1.ok, q, fun vi H2 F2 ρ2 fp2 i f2 en2 ri q => ?_⟩
  have st : Step F H fp F2 H2 fp2 := en1.st0.trans en2.st0
  have rr2 := rr.step st ok.nf (nodup_d nd)
  have nd2 : (fr ++ fp2).Nodup := nodup_of (nodup_l nd) en2.ok.nd fun a z y => by
    rcases st.fps a y with w | w
    · exact nodup_d nd a z w
    · obtain ⟨u, eu⟩ := rr.dom a z
      rw [eu] at w; cases w
  have s1 : Step F H (fr ++ fp) F2 H2 (fr ++ fp2) := st.frame fr
  rcases q with ⟨j, n, xs, kk, d, ρ3, rfl, rfl, e3, e4, ek, q⟩ | ⟨j, ks, xs, kk, d, ρ3, rfl, ei, e3, e4, hz, q⟩
  · obtain ⟨hσ, rfl⟩ := ro.sl
    obtain ⟨rfl, rfl⟩ := ri.int
    obtain ⟨F3, fp3, s3, rp⟩ := rr2.share en2.ok nd2 hr e3
    obtain ⟨a, us, rfl, ha, rl, nF, _⟩ := s3.ok.own hσ e4
    obtain ⟨fp4, en4⟩ := s3.ok.setL (fr := []) e4 hσ ha nF (rl.set rp kk)
    refine .inl ⟨a, us, n, kk, rfl, rfl, ha, by rw [rl.length]; exact ek, k σ _ F3 _ fp4 ?_ en4.ok off_refl q⟩
    have s4 : Step F3 H2 fp3 F3 (upd H2 a (.lst (us.set kk v))) fp4 := by simpa using en4.st
    exact s1.trans (s3.step.trans s4)
  · obtain ⟨hσ, rfl⟩ := ro.sl
    obtain ⟨rfl, rfl⟩ := ri.key ei
    obtain ⟨F3, fp3, s3, rp⟩ := rr2.share en2.ok nd2 hr e3
    obtain ⟨l, fq, r', e1, g1, _, g3, _⟩ := s3.ok.rs.at_ (i := j) (by rw [List.getElem?_eq_some_iff] at e4; exact e4.1)
    obtain ⟨v', ev, rpi⟩ := g1 _ e4
    rw [hσ] at ev; cases ev
    cases rpi with
    | @dow a _ us _ ha nF ll rl =>
      obtain ⟨fp4, en4⟩ := s3.ok.change (fr := []) e4 hσ low_dct ha trivial (u := .dK ((putKs ks kk).zip (putXs ks us kk v))) (d1 := .dct true (putKs ks kk) (putXs ks xs kk d))
        (.dow upd_same nF (putK_len ll) ((rl.putXs rp).mut ha trivial nF))
      refine .inr ⟨a, _, rfl, .inl ⟨_, kk, ha, rfl, by rw [List.length_zip]; omega, rfl⟩, ?_⟩
      rw [putK_zip ll]
      refine k σ _ F3 _ fp4 ?_ en4.ok off_refl q
      have s4 : Step F3 H2 fp3 F3 (upd H2 a (.dK ((putKs ks kk).zip (putXs ks us kk v)))) fp4 := by simpa using en4.st
      exact s1.trans (s3.step.trans s4)

/-! ### {k: v for ..} -/
def wDc (wi : WI) (g : WG) (wt : WT) (wk we : WE) (vs : List Nat) : WE := fun ρ Q => wi ρ fun ds ρ1 => ∃ I : Nat → List Key → List D → Sl → Prop, I 0 [] [] (wip ρ1 vs) ∧
  (∀ i d ks xs ρ, ds[i]? = some d → I i ks xs ρ → g d ρ fun ρ2 => wt ρ2 fun b ρ3 => if b = true then wk ρ3 fun x ρ4 => we ρ4 fun r ρ5 => ∃ k y ρ6, keyOf x = some k ∧ fzR ρ5 r = some (y, ρ6) ∧ ks.length < sizeLine ∧ I (i + 1) (putKs ks k) (putXs ks xs k y) (wip ρ6 vs) else I (i + 1) ks xs (wip ρ3 vs)) ∧
  ∀ ks xs ρ, I ds.length ks xs ρ → Q (.dct true ks xs) (rst ρ1 ρ vs)
theorem le_dc {wi : WI} {g : WG} {S : List Nat} {wt : WT} {vs : List Nat} (hS : ∀ j ∈ S, j ∈ vs) (hpm : ∀ p ∈ G.pm, p.1 ∉ vs) : ∀ σ H Q, LE G (wDc wi g wt wk we vs) σ H Q → tDc (LW G wi) (LG G g S) (LT G wt) (LE G wk) (LE G we) vs σ H Q := fun σ H Q q => by
  obtain ⟨F, ρ, fp, Qd, ok, h, k⟩ := q
  refine ⟨F, ρ, fp, _, ok, h, fun J H1 F1 ρ1 fp1 ds en it q => ?_⟩
  obtain ⟨I, i0, turn, done⟩ := q
  intro q hq
  have oF : Off vs σ (wipe σ vs) := ⟨by rw [wipe_length], fun j hj => wipe_off σ hj⟩
  have oB : Off vs (wipe σ vs) σ := ⟨by rw [wipe_length], fun j hj => (wipe_off σ hj).symm⟩
  refine ⟨fun i m H' => m = ds.length - i ∧ i ≤ ds.length ∧ ∃ F' ρ' fp' ks xs us, Step F1 H1 fp1 F' H' (q :: fp') ∧ Ok G F' H' σ (wip ρ' vs) fp' ∧ H' q = some (.dK (ks.zip us)) ∧ ks.length = us.length ∧ RpL G.K G.ca F' H' us xs [] ∧ ¬ F' q ∧ q ∉ fp' ∧ I i ks xs (wip ρ' vs), ?_, ?_⟩
  · obtain ⟨fp2, ok2, sub⟩ := en.ok.wip vs
    have nn := en.ok.not_none hq
    refine ⟨_, rfl, Nat.zero_le _, F1, ρ1, fp2, [], [], [], ?_, ok2.new hq, upd_same, rfl, .nil, nn.1, fun z => nn.2 (sub q z), i0⟩
    have := (En.own (o := .dK []) en.ok hq).st
    exact this.less fun a z => by
      rcases List.mem_cons.mp z with z | z
      · simp [z]
      · simp [sub a z]
  · rintro i m H2 ⟨rfl, hi, F2, ρ2, fp2, ks, xs, us, s2, ok2, eq, ll, rl, nF, nf, inv⟩
    have s2' : Step F1 H1 fp1 F2 H2 fp2 := s2.less fun a z => List.mem_cons_of_mem _ z
    by_cases hlt : i < ds.length
    · obtain ⟨go, yl⟩ := it.go i ds[i] F2 H2 σ (wip ρ2 vs) fp2 s2' ok2 (by simp [hlt])
      refine .inr ⟨go, fun H' => ∃ F' ρ' fp' ks xs us, Step F1 H1 fp1 F' H' (q :: fp') ∧ Ok G F' H' σ (wip ρ' vs) fp' ∧ H' q = some (.dK (ks.zip us)) ∧ ks.length = us.length ∧ RpL G.K G.ca F' H' us xs [] ∧ ¬ F' q ∧ q ∉ fp' ∧ I (i + 1) ks xs (wip ρ' vs), fun H' z => ⟨_, by omega, rfl, hlt, z⟩, fun x H3 y => ?_⟩
      obtain ⟨F3, en3, rp⟩ := yl x H3 y
      refine ⟨F3, wip ρ2 vs, fp2, ds[i], [], _, en3.ok.off oF hpm, .inl rp, ⟨by simpa using en3.ok.nd, fun a z => nomatch z⟩, turn i ds[i] ks xs (wip ρ2 vs) (by simp [hlt]) inv, fun σ4 H4 F4 ρ4 fp4 s4 ok4 of4 q4 => ?_⟩
      refine ⟨by rw [wipe_eq of4 hS, wipe_wipe], F4, ρ4, fp4, _, ok4, q4, fun b H5 F5 ρ5 fp5 en5 q5 => ?_⟩
      have sA : Step F2 H2 fp2 F5 H5 fp5 := (en3.st0.trans s4).trans en5.st0
      have oBk : Off vs σ4 σ := ⟨by rw [of4.len, wipe_length], fun j hj => by rw [of4.at_ j fun z => hj (hS j z), wipe_off σ hj]⟩
      have sB : Step F1 H1 fp1 F5 H5 (q :: fp5) := by
        have t := s2'.trans sA
        refine ⟨t.mono, t.new, t.keep, t.there, fun a z => ?_⟩
        rcases List.mem_cons.mp z with z | z
        · rw [z]; exact .inr hq
        · exact t.fps a z
      obtain ⟨e5, nF5, nf5⟩ := sA.apart eq nF nf
      cases b with
      | false =>
        obtain ⟨fp6, ok6, sub6⟩ := en5.ok.wip vs
        refine ⟨F5, ρ5, fp6, ks, xs, us, sB.less fun a z => ?_, ok6.off oBk hpm, e5, ll, rl.step sA ok2.nf (fun a z => nomatch z), nF5, fun z => nf5 (sub6 q z), q5⟩
        rcases List.mem_cons.mp z with z | z
        · simp [z]
        · simp [sub6 a z]
      | true =>
        refine ⟨F5, ρ5, fp5, _, en5.ok, q5, fun vk Hk Fk ρk fpk rk frk enk rrk qk => ?_⟩
        refine ⟨Fk, ρk, fpk, _, enk.ok, qk, fun v H6 F6 ρ6 fp6 r fr6 en6 rr6 q6 => ?_⟩
        obtain ⟨kk, y, ρ7, ek, e7, z7, q7⟩ := q6
        obtain ⟨rfl, rfl⟩ := rrk.key ek
        obtain ⟨F7, fp7, s7, rp7⟩ := rr6.share en6.ok en6.nd (en6.hr enk.ok) e7
        have sC : Step F2 H2 fp2 F7 H6 fp7 := sA.trans (enk.st0.trans (en6.st.trans s7.step))
        obtain ⟨e8, nF8, nf8⟩ := sC.apart eq nF nf
        obtain ⟨fp8, ok8, sub8⟩ := s7.ok.wip vs
        refine ⟨_, kk, rfl, e8, by rw [List.length_zip]; omega, F7, ρ7, fp8, putKs ks kk, putXs ks xs kk y, putXs ks us kk v, ?_, ?_, by rw [upd_same, putK_zip ll], putK_len ll, ?_, nF8, fun z => nf8 (sub8 q z), q7⟩
        · have t := s2'.trans sC
          refine ⟨t.mono, t.new, fun a o eo c => ?_, fun a o eo => ?_, fun a z => ?_⟩
          · rw [upd_ne (ne_of_none eo hq)]; exact t.keep a o eo c
          · obtain ⟨o', e'⟩ := t.there a o eo
            exact ⟨o', by rw [upd_ne (ne_of_none eo hq)]; exact e'⟩
          · rcases List.mem_cons.mp z with z | z
            · rw [z]; exact .inr hq
            · exact t.fps a (sub8 a z)
        · have ok9 : Ok G F7 H6 σ (wip ρ7 vs) fp8 := ok8.off oBk hpm
          refine ok9.step (fq := [q]) (fq' := [q]) ⟨fun _ z => z, fun _ z => .inl z, fun a o eo c => ?_, fun a o eo => ?_, fun _ z => .inl z⟩ (fun a z => by rw [List.mem_singleton.mp z]; exact nF8) (fun a z w => nf8 (sub8 q (by rw [← List.mem_singleton.mp w]; exact z))) (fun a f => ?_) ?_
          · by_cases ha : a = q
            · subst ha
              rcases c with c | c
              · exact absurd List.mem_cons_self c
              · rw [e8] at eo; cases eo; exact absurd trivial c
            · rw [upd_ne ha]; exact eo
          · by_cases ha : a = q
            · exact ⟨_, by rw [ha]; exact upd_same⟩
            · exact ⟨o, by rw [upd_ne ha]; exact eo⟩
          · obtain ⟨o, eo⟩ := ok9.dom a f
            by_cases ha : a = q
            · exact ⟨_, by rw [ha]; exact upd_same⟩
            · exact ⟨o, by rw [upd_ne ha]; exact eo⟩
          · have t := (en.ok.rch.trans (s2'.trans sC)).less sub8
            have h0 := en.ok.rch.none_of hq
            exact ⟨t.mono, t.new, fun a o eo c => by rw [upd_ne (ne_of_none eo h0)]; exact t.keep a o eo c, fun a o eo => by
              obtain ⟨o', e'⟩ := t.there a o eo
              exact ⟨o', by rw [upd_ne (ne_of_none eo h0)]; exact e'⟩, t.fps⟩
        · exact ((rl.step sC ok2.nf fun a z => nomatch z).putXs rp7).mut e8 trivial nF8
    · have e : i = ds.length := by omega
      subst e
      refine .inl ⟨it.stop F2 H2 σ (wip ρ2 vs) fp2 s2' ok2, ?_⟩
      obtain ⟨fp3, ok3, sub3⟩ := Ok.rst en.ok s2' ok2 vs hpm
      refine k (.ref q) H2 F2 (rst ρ1 (wip ρ2 vs) vs) fp3 (.dct true ks xs) [q] ⟨en.st0.trans (s2.less fun a z => ?_), ok3, nodup_of (by simp) ok3.nd fun a z w => nf (by rw [← List.mem_singleton.mp z]; exact sub3 a w)⟩ (.inl (.dow eq nF ll rl)) (done ks xs _ inv)
      rcases List.mem_append.mp z with z | z
      · simp [List.mem_singleton.mp z]
      · simp [sub3 a z]
theorem d_dc {kx vx tg iter : Expr} {ifs : List Expr} {scope : Scope} {own : List (Str × Nat)} {wi : WI} {g : WG} {S : List Nat} {wt : WT} (hc : X.calm = true) (hN : X.N.Nodup) (hi : PI X tg iter (LW G wi)) (ok : BlkOk X.N X.env.scope scope own)
    (hg : ∀ (s : Shared) (H : Hp) (C : Addr) (cl : List (Str × Addr)) (fp : List Addr), PG (X.blk s H scope (compEnvC scope cl C X.env) fp) tg (LG G g S)) (ht : ∀ (s : Shared) (H : Hp) (C : Addr) (cl : List (Str × Addr)) (fp : List Addr), PTs (X.blk s H scope (compEnvC scope cl C X.env) fp) ifs (LT G wt))
    (hk : ∀ (s : Shared) (H : Hp) (C : Addr) (cl : List (Str × Addr)) (fp : List Addr), PE (X.blk s H scope (compEnvC scope cl C X.env) fp) kx (LE G wk)) (he : ∀ (s : Shared) (H : Hp) (C : Addr) (cl : List (Str × Addr)) (fp : List Addr), PE (X.blk s H scope (compEnvC scope cl C X.env) fp) vx (LE G we)) (hS : ∀ j ∈ S, j ∈ own.map (·.2)) (hpm : ∀ p ∈ G.pm, p.1 ∉ own.map (·.2)) (hs : ∀ x, foldedSetIterable iter X.env x = pure x := by intro _; rfl) :
    PE X (.DictComp kx vx [⟨tg, iter, ifs, 0⟩] scope pos) (LE G (wDc wi g wt wk we (own.map (·.2)))) := imE (pe_dc hc hN hi ok hg ht hk he hs) (le_dc hS hpm)
end
end M
/-! M18: enumerate of tuples and lists. -/
namespace M
open PySem PySem.Spec PyProof.Rows L2

theorem enum_new1 {v : Value} {o : Obj} {H : Heap → Prop} (B : Begins v o H) : Meets (Builtin.«enumerate.__new__» ⟨[.type "enumerate", v], []⟩) (fun _ R s => H s.heap ∧ R (.ok (.ret (.ref (s.heap.push o).objs.size))) { s with heap := (s.heap.push o).push { cls := .type "enumerate", data := .fields #[.none, .bool false, .ref s.heap.objs.size, rawInt 0, .none, .none] } }) :=
  .of_wp fun prog w A R s h => by
    obtain ⟨hp, g, dr, tk, os⟩ := s
    obtain ⟨h1, h⟩ := h
    have hsub := sub_enumerate
    have it1 : ∀ {A' : Around} {E : Value → Shared → Prop} {Q : Value → Shared → Prop}, Q (.ref hp.objs.size) ⟨hp.push o, g, dr, tk, os⟩ → wpAny (model prog w) A' (pyIter v) Q E ⟨hp, g, dr, tk, os⟩ := fun q => B.iter prog w _ _ ⟨hp, g, dr, tk, os⟩ _ h1 q
    wp_walk using it1
    refine wpAny_stack_any fun st => wpAny_pure ?_
    split
    · rename_i c _ _ _ _ _
      cases (c == Value.type "enumerate") <;> (wp_walk using it1; exact ⟨_, rfl, h⟩)
    · wp_walk using it1
      exact ⟨_, rfl, h⟩
theorem enum_call1 {prog : Program} {w : World} {A : Around} {E : Value → Shared → Prop} {s : Shared} {v : Value} {o : Obj} {H : Heap → Prop} {Q : Value → Shared → Prop} (B : Begins v o H) (h1 : H s.heap)
    (h : ∀ h', IsEnum h' (s.heap.objs.size + 1) s.heap.objs.size 0 .none → h'.get? s.heap.objs.size = some o → (∀ b o, s.heap.get? b = some o → h'.get? b = some o) → Q (.ref (s.heap.objs.size + 1)) { s with heap := h' }) : wpAny (model prog w) A (call (.type "enumerate") [v]) Q E s := by
  refine callType_new F.called_enumerate (by decide) (F.typeCall_enumerate_1 _) (F.newCall_enumerate_1 _) (fun obj => F.args_object_init_2 obj _) F.entry_enumerate_new (enum_new1 B) ⟨h1, ?_⟩
  have hz : (s.heap.push o).objs.size = s.heap.objs.size + 1 := Heap.size_push ..
  show _ ∧ _
  rw [hz]
  have he := Heap.get?_push_size (s.heap.push o) (o := { cls := .type "enumerate", data := .fields #[.none, .bool false, .ref s.heap.objs.size, rawInt 0, .none, .none] }) rfl
  rw [hz] at he
  exact ⟨⟨_, he, rfl⟩, h _ he (Heap.get?_push_of_some _ (Heap.get?_push_size _ B.free)) fun b o x => Heap.get?_push_of_some _ (Heap.get?_push_of_some _ x)⟩
/-- the tuple at a, each item in a new pair -/
def IteT (K : PySem.W.Frag) (a : Addr) : It :=
  ⟨fun i H => ∃ (xs : List V) (x : V), SqT K H a xs ∧ xs[i]? = some x, fun i H v H' => ∃ T x, v = .ref T ∧ H T = none ∧ H' = upd H T (.tup [.int (i : Nat), x]) ∧ ∀ xs, SqT K H a xs → xs[i]? = some x, fun i H => ∃ xs : List V, SqT K H a xs ∧ xs.length = i⟩
theorem turn_enumT {P : Program} {w : World} {K : PySem.W.Frag} {elts : List Expr} {kk : Nat} {tpos : Pos} (a e it : Addr) (items : Array Value) (hne : e ≠ it) (hae : e ≠ a) (hai : a ≠ it) :
    Turn P w K (.Tuple elts kk tpos) (IteT K a) [e, it] e (fun i h => (∃ old, IsEnum h e it ((i : Nat) : Int) old) ∧ h.IsTupleIter it a i) where
  mem := by simp
  obj := fun i h st b hb => by
    obtain ⟨⟨old, he⟩, ⟨o, ho, hc, hd⟩⟩ := st
    rcases List.mem_cons.mp hb with z | z
    · rw [z]; exact ⟨_, he, fun v q => nomatch q⟩
    · rw [List.mem_singleton.mp z]; exact ⟨o, ho, fun v q => by rw [hd] at q; cases q⟩
  keep := fun i h h' st k => let ⟨⟨old, he⟩, hi⟩ := st; ⟨⟨old, k e (by simp) _ he⟩, hi.at fun o q => k it (by simp) o q⟩
  item := by
    intro X hP hw hK hc i pins s σ H E I hf st hg
    subst hP hw hK
    obtain ⟨⟨old, he⟩, hit⟩ := st
    obtain ⟨xs, x, hq, hx⟩ := hg
    obtain ⟨its, rv, p, hz⟩ := I.tuple hq
    obtain ⟨u, hu, ru⟩ := rv.get hx
    have hel : e < s.heap.objs.size := Heap.lt_size he
    have hil : it < s.heap.objs.size := by obtain ⟨_, q, _⟩ := hit; exact Heap.lt_size q
    have hlt : i < its.toArray.size := by
      have := (List.getElem?_eq_some_iff.mp hu).1
      simpa using this
    refine wpAny_pyNext_enum_itemD (Draws.tuple (prog := X.prog) (w := X.w) (A := X.A.in1) (I.ok.hd hc) it a hai its.toArray) he ⟨hit, p⟩ hlt hne (by simp [hne, hae]) fun y h' tk hy ho st' hT hsz hk => ?_
    have ey : y = u := by
      have h2 : its.toArray[i]? = some u := by simpa using hu
      rw [h2] at hy; exact (Option.some.inj hy).symm
    subst ey
    refine ⟨_, rfl, wpAny_letOwnedTupleGo_enum (s := { s with heap := h', toks := tk + 1 }) ho fun h'' he' sb => ?_⟩
    have hT2 : h''.get? s.heap.objs.size = some { cls := .type "tuple", data := .seq #[.int i tk, y] } := (sb.2 _ (Nat.ne_of_gt hel)).trans hT
    have new : ObjOk X.prog X.w (upd H s.heap.objs.size (.tup [.int (i : Nat), x])) h'' s.heap.objs.size (.tup [.int (i : Nat), x]) :=
      ⟨by show 2 ≤ sizeLine; decide, [.int i tk, y], .cons ⟨_, rfl⟩ (.cons ru .nil), ⟨_, hT2, rfl, _, rfl⟩⟩
    have I1 : Inv X pins σ (upd H s.heap.objs.size (.tup [.int (i : Nat), x])) { s with heap := h'', toks := tk + 1 } :=
      I.turnedNew (ch := [e, it]) (fun b ob hb q => (sb.2 b (fun z => hb (by simp [z]))).trans (hk b ob (fun z => hb (by simp [z])) (fun z => hb (by simp [z])) q)) hf (Nat.le_refl _) new
    refine ⟨.ref s.heap.objs.size, _, I1, rfl, ⟨_, x, rfl, I.hok.fresh (Nat.le_refl _), rfl, fun ys hy => ?_⟩, ⟨⟨y, ?_⟩, st'.1.at fun o q => (sb.2 it (Ne.symm hne)).trans q⟩, fun b hb => ?_⟩
    · rw [I.tuple_inj hy hq]; exact hx
    · have e1 : ((i + 1 : Nat) : Int) = (i : Int) + 1 := by omega
      rw [e1]; exact he'
    · have hb' : b < s.heap.objs.size := by
        rcases List.mem_cons.mp hb with z | z
        · rw [z]; exact hel
        · rw [List.mem_singleton.mp z]; exact hil
      rw [upd_ne (Nat.ne_of_lt hb')]
      exact (hf b hb).1
  done := by
    intro X hP hw hK hc i pins s σ H E I hf st hg
    subst hP hw hK
    obtain ⟨⟨old, he⟩, hit⟩ := st
    obtain ⟨xs, hq, hx⟩ := hg
    obtain ⟨its, rv, p, hz⟩ := I.tuple hq
    obtain ⟨f0, f1, f2, f3, f4, f5⟩ := hf it (by simp)
    have hl := rv.length
    have hi : i = its.toArray.size := by simp; omega
    subst hi
    exact wpAny_pyNext_enum_endD (Draws.tuple (prog := X.prog) (w := X.w) (A := X.A.in1) (I.ok.hd hc) it a hai its.toArray) he ⟨hit, p⟩ fun h' eb => ⟨rfl, I.turned (t' := s.toks) (fun b o hb q => eb b o hb q) f0 f1 f3 f4 f5⟩
  self := fun A i s Q E st h => let ⟨⟨_, he⟩, _⟩ := st; wpAny_pyIter_enum he h
def iEnumA (K : PySem.W.Frag) (ta : TA) : TI := fun σ H R => ta σ H fun vs H1 => ∃ a, vs = [.ref a] ∧ ((∃ xs, SqL K H1 a xs ∧ R (Ite K a) H1) ∨ ∃ xs, SqT K H1 a xs ∧ R (IteT K a) H1)
theorem pi_enumA {X : Cx} {e : Expr} {ta : TA} {p pos tpos : Pos} {elts : List Expr} {kk : Nat} (hg : Gl X "enumerate") (hm : X.mg "enumerate" = none) (ha : PA X [e] ta) (hs : starEach [e] X.env = [(false, eval e X.env)] := by rfl) :
    PI X (.Tuple elts kk tpos) (.Call (.Name "enumerate" p) [e] [] pos) (iEnumA X.K ta) := by
  refine ⟨fun pins s σ H R I h => ?_⟩
  refine Call_ (ld_blt I hg hm boot_enumerate (PyProof.Rows.callWith_type1 (thn (ha.run pos pins s σ H _ I h) fun us s1 ⟨vs, H1, I1, r1, q1⟩ => ?_) hs rfl))
  obtain ⟨a, ex, q⟩ := q1
  subst ex
  obtain ⟨u, rfl, ru⟩ := Vals.one r1
  obtain rfl : u = Value.ref a := ru
  have free : ∀ {b : Addr}, b ∈ [s1.heap.objs.size + 1, s1.heap.objs.size] → FpOk X pins H1 b := fun {b} hb => by
    have hle : s1.heap.objs.size ≤ b := by
      rcases List.mem_cons.mp hb with z | z
      · rw [z]; exact Nat.le_add_right _ _
      · rw [List.mem_singleton.mp z]; exact Nat.le_refl _
    exact I1.fpOk hle (I1.hok.fresh hle)
  rcases q with ⟨xs, hq, q⟩ | ⟨xs, hq, q⟩
  · obtain ⟨its, rv, p', hz⟩ := I1.list hq
    refine enum_call1 (begins_list a its.toArray) p'.isList fun h' he hit hk => wpAny_pyIter_enum he ?_
    have I2 : Inv X pins σ H1 { s1 with heap := h' } := I1.kept (t' := s1.toks) hk
    exact ⟨s1.heap.objs.size + 1, [s1.heap.objs.size + 1, s1.heap.objs.size], _, _, H1, rfl, I2, turn_enum a (s1.heap.objs.size + 1) s1.heap.objs.size, ⟨⟨.none, he⟩, ⟨_, hit, rfl, rfl⟩, Nat.succ_ne_self _⟩, fun b hb => free hb, q⟩
  · obtain ⟨its, rv, p', hz⟩ := I1.tuple hq
    have ha : a < s1.heap.objs.size := by obtain ⟨_, z, _⟩ := p'; exact Heap.lt_size z
    refine enum_call1 (begins_tuple a its.toArray) p' fun h' he hit hk => wpAny_pyIter_enum he ?_
    have I2 : Inv X pins σ H1 { s1 with heap := h' } := I1.kept (t' := s1.toks) hk
    exact ⟨s1.heap.objs.size + 1, [s1.heap.objs.size + 1, s1.heap.objs.size], _, _, H1, rfl, I2, turn_enumT a (s1.heap.objs.size + 1) s1.heap.objs.size its.toArray (Nat.succ_ne_self _) (Nat.ne_of_gt (Nat.lt_succ_of_lt ha)) (Nat.ne_of_lt ha), ⟨⟨.none, he⟩, ⟨_, hit, rfl, rfl⟩⟩, fun b hb => free hb, q⟩
section
variable {G : Gc} {X : Cx} {F F' F1 F2 : Addr → Prop} {H H' H1 H2 : Hp} {σ σ' : L2.St} {ρ ρ' ρ1 ρ2 : Sl} {fp fp' fp1 fp2 fr fr1 fr2 fr' fo : List Addr} {v v1 v2 : V} {r r1 r2 d : D} {p : Addr} {o : HO}
  {a b c e : Expr} {es : List Expr} {wa wb we wo wk : WE} {ta tb tc : WT} {rest : List Expr} {pos : Pos} {K : PySem.W.Frag} {ca : Str → Addr}
def enumD (ds : List D) : List D := ds.mapIdx fun i d => .tup [.int i, d]
theorem enumD_len (ds : List D) : (enumD ds).length = ds.length := by simp [enumD]
theorem enumD_at {ds : List D} {i : Nat} {d : D} (h : (enumD ds)[i]? = some d) : ∃ x, ds[i]? = some x ∧ d = .tup [.int i, x] := by
  unfold enumD at h
  rw [List.getElem?_mapIdx] at h
  obtain ⟨x, e, q⟩ := Option.map_eq_some_iff.mp h
  exact ⟨x, e, q.symm⟩
def wiEn (we : WE) : WI := fun ρ K => we ρ fun x ρ1 => ∃ d ds ρ2, fzR ρ1 x = some (d, ρ2) ∧ its d = some ds ∧ K (enumD ds) ρ2
theorem pair_new (ok : Ok G F H σ ρ fp) {T : Addr} {i : Nat} {x : V} {y : D} (hT : H T = none) (rx : Rp G.K G.ca F H x y []) : ∃ F', En G F H fp σ F' (upd H T (.tup [.int i, x])) ρ fp [] ∧ Rp G.K G.ca F' (upd H T (.tup [.int i, x])) (.ref T) (.tup [.int i, y]) [] :=
  ⟨F, En.tup ok hT, .tup (.of upd_same) (.cons (fp := []) (fq := []) (.int _) (.one (rx.new hT)))⟩
theorem it_en {a : Addr} {vs : List V} {ds : List D} (nf : ∀ a ∈ fp, ¬ F a) (e : H a = some (.lst vs)) (f : F a) (r : RpL G.K G.ca F H vs ds []) : ItOk G F H fp (Ite G.K a) (enumD ds) where
  go := fun i d F1 H1 σ1 ρ1 fp1 s ok hd => by
    have e1 := F_keep s nf f e
    obtain ⟨x, hx, rfl⟩ := enumD_at hd
    have r1 := r.step s nf fun _ z => nomatch z
    obtain ⟨w, ew, rw_⟩ := r1.at_ hx
    refine ⟨⟨vs, w, .of e1, ew⟩, fun y H2 ⟨T, z, e2, hT, e3, hz⟩ => ?_⟩
    subst e2 e3
    have : z = w := by have := hz vs (.of e1); rw [ew] at this; exact (Option.some.inj this).symm
    subst this
    exact pair_new ok hT rw_
  stop := fun F1 H1 σ1 ρ1 fp1 s ok => ⟨vs, .of (F_keep s nf f e), by rw [enumD_len, r.length]; exact Nat.le_refl _⟩
theorem it_enT {a : Addr} {vs : List V} {ds : List D} (nf : ∀ a ∈ fp, ¬ F a) (e : SqT G.K H a vs) (r : RpL G.K G.ca F H vs ds []) : ItOk G F H fp (IteT G.K a) (enumD ds) where
  go := fun i d F1 H1 σ1 ρ1 fp1 s ok hd => by
    have e1 : SqT G.K H1 a vs := sqT_keep (fun a o eo n => s.keep a o eo (.inr n)) e
    obtain ⟨x, hx, rfl⟩ := enumD_at hd
    have r1 := r.step s nf fun _ z => nomatch z
    obtain ⟨w, ew, rw_⟩ := r1.at_ hx
    refine ⟨⟨vs, w, e1, ew⟩, fun y H2 ⟨T, z, e2, hT, e3, hz⟩ => ?_⟩
    subst e2 e3
    have : z = w := by have := hz vs e1; rw [ew] at this; exact (Option.some.inj this).symm
    subst this
    exact pair_new ok hT rw_
  stop := fun F1 H1 σ1 ρ1 fp1 s ok => ⟨vs, sqT_keep (fun a o eo n => s.keep a o eo (.inr n)) e, by rw [enumD_len, r.length]⟩
theorem di_enum {p1 tpos : Pos} {elts : List Expr} {kk : Nat} (hK : X.K = G.K) (hg : Gl X "enumerate") (hm : X.mg "enumerate" = none) (he : PE X e (LE G we)) (h1 : starEach [e] X.env = (false, eval e X.env) :: starEach [] X.env := by rfl) (hs : starEach [e] X.env = [(false, eval e X.env)] := by rfl) : PI X (.Tuple elts kk tpos) (.Call (.Name "enumerate" p1) [e] [] pos) (LW G (wiEn we)) :=
  imI (pi_enumA hg hm (da_cons he da_nil h1) hs) fun σ H Q q => by
    obtain ⟨F, ρ, fp, Kd, ok, h, k⟩ := q
    refine ⟨F, ρ, fp, fun rs ρ1 => ∃ x d ds ρ2, rs = [x] ∧ fzR ρ1 x = some (d, ρ2) ∧ its d = some ds ∧ Kd (enumD ds) ρ2, ok, ?_, fun vs H1 F1 ρ1 fp1 rs fr en rr q => ?_⟩
    · have : ∀ (w : WE) {ρ : Sl} {Q Q' : D → Sl → Prop}, w ρ Q → (Q = Q') → w ρ Q' := fun w ρ Q Q' h e => e ▸ h
      refine this we h ?_
      funext x ρ1
      apply propext
      constructor
      · rintro ⟨d, ds, ρ2, e, e2, q⟩; exact ⟨x, d, ds, ρ2, rfl, e, e2, q⟩
      · rintro ⟨y, d, ds, ρ2, ey, e, e2, q⟩; cases ey; exact ⟨d, ds, ρ2, e, e2, q⟩
    · obtain ⟨x, d, ds, ρ2, rfl, e, e2, q⟩ := q
      obtain ⟨v, rfl, r1⟩ := rr.one
      rw [hK]
      obtain ⟨F2, fp2, s, rp⟩ := r1.share en.ok en.nd (en.hr ok) e
      have en := en.share s
      obtain ⟨a, vs, rfl, rl, sq⟩ := rp.its e2
      rcases sq with ⟨sq, b, rfl⟩ | ⟨sq, rfl⟩
      · have hf : F2 a := by
          cases rp with
          | lfz _ f _ => exact f
        exact ⟨a, rfl, .inl ⟨vs, .of sq, k _ H1 F2 ρ2 fp2 _ en (it_en en.ok.nf sq hf rl) q⟩⟩
      · exact ⟨a, rfl, .inr ⟨vs, sq, k _ H1 F2 ρ2 fp2 _ en (it_enT en.ok.nf sq rl) q⟩⟩

/-! ### isinstance, a class by its name -/
/-- its type's name; an own class is told apart by the Bool behind -/
def tyN : D → Option String
  | .non => some "NoneType"
  | .bl _ => some "bool"
  | .int _ => some "int"
  | .str _ => some "str"
  | .lst _ _ => some "list"
  | .lso _ => some "list"
  | .tup _ => some "tuple"
  | .tpo _ => some "tuple"
  | .dct _ _ _ => some "dict"
  | _ => none
theorem Rp.tyX {T : String} (h : Rp K ca F H v d fr) (e : tyN d = some T) : TyX K H v (.type T) := by
  cases h <;> (try (cases e; done))
  · cases e; exact .base .non
  · cases e; exact .base (.bl _)
  · cases e; exact .base (.int _)
  · cases e; exact .base (.str _)
  · rename_i s _; cases e
    rcases s with (s | ⟨o, s⟩) | ⟨o, i, n, s, c, _⟩
    · exact .base (.tup s)
    · exact .fTuple s
    · exact .kTuple s c
  · rename_i s _; cases e
    rcases s with (s | ⟨o, s⟩) | ⟨o, i, n, s, c, _⟩
    · exact .base (.tup s)
    · exact .fTuple s
    · exact .kTuple s c
  · rename_i s _ _; cases e; exact .base (.lst s)
  · rename_i s _ _; cases e; exact .base (.lst s)
  · rename_i s _ _; cases e; exact .base (.lst s)
  · rename_i s _ _ _; cases e
    rcases s with s | ⟨o, s⟩
    · exact .base (.dK s)
    · exact .fDict s
  · rename_i s _ _ _; cases e; exact .base (.dK s)
/-- isinstance(x, T), T built in -/
def wIsT (T : String) (we : WE) : WE := fun ρ Q => we ρ fun x ρ1 => ∃ d N b, pk ρ1 x = some d ∧ tyN d = some N ∧ kitB N T = some b ∧ Q (.bl b) ρ1
def bootT (x : Str) (T : String) : Bool := decide (bootBuiltins x = some (.type T))
theorem d_isT {T : String} {x : Str} {p1 p2 : Pos} (hK : X.K = G.K) (hg : Gl X "isinstance") (hm : X.mg "isinstance" = none) (hgT : Gl X x) (hmT : X.mg x = none) (hv : bootBuiltins x = some (.type T)) (he : PE X e (LE G we)) (hn : x ≠ "__name__" := by decide) (hd : (x == ("__debug__" : Str)) = false := by decide)
    (h1 : starEach [e, .Name x p2] X.env = (false, eval e X.env) :: starEach [.Name x p2] X.env := by rfl) (h2 : starEach [.Name x p2] X.env = (false, eval (.Name x p2) X.env) :: starEach [] X.env := by rfl) (hpl : (backTo pos (starEach [.Name x p2] X.env)).any (·.1) = false := by rfl) :
    PE X (.Call (.Name "isinstance" p1) [e, .Name x p2] [] pos) (LE G (wIsT T we)) :=
  imE (pe_callB (t := tCons (LE G we) (tCons (tC (.ty T)) tNil)) call_isi hg hm (by decide +kernel) (pa_cons he (pa_cons (pe_bltn (v := .ty T) hgT hmT hv rfl hn hd) pa_nil h2) h1) (by decide) (by decide) h1 hpl) fun σ H Q q => by
    obtain ⟨F, ρ, fp, Qd, ok, h, k⟩ := q
    refine ⟨F, ρ, fp, _, ok, h, fun v H1 F1 ρ1 fp1 x f1 en rr q => ?_⟩
    obtain ⟨d, N, b, e1, e2, e3, q⟩ := q
    obtain ⟨_, rp, _⟩ := rr.see en.ok e1
    exact ⟨v, .ty T, .type N, .type T, b, rfl, .ty T, hK ▸ rp.tyX e2, kit_ty e3, k _ H1 F1 ρ1 fp1 _ [] (en.drop (En.refl en.ok)) (.inl (.bl b)) q⟩
/-- isinstance(x, C), x an instance of the own class C itself -/
def wIsC (c : Str) (we : WE) : WE := fun ρ Q => we ρ fun x ρ1 => isIn ρ1 x c ∧ Q (.bl true) ρ1
theorem d_isC {c : Str} {p1 p2 : Pos} (ic : C8.InsC X.K (G.ca c)) (hmC : X.mg c = some (.ref (G.ca c))) (hg : Gl X "isinstance") (hm : X.mg "isinstance" = none) (he : PE X e (LE G we)) (hgC : Gl X c := by rfl) (hd : (c == ("__debug__" : Str)) = false := by decide)
    (h1 : starEach [e, .Name c p2] X.env = (false, eval e X.env) :: starEach [.Name c p2] X.env := by rfl) (h2 : starEach [.Name c p2] X.env = (false, eval (.Name c p2) X.env) :: starEach [] X.env := by rfl) (hpl : (backTo pos (starEach [.Name c p2] X.env)).any (·.1) = false := by rfl) :
    PE X (.Call (.Name "isinstance" p1) [e, .Name c p2] [] pos) (LE G (wIsC c we)) :=
  imE (pe_callB (t := tCons (LE G we) (tCons (tC (.ref (G.ca c))) tNil)) (C8.call_isC ic) hg hm (by decide +kernel) (pa_cons he (pa_cons (pe_glob (v := .ref (G.ca c)) hgC hmC rfl hd) pa_nil h2) h1) (by decide) (by decide) h1 hpl) fun σ H Q q => by
    obtain ⟨F, ρ, fp, Qd, ok, h, k⟩ := q
    refine ⟨F, ρ, fp, _, ok, h, fun v H1 F1 ρ1 fp1 x f1 en rr q => ?_⟩
    obtain ⟨a, dx, fs, rfl, ha⟩ := q.1.at_ en.ok rr
    exact ⟨a, dx, fs, rfl, ha, k _ H1 F1 ρ1 fp1 _ [] (en.drop (En.refl en.ok)) (.inl (.bl true)) q.2⟩
end
end M
/-! M19: repr of data, f-strings. -/
namespace M
open PySem PySem.Spec PyProof.Rows L2

mutual
theorem toP_nd : ∀ d : D, (toP d).hasDict = false
  | .tup xs => toPL_nd xs
  | .tpo xs => toPL_nd xs
  | .lst _ xs => toPL_nd xs
  | .lso xs => toPL_nd xs
  | .non => rfl
  | .bl _ => rfl
  | .int _ => rfl
  | .str _ => rfl
  | .dct _ _ _ => rfl
  | .dcu _ _ _ => rfl
  | .ins _ _ _ _ => rfl
  | .opq _ => rfl
  | .scr _ => rfl
  | .sl _ => rfl
theorem toPL_nd : ∀ xs : List D, PyData.hasDictAll (toPL xs) = false
  | [] => rfl
  | x :: xs => by
    show ((toP x).hasDict || PyData.hasDictAll (toPL xs)) = false
    rw [toP_nd x, toPL_nd xs]; rfl
end
section
variable {G : Gc} {X : Cx} {F F' F1 F2 : Addr → Prop} {H H' H1 H2 : Hp} {σ σ' : L2.St} {ρ ρ' ρ1 ρ2 : Sl} {fp fp' fp1 fp2 fr fr1 fr2 fr' fo : List Addr} {v v1 v2 : V} {r r1 r2 d : D} {p : Addr} {o : HO}
  {a b c e : Expr} {es : List Expr} {wa : WA} {wb we wo wk : WE} {ta tb tc : WT} {rest : List Expr} {pos : Pos} {K : PySem.W.Frag} {ca : Str → Addr}
def rRepr (K : PySem.W.Frag) : List V → Hp → VK → Prop := fun vs H Q => ∃ v d, vs = [v] ∧ Dp K H v d ∧ d.showable = true ∧ d.hasDict = false ∧ d.depth ≤ 100 ∧ d.shown.length ≤ sizeLine ∧ Q (.str d.shown) H
theorem call_reprD {k : Nat} (hr : RoomG k X.A) : CallR X (.builtin "repr") (rRepr X.K) := by
  intro pins s σ H xs us Q I rv h
  obtain ⟨v, d, rfl, hd, hs, hn, hdp, hz, q⟩ := h
  obtain ⟨u, rfl, ru⟩ := Vals.one rv
  have hu : X.A.units + (d.depth + 1) < cLine := by have := hr.rm.un; omega
  have byref : ∀ {a : Addr}, u = .ref a → wpAny (model X.prog X.w) X.A (call (.builtin "repr") [u]) (EP X pins σ Q) X.xe s := fun {a} e => by
    subst e
    obtain ⟨as, rd⟩ := Dp.reads I d v _ hd ru
    exact repr_of_reads' rd hs (PyData.noDict_hsm hn) hr.gd hu (fun _ _ e => e) (fun h' u tk hk => ⟨.str d.shown, H, I.kept (t' := tk) hk, ⟨u, rfl⟩, q⟩) hz
  cases hd with
  | non =>
    have : u = .none := ru
    subst this
    exact PySem.P.repr_of_none ⟨.str (PyData.shown .none), H, I.tok _, ⟨_, rfl⟩, q⟩
  | bl b =>
    have : u = .bool b := ru
    subst this
    exact PySem.P.repr_of_bool ⟨.str (PyData.shown (.bool b)), H, I.tok _, ⟨s.toks, by simp [PyData.shown]⟩, q⟩
  | int i =>
    obtain ⟨t, rfl⟩ := ru
    exact PySem.P.repr_of_int (by simpa [PyData.showable] using hs) ⟨.str (PyData.shown (.int i)), H, I.tok _, ⟨s.toks, by simp [PyData.shown]⟩, q⟩
  | str x =>
    obtain ⟨t, rfl⟩ := ru
    have hz' : (reprText x).length ≤ sizeLine := by simpa [PyData.shown] using hz
    exact PySem.P.repr_of_str ⟨.str (PyData.shown (.str x)), H, I.tok _, ⟨s.toks, by simp [PyData.shown]⟩, q⟩ hz'
  | lst _ _ => exact byref ru
  | tup _ _ => exact byref ru
def nRepr : ON := fun ρ rs K => ∃ r d, rs = [r] ∧ pk ρ r = some d ∧ dt d = true ∧ (toP d).showable = true ∧ (toP d).depth ≤ 100 ∧ (toP d).shown.length ≤ sizeLine ∧ K (.str (toP d).shown) ρ
theorem nRepr_ok : ONOk G (rRepr G.K) nRepr := fun F H σ ρ fp vs rs fr Kd Q ok rr nd h k => by
  obtain ⟨r, d, rfl, e, h1, h2, h3, h4, q⟩ := h
  obtain ⟨v, rfl, r1⟩ := rr.one
  exact ⟨v, toP d, rfl, r1.dp ok e h1, h2, toP_nd d, h3, h4, k _ H F ρ fp _ [] (En.stay ok) (.inl (.str _)) q⟩
theorem d_repr {k : Nat} {p1 : Pos} (hr : RoomG k X.A) (hK : X.K = G.K) (hg : Gl X "repr") (hm : X.mg "repr" = none) (ha : PA X (e :: es) (LA G wa)) (he : starEach (e :: es) X.env = (false, eval e X.env) :: starEach es X.env := by rfl) (hpl : (backTo pos (starEach es X.env)).any (·.1) = false := by rfl) :
    PE X (.Call (.Name "repr" p1) (e :: es) [] pos) (LE G (wCB nRepr wa)) := d_cb (call_reprD hr) (hK ▸ nRepr_ok) hg hm (by decide +kernel) ha (by decide) (by decide) he hpl

/-! ### f-strings -/
def wFmt (we : WE) : WE := fun ρ Q => we ρ fun x ρ1 => (∃ y, x = .str y ∧ y.length ≤ sizeLine ∧ Q (.str y) ρ1) ∨ ∃ i : Int, x = .int i ∧ i.natAbs.log2 < 1920 ∧ Q (.str (toString i)) ρ1
theorem d_fmt (he : PE X e (LE G we)) : PE X (.FormattedValue e (-1) none pos) (LE G (wFmt we)) := imE (pe_fmt he) fun σ H Q q => by
  obtain ⟨F, ρ, fp, Qd, ok, h, k⟩ := q
  refine ⟨F, ρ, fp, _, ok, h, fun v H1 F1 ρ1 fp1 x f1 en rr q => ?_⟩
  rcases q with ⟨y, rfl, hz, q⟩ | ⟨i, rfl, hz, q⟩
  · obtain ⟨rfl, rfl⟩ := rr.str
    exact .inl ⟨y, rfl, hz, k _ H1 F1 ρ1 fp1 _ [] en (.inl (.str y)) q⟩
  · obtain ⟨rfl, rfl⟩ := rr.int
    exact .inr ⟨i, rfl, hz, k _ H1 F1 ρ1 fp1 _ [] en (.inl (.str _)) q⟩
def wJs : List WE → Str → Sl → (Str → Sl → Prop) → Prop
  | [], acc, ρ, Q => Q acc ρ
  | w :: ws, acc, ρ, Q => w ρ fun x ρ1 => ∃ y, x = .str y ∧ (acc ++ y).length ≤ sizeLine ∧ wJs ws (acc ++ y) ρ1 Q
theorem js_of : ∀ {ws : List WE} {acc : Str} {F : Addr → Prop} {H : Hp} {ρ : Sl} {fp : List Addr} {Qd : Str → Sl → Prop} {Q : Str → Hp → Prop}, Ok G F H σ ρ fp → wJs ws acc ρ Qd → (∀ z H' F' ρ' fp', En G F H fp σ F' H' ρ' fp' [] → Qd z ρ' → Q z H') → tJs (ws.map (LE G)) acc σ H Q
  | [], acc, F, H, ρ, fp, Qd, Q, ok, h, k => k acc H F ρ fp (En.refl ok) h
  | w :: ws, acc, F, H, ρ, fp, Qd, Q, ok, h, k => ⟨F, ρ, fp, _, ok, h, fun v H1 F1 ρ1 fp1 x f1 en rr q => by
      obtain ⟨y, rfl, hz, q⟩ := q
      obtain ⟨rfl, rfl⟩ := rr.str
      exact ⟨y, rfl, hz, js_of en.ok q fun z H' F' ρ' fp' en' q' => k z H' F' ρ' fp' (en.trans0 en') q'⟩⟩
inductive DJ (X : Cx) (G : Gc) : List Expr → List WE → Prop where
  | nil : DJ X G [] []
  | cons {e : Expr} {w : WE} {es : List Expr} {ws : List WE} (h : PE X e (LE G w)) (r : DJ X G es ws) : DJ X G (e :: es) (w :: ws)
theorem DJ.pj {es : List Expr} {ws : List WE} (h : DJ X G es ws) : PJ X es (ws.map (LE G)) := by
  induction h with
  | nil => exact .nil
  | cons h _ ih => exact .cons h ih
def wFs (ws : List WE) : WE := fun ρ Q => wJs ws Str.empty ρ fun z ρ1 => Q (.str z) ρ1
theorem d_fs {e1 e2 : Expr} {ws : List WE} (h : DJ X G (e1 :: e2 :: rest) ws) : PE X (.JoinedStr (e1 :: e2 :: rest) pos) (LE G (wFs ws)) := imE (pe_joined h.pj) fun σ H Q q => by
  obtain ⟨F, ρ, fp, Qd, ok, h, k⟩ := q
  exact js_of ok h fun z H' F' ρ' fp' en q => k _ H' F' ρ' fp' _ [] en (.inl (.str z)) q
theorem d_fs1 (h : PE X e (LE G we)) : PE X (.JoinedStr [e] pos) (LE G we) := pe_joined1 h
end
end M
/-! M20: a dict walked: locked while the statement, the comprehension runs. -/
namespace M
open PySem PySem.Spec PyProof.Rows L2

def NoFz : HO → Prop
  | .frz _ _ => False
  | _ => True
section
variable {K : PySem.W.Frag} {ca : Str → Addr} {F F' : Addr → Prop} {H H' H1 : Hp} {q : Addr} {fp fp' : List Addr}
/-- H and H' are the same but at the dict q, which is locked in one of them -/
structure Lk (F : Addr → Prop) (H H' : Hp) (q : Addr) : Prop where
  ne : ∀ b, b ≠ q → H' b = H b
  sh : F q
  dk : ∃ u o, DK u ∧ NoFz u ∧ ((H q = some u ∧ H' q = some (.frz o u)) ∨ (H' q = some u ∧ H q = some (.frz o u)))
theorem Lk.rd (l : Lk F H H' q) {a : Addr} {u : HO} (n : NoFz u) (h : Rd H a u) : Rd H' a u := by
  by_cases e : a = q
  · subst e
    obtain ⟨u0, o, hd, hn, ⟨h1, h2⟩ | ⟨h1, h2⟩⟩ := l.dk
    · rcases h with h | ⟨o', h⟩
      · rw [h1] at h; cases h; exact .inr ⟨o, h2⟩
      · rw [h1] at h; cases h; exact hn.elim
    · rcases h with h | ⟨o', h⟩
      · rw [h2] at h; cases h; exact n.elim
      · rw [h2] at h; cases h; exact .inl h1
  · rcases h with h | ⟨o, h⟩
    · exact .inl (by rw [l.ne a e]; exact h)
    · exact .inr ⟨o, by rw [l.ne a e]; exact h⟩
/-- what is no dict and no locked dict stands -/
def NoDk : HO → Prop
  | .frz _ u => ¬ DK u
  | u => ¬ DK u
theorem Lk.st (l : Lk F H H' q) {a : Addr} {u : HO} (n : NoDk u) (h : H a = some u) : H' a = some u := by
  have e : a ≠ q := fun e => by
    subst e
    obtain ⟨u0, o, hd, hn, ⟨h1, h2⟩ | ⟨h1, h2⟩⟩ := l.dk
    · rw [h1] at h; cases h
      cases u <;> first | exact n hd | exact hd.elim
    · rw [h2] at h; cases h; exact n hd
  rw [l.ne a e]; exact h
theorem Lk.own (l : Lk F H H' q) {a : Addr} {u : HO} (n : ¬ F a) (h : H a = some u) : H' a = some u := by
  rw [l.ne a fun e => n (e ▸ l.sh)]; exact h
theorem Lk.sqT (l : Lk F H H' q) {a : Addr} {vs : List V} (h : SqT K H a vs) : SqT K H' a vs := h.imp (l.rd trivial) id
mutual
theorem Rp.lk (l : Lk F H H' q) : ∀ {d : D} {v : V} {fr : List Addr}, Rp K ca F H v d fr → Rp K ca F H' v d fr
  | .non, _, _, .non => .non
  | .bl _, _, _, .bl _ => .bl _
  | .int _, _, _, .int _ => .int _
  | .str _, _, _, .str _ => .str _
  | .opq _, _, _, .opq _ => .opq _
  | .scr _, _, _, .scr e => .scr (e.imp (fun ⟨o, e⟩ => ⟨o, l.st (fun z => z) e⟩) id)
  | .tup ds, _, _, .tup e r => .tup (l.sqT e) (RpL.lk l r)
  | .tpo ds, _, _, .tpo e r => .tpo (l.sqT e) (RpL.lk l r)
  | .lso ds, _, _, .lso e n r => .lso (l.own n e) n (RpL.lk l r)
  | .lst false ds, _, _, .lfz e f r => .lfz (l.st (fun z => z) e) f (RpL.lk l r)
  | .lst true ds, _, _, .low e n r => .low (l.own n e) n (RpL.lk l r)
  | .dct false ks ds, _, _, .dfz e f h r => .dfz (l.rd trivial e) f h (RpL.lk l r)
  | .dct true ks ds, _, _, .dow e n h r => .dow (l.own n e) n h (RpL.lk l r)
  | .dcu false ks ds, _, _, .ufz e f h r => .ufz (l.rd trivial e) f h (RpL.lk l r)
  | .dcu true ks ds, _, _, .uow e n h r => .uow (l.own n e) n h (RpL.lk l r)
  | .ins false c fs ds, _, _, .ifz e f h r => .ifz (l.st (fun z => z) e) f h (RpL.lk l r)
  | .ins true c fs ds, _, _, .iow e n h r => .iow (l.own n e) n h (RpL.lk l r)
theorem RpL.lk (l : Lk F H H' q) : ∀ {ds : List D} {vs : List V} {fr : List Addr}, RpL K ca F H vs ds fr → RpL K ca F H' vs ds fr
  | [], _, _, .nil => .nil
  | _ :: _, _, _, .cons r t => .cons (Rp.lk l r) (RpL.lk l t)
end
theorem RpS.lk {σ : L2.St} {ρ : Sl} (l : Lk F H H' q) (h : RpS K ca F H σ ρ fp) : RpS K ca F H' σ ρ fp := by
  induction h with
  | nil => exact .nil
  | no _ ih => exact .no ih
  | has r _ ih => exact .has (r.lk l) ih
end

section
variable {G : Gc} {X : Cx} {F F' F1 F2 : Addr → Prop} {H H' H1 H2 : Hp} {σ σ' : L2.St} {ρ ρ' ρ1 ρ2 : Sl} {fp fp' fp1 fp2 fr fr1 fr2 fr' fo : List Addr} {v v1 v2 : V} {r r1 r2 d : D} {q : Addr} {o : HO}
  {a b c e : Expr} {es : List Expr} {wa : WA} {wb we wo wk : WE} {ta tb tc : WT} {rest : List Expr} {pos : Pos} {K : PySem.W.Frag} {ca : Str → Addr}
/-- a step of the locked heap is one of the open heap -/
theorem Step.unlock {u : HO} {od : Obj} (s : Step F (upd H q (.frz od u)) fp F' H' fp') (e : H q = some u) (nq : q ∉ fp) : Step F H fp F' (upd H' q u) fp' ∧ H' q = some (.frz od u) := by
  have e1 : H' q = some (.frz od u) := s.keep q _ upd_same (.inr fun z => z)
  refine ⟨⟨s.mono, fun a z => (s.new a z).imp id (Or.imp id fun n => ?_), fun a o' eo c => ?_, fun a o' eo => ?_, fun a z => (s.fps a z).imp id fun n => ?_⟩, e1⟩
  · by_cases ha : a = q
    · rw [ha, upd_same] at n; cases n
    · rw [upd_ne ha] at n; exact n
  · by_cases ha : a = q
    · rw [ha] at eo ⊢; rw [e] at eo; cases eo; exact upd_same
    · rw [upd_ne ha]; exact s.keep a o' (by rw [upd_ne ha]; exact eo) c
  · by_cases ha : a = q
    · exact ⟨u, by rw [ha]; exact upd_same⟩
    · obtain ⟨o2, e2⟩ := s.there a o' (by rw [upd_ne ha]; exact eo)
      exact ⟨o2, by rw [upd_ne ha]; exact e2⟩
  · by_cases ha : a = q
    · rw [ha, upd_same] at n; cases n
    · rw [upd_ne ha] at n; exact n
/-- the slot i's dict is locked from where G began -/
def LkAt (G : Gc) (i : Nat) : Prop := ∃ d o kvs, (i, V.ref d) ∈ G.pm ∧ G.H0 d = some (.frz o (.dK kvs))
abbrev Gin (G : Gc) (pm : List (Nat × V)) (F0 : Addr → Prop) (H0 : Hp) (fp0 : List Addr) : Gc := ⟨G.K, G.ca, pm, F0, H0, fp0⟩
def wLockS (i : Nat) (w : WS) : WS := fun Dd ρ => ∃ o ks xs, ρ[i]? = some (some (.dct o ks xs)) ∧ w Dd (ρ.set i (some (.dct false ks xs)))
def wLockE (i : Nat) (w : WE) : WE := fun ρ Q => ∃ o ks xs, ρ[i]? = some (some (.dct o ks xs)) ∧ w (ρ.set i (some (.dct false ks xs))) Q
/-- the slot's dict shared: its address, what stands there -/
theorem lock_open {i : Nat} {o : Bool} {ks : List Key} {xs : List D} (ok : Ok G F H σ ρ fp) (e : ρ[i]? = some (some (.dct o ks xs))) : ∃ q us F1 fp1, Step F H fp F1 H fp1 ∧ Ok G F1 H σ (ρ.set i (some (.dct false ks xs))) fp1 ∧ σ[i]? = some (some (.ref q)) ∧ F1 q ∧ Rd H q (.dK (ks.zip us)) := by
  obtain ⟨l, fs, r, e1, g1, _, _, _⟩ := ok.rs.at_ (i := i) (by rw [List.getElem?_eq_some_iff] at e; exact e.1)
  obtain ⟨v, ev, _⟩ := g1 _ e
  have rr : Rr G F H σ v (.sl i) [] := .inr ⟨i, rfl, ev, rfl⟩
  have ef : fzR ρ (.sl i) = some (.dct false ks xs, ρ.set i (some (.dct false ks xs))) := by
    show (match ρ[i]? with
      | some (some d) => some (fz d, ρ.set i (some (fz d)))
      | _ => none) = _
    rw [e]; rfl
  obtain ⟨F1, fp1, s, rp⟩ := rr.share ok (by simpa using ok.nd) (fun a z => nomatch z) ef
  cases rp with
  | @dfz q _ us _ hd f l r => exact ⟨q, us, F1, fp1, by simpa using s.step, s.ok, ev, f, hd⟩
/-- locked: the state for the inner reading -/
theorem lock_ok {i : Nat} {us : List V} {ks : List Key} {od : Obj} {pm : List (Nat × V)} (ok : Ok G F H σ ρ fp) (es : σ[i]? = some (some (.ref q))) (f : F q) (e : H q = some (.dK (ks.zip us))) (hpm : pm = (i, V.ref q) :: G.pm) :
    Ok (Gin G pm F (upd H q (.frz od (.dK (ks.zip us)))) fp) F (upd H q (.frz od (.dK (ks.zip us)))) σ ρ fp := by
  subst hpm
  have l : Lk F H (upd H q (.frz od (.dK (ks.zip us)))) q := ⟨fun b hb => upd_ne hb, f, .dK (ks.zip us), od, trivial, trivial, .inl ⟨e, upd_same⟩⟩
  refine ⟨ok.rs.lk l, ok.nd, fun a z => ?_, fun p hp => ?_, .refl⟩
  · by_cases ha : a = q
    · exact ⟨_, by rw [ha]; exact upd_same⟩
    · obtain ⟨o, eo⟩ := ok.dom a z
      exact ⟨o, by rw [upd_ne ha]; exact eo⟩
  · rcases List.mem_cons.mp hp with z | z
    · rw [z]; exact es
    · exact ok.pm p z
/-- .. and back -/
theorem unlock_ok {us : List V} {ks : List Key} {od : Obj} {pm : List (Nat × V)} {F0 : Addr → Prop} {H0 : Hp} {fp0 : List Addr} {i : Nat} (rch : Step G.F0 G.H0 G.fp0 F H fp) (f : F q) (e : H q = some (.dK (ks.zip us))) (nq : q ∉ fp) (hpm : pm = (i, V.ref q) :: G.pm) (s : Step F (upd H q (.frz od (.dK (ks.zip us)))) fp F' H' fp2) (hle : ∀ a ∈ fp', a ∈ fp2) (ok' : Ok (Gin G pm F0 H0 fp0) F' H' σ' ρ' fp') :
    Step F H fp F' (upd H' q (.dK (ks.zip us))) fp2 ∧ Ok G F' (upd H' q (.dK (ks.zip us))) σ' ρ' fp' ∧ H' q = some (.frz od (.dK (ks.zip us))) ∧ Lk F' H' (upd H' q (.dK (ks.zip us))) q := by
  subst hpm
  obtain ⟨s2, e1⟩ := s.unlock e nq
  have l : Lk F' H' (upd H' q (.dK (ks.zip us))) q := ⟨fun b hb => upd_ne hb, s.mono q f, .dK (ks.zip us), od, trivial, trivial, .inr ⟨upd_same, e1⟩⟩
  refine ⟨s2, ⟨ok'.rs.lk l, ok'.nd, fun a z => ?_, fun p hp => ok'.pm p (List.mem_cons_of_mem _ hp), rch.trans (s2.less hle)⟩, e1, l⟩
  by_cases ha : a = q
  · exact ⟨_, by rw [ha]; exact upd_same⟩
  · obtain ⟨o, eo⟩ := ok'.dom a z
    exact ⟨o, by rw [upd_ne ha]; exact eo⟩
theorem ds_lock {i : Nat} {st : Stmt} {w : WS} {own : List Nat} (hpm : G.pm.map (·.1) = own) (hin : ∀ pm F0 H0 fp0, pm.map (·.1) = i :: own → LkAt (Gin G pm F0 H0 fp0) i → PS X st (LS (Gin G pm F0 H0 fp0) w)) : PS X st (LS G (wLockS i w)) := by
  let t : TS := fun D σ H => ∃ pm F0 H0 fp0, pm.map (·.1) = i :: own ∧ LkAt (Gin G pm F0 H0 fp0) i ∧ LS (Gin G pm F0 H0 fp0) w D σ H
  have ht : PS X st t := ⟨fun pins s σ H D I ⟨pm, F0, H0, fp0, h1, h2, h⟩ => (hin pm F0 H0 fp0 h1 h2).run pins s σ H D I h⟩
  refine ⟨fun pins s σ H D I hw => ?_⟩
  obtain ⟨F, ρ, fp, Dd, ok, ⟨o, ks, xs, e, h⟩, k⟩ := hw
  obtain ⟨q, us, F1, fp1, s1, ok1, es, f, hd⟩ := lock_open ok e
  have pmE : ((i, V.ref q) :: G.pm).map (·.1) = i :: own := by rw [List.map_cons, hpm]
  rcases hd with hd | ⟨od, hd⟩
  · refine (ps_lock ht).run pins s σ H D I ⟨q, _, hd, trivial, fun od => ⟨(i, V.ref q) :: G.pm, F1, _, fp1, pmE, ⟨q, od, _, List.mem_cons_self, upd_same⟩, F1, _, fp1, Dd, lock_ok ok1 es f hd rfl, h, ?_⟩⟩
    have nq : q ∉ fp1 := fun z => ok1.nf q z f
    refine ⟨fun σ' H' F' ρ' fp' s ok' q' => ?_, fun v σ' H' F' ρ' fp' r fr s ok' nd rr q' => ?_, fun σ' H' F' ρ' fp' s ok' q' => ?_, fun σ' H' F' ρ' fp' s ok' q' => ?_⟩
    · obtain ⟨z1, z2, z3, _⟩ := unlock_ok ok1.rch f hd nq rfl s (fun _ z => z) ok'
      exact ⟨z3, k.nx _ _ _ _ _ (s1.trans z1) z2 q'⟩
    · obtain ⟨z1, z2, z3, l⟩ := unlock_ok ok1.rch f hd nq rfl s (fun a z => List.mem_append_right _ z) ok'
      exact ⟨z3, k.rt v σ' _ _ _ _ r fr (s1.trans z1) z2 nd (rr.imp (fun r => r.lk l) id) q'⟩
    · obtain ⟨z1, z2, z3, _⟩ := unlock_ok ok1.rch f hd nq rfl s (fun _ z => z) ok'
      exact ⟨z3, k.bk _ _ _ _ _ (s1.trans z1) z2 q'⟩
    · obtain ⟨z1, z2, z3, _⟩ := unlock_ok ok1.rch f hd nq rfl s (fun _ z => z) ok'
      exact ⟨z3, k.ct _ _ _ _ _ (s1.trans z1) z2 q'⟩
  · refine ht.run pins s σ H D I ⟨(i, V.ref q) :: G.pm, F1, H, fp1, pmE, ⟨q, od, _, List.mem_cons_self, hd⟩, F1, _, fp1, Dd, ⟨ok1.rs, ok1.nd, ok1.dom, fun p hp => ?_, .refl⟩, h, ?_⟩
    · rcases List.mem_cons.mp hp with z | z
      · rw [z]; exact es
      · exact ok1.pm p z
    · have back : ∀ {F' H' σ' ρ' fp' fp2}, Step F1 H fp1 F' H' fp2 → (∀ a ∈ fp', a ∈ fp2) → Ok (Gin G ((i, V.ref q) :: G.pm) F1 H fp1) F' H' σ' ρ' fp' → Ok G F' H' σ' ρ' fp' := fun {F' H' σ' ρ' fp' fp2} s hle ok' => ⟨ok'.rs, ok'.nd, ok'.dom, fun p hp => ok'.pm p (List.mem_cons_of_mem _ hp), ok1.rch.trans (s.less hle)⟩
      exact ⟨fun σ' H' F' ρ' fp' s ok' q' => k.nx _ _ _ _ _ (s1.trans s) (back s (fun _ z => z) ok') q', fun v σ' H' F' ρ' fp' r fr s ok' nd rr q' => k.rt v σ' _ _ _ _ r fr (s1.trans s) (back s (fun a z => List.mem_append_right _ z) ok') nd rr q', fun σ' H' F' ρ' fp' s ok' q' => k.bk _ _ _ _ _ (s1.trans s) (back s (fun _ z => z) ok') q', fun σ' H' F' ρ' fp' s ok' q' => k.ct _ _ _ _ _ (s1.trans s) (back s (fun _ z => z) ok') q'⟩
theorem d_lock {i : Nat} {w : WE} {own : List Nat} (hpm : G.pm.map (·.1) = own) (hin : ∀ pm F0 H0 fp0, pm.map (·.1) = i :: own → LkAt (Gin G pm F0 H0 fp0) i → PE X e (LE (Gin G pm F0 H0 fp0) w)) : PE X e (LE G (wLockE i w)) := by
  let t : TE := fun σ H Q => ∃ pm F0 H0 fp0, pm.map (·.1) = i :: own ∧ LkAt (Gin G pm F0 H0 fp0) i ∧ LE (Gin G pm F0 H0 fp0) w σ H Q
  have ht : PE X e t := ⟨fun pins s σ H Q I ⟨pm, F0, H0, fp0, h1, h2, h⟩ => (hin pm F0 H0 fp0 h1 h2).run pins s σ H Q I h⟩
  refine ⟨fun pins s σ H Q I hw => ?_⟩
  obtain ⟨F, ρ, fp, Qd, ok, ⟨o, ks, xs, e, h⟩, k⟩ := hw
  obtain ⟨q, us, F1, fp1, s1, ok1, es, f, hd⟩ := lock_open ok e
  have pmE : ((i, V.ref q) :: G.pm).map (·.1) = i :: own := by rw [List.map_cons, hpm]
  rcases hd with hd | ⟨od, hd⟩
  · refine (pe_lock ht).run pins s σ H Q I ⟨q, _, hd, trivial, fun od => ⟨(i, V.ref q) :: G.pm, F1, _, fp1, pmE, ⟨q, od, _, List.mem_cons_self, upd_same⟩, F1, _, fp1, Qd, lock_ok ok1 es f hd rfl, h, fun v H' F' ρ' fp' r fr en rr q' => ?_⟩⟩
    have nq : q ∉ fp1 := fun z => ok1.nf q z f
    obtain ⟨z1, z2, z3, l⟩ := unlock_ok ok1.rch f hd nq rfl en.st (fun a z => List.mem_append_right _ z) en.ok
    exact ⟨z3, k v _ _ _ _ r fr ⟨s1.trans z1, z2, en.nd⟩ (rr.imp (fun r => r.lk l) id) q'⟩
  · refine ht.run pins s σ H Q I ⟨(i, V.ref q) :: G.pm, F1, H, fp1, pmE, ⟨q, od, _, List.mem_cons_self, hd⟩, F1, _, fp1, Qd, ⟨ok1.rs, ok1.nd, ok1.dom, fun p hp => ?_, .refl⟩, h, fun v H' F' ρ' fp' r fr en rr q' => ?_⟩
    · rcases List.mem_cons.mp hp with z | z
      · rw [z]; exact es
      · exact ok1.pm p z
    · exact k v _ _ _ _ r fr ⟨s1.trans en.st, ⟨en.ok.rs, en.ok.nd, en.ok.dom, fun p hp => en.ok.pm p (List.mem_cons_of_mem _ hp), ok1.rch.trans (en.st.less fun a z => List.mem_append_right _ z)⟩, en.nd⟩ rr q'
/-- for k in d -/
def wiDk (i : Nat) : WI := fun ρ K => ∃ ks xs, ρ[i]? = some (some (.dct false ks xs)) ∧ K (ks.map keyD) ρ
theorem it_dk {d : Addr} {o : Obj} {ks : List Key} {us : List V} (e : H d = some (.frz o (.dK (ks.zip us)))) (l : ks.length = us.length) : ItOk G F H fp (Itk d o (ks.zip us)) (ks.map keyD) where
  go := fun i x F1 H1 σ1 ρ1 fp1 s ok hx => by
    have e1 : H1 d = some (.frz o (.dK (ks.zip us))) := s.keep d _ e (.inr fun z => z)
    rw [List.getElem?_map] at hx
    obtain ⟨k, ek, rfl⟩ := Option.map_eq_some_iff.mp hx
    have hi : i < ks.length := (List.getElem?_eq_some_iff.mp ek).1
    refine ⟨⟨e1, by rw [List.length_zip]; omega⟩, fun y H2 ⟨e2, k', v, e3, e4⟩ => ?_⟩
    subst e2 e4
    have : k' = k := by
      rw [List.getElem?_zip_eq_some] at e3
      have := e3.1
      rw [ek] at this; exact (Option.some.inj this).symm
    subst this
    exact ⟨F1, En.refl ok, by cases k' <;> first | exact .int _ | exact .str _⟩
  stop := fun F1 H1 σ1 ρ1 fp1 s ok => ⟨s.keep d _ e (.inr fun z => z), by rw [List.length_map, List.length_zip]; omega⟩
theorem di_dk {tg : Expr} {i : Nat} (hl : LkAt G i) (he : PE X e (tVar i)) : PI X tg e (LW G (wiDk i)) := imI (pi_keys he) fun σ H R q => by
  obtain ⟨F, ρ, fp, Kd, ok, ⟨ks, xs, e, q⟩, k⟩ := q
  obtain ⟨d, o, kvs, hp, h0⟩ := hl
  have e1 : H d = some (.frz o (.dK kvs)) := ok.rch.keep d _ h0 (.inr fun z => z)
  have es := ok.pm _ hp
  obtain ⟨l, fs, r, _, g1, _, _, _⟩ := ok.rs.at_ (i := i) (by rw [List.getElem?_eq_some_iff] at e; exact e.1)
  obtain ⟨v, ev, rp⟩ := g1 _ e
  have : v = .ref d := by
    have z : σ[i]? = some (some (.ref d)) := es
    rw [z] at ev; exact (Option.some.inj (Option.some.inj ev)).symm
  subst this
  cases rp with
  | @dfz _ _ us _ hd f ll rl =>
    have e2 : kvs = ks.zip us := by
      rcases hd with hd | ⟨o', hd⟩
      · rw [e1] at hd; cases hd
      · rw [e1] at hd; cases hd; rfl
    subst e2
    exact ⟨.ref d, es, d, o, rfl, .inl ⟨_, e1, k _ H F ρ fp _ (En.refl ok) (it_dk e1 ll) q⟩⟩
end
end M
/-! M21: slots that do not matter any more are emptied. -/
namespace M
open PySem PySem.Spec PyProof.Rows L2

section
variable {X : Cx} {G : Gc} {u : WS} {st : Stmt} {sts : List Stmt} {vs : List Nat}
/-- behind w the slots vs are empty -/
def wFg (vs : List Nat) (w : WS) : WS := fun Dd ρ => w ⟨fun ρ => Dd.nx (wip ρ vs), Dd.rt, fun ρ => Dd.bk (wip ρ vs), fun ρ => Dd.ct (wip ρ vs)⟩ ρ
/-- ahead of w the slots vs are emptied -/
def wFg0 (vs : List Nat) (w : WS) : WS := fun Dd ρ => w Dd (wip ρ vs)
theorem ls_fg : ∀ D σ H, LS G (wFg vs u) D σ H → LS G u D σ H := fun D σ H q => by
  obtain ⟨F, ρ, fp, Dd, ok, h, k⟩ := q
  refine ⟨F, ρ, fp, _, ok, h, ⟨fun σ' H' F' ρ' fp' s ok' q => ?_, k.rt, fun σ' H' F' ρ' fp' s ok' q => ?_, fun σ' H' F' ρ' fp' s ok' q => ?_⟩⟩
  · obtain ⟨fp2, ok2, sub⟩ := ok'.wip vs
    exact k.nx σ' H' F' _ fp2 (s.less sub) ok2 q
  · obtain ⟨fp2, ok2, sub⟩ := ok'.wip vs
    exact k.bk σ' H' F' _ fp2 (s.less sub) ok2 q
  · obtain ⟨fp2, ok2, sub⟩ := ok'.wip vs
    exact k.ct σ' H' F' _ fp2 (s.less sub) ok2 q
theorem ls_fg0 : ∀ D σ H, LS G (wFg0 vs u) D σ H → LS G u D σ H := fun D σ H q => by
  obtain ⟨F, ρ, fp, Dd, ok, h, k⟩ := q
  obtain ⟨fp2, ok2, sub⟩ := ok.wip vs
  exact ⟨F, _, fp2, Dd, ok2, h, ⟨fun σ' H' F' ρ' fp' s ok' q => k.nx σ' H' F' ρ' fp' (s.more sub) ok' q, fun v σ' H' F' ρ' fp' r fr s => k.rt v σ' H' F' ρ' fp' r fr (s.more sub), fun σ' H' F' ρ' fp' s ok' q => k.bk σ' H' F' ρ' fp' (s.more sub) ok' q, fun σ' H' F' ρ' fp' s ok' q => k.ct σ' H' F' ρ' fp' (s.more sub) ok' q⟩⟩
theorem dss_fg (h : PSs X sts (LS G u)) : PSs X sts (LS G (wFg vs u)) := imSs h ls_fg
theorem ds_fg (h : PS X st (LS G u)) : PS X st (LS G (wFg vs u)) := imS h ls_fg
theorem ds_fg0 (h : PS X st (LS G u)) : PS X st (LS G (wFg0 vs u)) := imS h ls_fg0
end
end M
/-! M22: data in a tuple of data. -/
namespace L2
open PySem PySem.Spec PyProof.Rows
section
variable {X : Cx}
def rInT (K : PySem.W.Frag) : R2 := fun x y H Q => ∃ d ds, Dp K H x d ∧ Dp K H y (.tuple ds) ∧ SeqAt.shaped d = true ∧ SeqAt.shaped (.tuple ds) = true ∧ Q (.bl (ds.any fun z => PyData.eqv z d)) H
def rNotInT (K : PySem.W.Frag) : R2 := fun x y H Q => ∃ d ds, Dp K H x d ∧ Dp K H y (.tuple ds) ∧ SeqAt.shaped d = true ∧ SeqAt.shaped (.tuple ds) = true ∧ Q (.bl (!ds.any fun z => PyData.eqv z d)) H
theorem op_inT (hu : X.A.units + 65 < cLine) : OpR X (compareOp .In) (rInT X.K) := by
  intro pins s σ H x y v u Q I rx ry h
  obtain ⟨d, ds, hd, he, sd, se, q⟩ := h
  obtain ⟨as, r1⟩ := Dp.reads I d x v hd rx
  obtain ⟨bs, r2⟩ := Dp.reads I (.tuple ds) y u he ry
  exact SeqAt.in_tuple_reads r2 r1 (SeqAt.canLay_of_shaped se) (SeqAt.canLay_of_shaped sd) (room_in_shaped sd hu) ⟨.bl _, H, I, rfl, q⟩
theorem op_notInT (hu : X.A.units + 65 < cLine) : OpR X (compareOp .NotIn) (rNotInT X.K) := by
  intro pins s σ H x y v u Q I rx ry h
  obtain ⟨d, ds, hd, he, sd, se, q⟩ := h
  obtain ⟨as, r1⟩ := Dp.reads I d x v hd rx
  obtain ⟨bs, r2⟩ := Dp.reads I (.tuple ds) y u he ry
  exact SeqAt.notIn_tuple_reads r2 r1 (SeqAt.canLay_of_shaped se) (SeqAt.canLay_of_shaped sd) (room_in_shaped sd hu) ⟨.bl _, H, I, rfl, q⟩
end
end L2
namespace M
open PySem PySem.Spec PyProof.Rows L2
section
variable {G : Gc} {X : Cx}
def oInT (g : Bool → Bool) : O2 := fun ρ x y K => ∃ d ds, pk ρ x = some d ∧ pk ρ y = some (.tup ds) ∧ shp d = true ∧ shp (.tup ds) = true ∧ K (.bl (g (ds.any fun z => eqD z d)))
theorem oInT_in : O2Ok G (rInT G.K) (oInT id) := fun F H σ ρ fp v1 v2 x y f1 f2 Kd Q ok r1 r2 nd h k => by
  obtain ⟨d, ds, e1, e2, s1, s2, q⟩ := h
  have t1 := Bool.and_eq_true_iff.mp s1
  have t2 := Bool.and_eq_true_iff.mp s2
  refine ⟨toP d, toPL ds, r1.dp ok e1 t1.1, r2.dp ok e2 t2.1, t1.2, t2.2, ?_⟩
  rw [toPL_any]
  exact k _ H F _ [] (En.refl ok) (.bl _) q
theorem oInT_not : O2Ok G (rNotInT G.K) (oInT not) := fun F H σ ρ fp v1 v2 x y f1 f2 Kd Q ok r1 r2 nd h k => by
  obtain ⟨d, ds, e1, e2, s1, s2, q⟩ := h
  have t1 := Bool.and_eq_true_iff.mp s1
  have t2 := Bool.and_eq_true_iff.mp s2
  refine ⟨toP d, toPL ds, r1.dp ok e1 t1.1, r2.dp ok e2 t2.1, t1.2, t2.2, ?_⟩
  rw [toPL_any]
  exact k _ H F _ [] (En.refl ok) (.bl _) q
def oInB : O2 := oOr oInA (oInT id)
def oNotInB : O2 := oOr oNotInA (oInT not)
theorem c_inB (hK : X.K = G.K) (hu : X.A.units + 65 < cLine) : CmpR X G .In oInB := let ⟨_, h1, h2⟩ := (c_inA (G := G) hK hu).ex; ⟨_, h1.or (op_inT hu), h2.or (hK ▸ oInT_in)⟩
theorem c_notInB (hK : X.K = G.K) (hu : X.A.units + 65 < cLine) : CmpR X G .NotIn oNotInB := let ⟨_, h1, h2⟩ := (c_notInA (G := G) hK hu).ex; ⟨_, h1.or (op_notInT hu), h2.or (hK ▸ oInT_not)⟩
end
end M
/-! ME: a law's end, its def promised where no repr is under way. -/
namespace M
open PySem PySem.Spec PyProof.Rows L2

section
variable {P : Program} {w : World} {K : PySem.W.Frag} {mg mb : Str → Option Value} {k : Nat} {fa a : Addr} {fd : FuncData} {x : Str} {sp : Sp} {s₁ : Shared} {vs : List Value} {ns : List Int}
/-- from an abstract heap H that holds the script at most -/
theorem end_core {H : Hp} (KX : K.In s₁.heap) (hns : s₁.heap.Ns mainGlobals mg) (hb : s₁.heap.Ns builtinsNs mb) (hbb : ∀ x : Str, x ≠ "__name__" → mb x = bootBuiltins x) (hlim : s₁.heap.NoLimit) (hg : s₁.gens = #[]) (ha : s₁.heap.get? a = some { cls := .type "list", data := .seq vs.toArray }) (hr : RoomG k callerA)
    (F : ∀ base : Heap, K.In base → base.Ns mainGlobals mg → FnG P w K mg base (L2.CX P w) k fa fd [x] sp) (hbind : BindsTo s₁ fd ⟨[.ref a], []⟩ [(x, .ref a)]) (hO : Only H) (hsp : sp [.ref a] H (fun v _ => v = .bl true) fun _ _ _ => False) (hok : HOk P w H s₁.heap) (hA : ∀ b u, H b = some u → b = a) (hK : ∀ u, H a = some u → K.lookup a = none) :
    codeAny (model P w) callerA (.call (.ref fa) ⟨[.ref a], []⟩) (fun r s' => r = .ok (.ret (.bool true)) ∧ OldK s₁.heap s'.heap ∧ s'.os = s₁.os ∧ AllBare s'.gens) s₁ := by
  -- what is no part of H stands in the base
  have stay : ∀ {b : Addr} {o : Obj}, s₁.heap.get? b = some o → (∀ u, H b ≠ some u) → (hidT s₁.heap H).get? b = some o := fun {b o} e n => hidT_get e (by
    cases q : H b with
    | none => rfl
    | some u => exact absurd q (n u))
  have dictStay : ∀ {b : Addr} {m : Str → Option Value}, s₁.heap.Ns b m → (hidT s₁.heap H).Ns b m := by
    rintro b m ⟨o, es, ep, e, d, r⟩
    refine ⟨o, es, ep, stay e fun u q => ?_, d, r⟩
    have hb := hA b u q
    subst hb
    rw [ha] at e
    cases e
    exact nomatch (show Data.seq vs.toArray _ = Data.dict es ep from d)
  have inB : K.In (hidT s₁.heap H) := fun b o e => stay (KX b o e) fun u q => by
    have hb := hA b u q
    subst hb
    rw [hK u q] at e
    cases e
  obtain ⟨mc, l1, l2⟩ := hlim
  have e0 : Env0 P w K mg (hidT s₁.heap H) callerA [] s₁ H :=
    ⟨rfl, ⟨inB, dictStay hns, ⟨mb, dictStay hb, hbb⟩, ⟨mc, dictStay l1, l2⟩⟩, fun b o e => of_hidT e, Nat.le_of_eq (hidT_size _ _), trivial, (fun b z => nomatch z), hok, .of_eq hg⟩
  refine codeAny_mono ((F _ inB (dictStay hns)).run callerA [] s₁ H ⟨[.ref a], []⟩ [.ref a] [.ref a] _ _ hr e0 hbind (.cons (show RelV (.ref a) (.ref a) from rfl) .nil) hsp) fun r s' h => ?_
  rcases cr_ends h with ⟨u, rfl, v, H', os, bare, un, hok', ru, q⟩ | ⟨er, rfl, z⟩
  · have q : v = .bl true := q
    subst q
    have ru : u = .bool true := ru
    subst ru
    refine ⟨rfl, OldK.of_keep fun b o e => ?_, os, bare⟩
    rcases hO b with z | ⟨ob, xs, z⟩
    · exact un.keep b o e z (fun y => nomatch y) (by simp)
    · obtain ⟨g1, _⟩ := hok b _ z
      obtain ⟨g2, _⟩ := hok' b _ (un.frzs b ob _ z)
      rw [e] at g1
      cases g1
      exact g2
  · obtain ⟨_, _, _, _, _, _, _, _, _, _, _, _, y⟩ := z
    exact y.elim
/-- the law's call from the script, for every abstract heap of this form -/
theorem law_callG (KX : K.In s₁.heap) (hns : s₁.heap.Ns mainGlobals mg) (hb : s₁.heap.Ns builtinsNs mb) (hbb : ∀ x : Str, x ≠ "__name__" → mb x = bootBuiltins x) (hlim : s₁.heap.NoLimit) (hg : s₁.gens = #[]) (ha : s₁.heap.get? a = some { cls := .type "list", data := .seq vs.toArray }) (hi : IntsAre vs ns) (hl : ns.length ≤ sizeLine) (hr : RoomG k callerA)
    (F : ∀ base : Heap, K.In base → base.Ns mainGlobals mg → FnG P w K mg base (L2.CX P w) k fa fd [x] sp) (hbind : ∀ (s : Shared) (u : Value), BindsTo s fd ⟨[u], []⟩ [(x, u)])
    (hsp : ∀ H : Hp, ((∃ o, H a = some (.frz o (.lst (ns.map V.int)))) ∨ SqL K (fun _ => none) a (ns.map V.int)) → sp [.ref a] H (fun v _ => v = .bl true) fun _ _ _ => False) :
    codeAny (model P w) callerA (.call (.ref fa) ⟨[.ref a], []⟩) (fun r s' => r = .ok (.ret (.bool true)) ∧ OldK s₁.heap s'.heap ∧ s'.os = s₁.os ∧ AllBare s'.gens) s₁ := by
  have rv := vals_ints hi
  cases hk : K.lookup a with
  | some o =>
    have e := KX a o hk
    rw [ha] at e
    cases e
    have hS : SqL K (fun _ => none) a (ns.map V.int) := .inr ⟨_, vs.toArray, _, hk, rfl, rfl, rfl, by rw [List.size_toArray, hi.length]; exact hl, by simpa using rv⟩
    exact end_core (H := fun _ => none) KX hns hb hbb hlim hg ha hr F (hbind _ _) (fun _ => .inl rfl) (hsp _ (.inr hS)) (fun b u z => nomatch (show (none : Option HO) = some u from z)) (fun b u z => nomatch (show (none : Option HO) = some u from z)) fun u z => nomatch (show (none : Option HO) = some u from z)
  | none =>
    let ob : Obj := { cls := .type "list", data := .seq vs.toArray }
    let H : Hp := upd (fun _ => none) a (.frz ob (.lst (ns.map V.int)))
    have hH : ∀ {b : Addr} {u : HO}, H b = some u → b = a ∧ u = .frz ob (.lst (ns.map V.int)) := fun {b u} z => by
      by_cases q : b = a
      · subst q
        rw [show H b = some (.frz ob (.lst (ns.map V.int))) from upd_same] at z
        exact ⟨rfl, (Option.some.inj z).symm⟩
      · rw [show H b = none from upd_ne q] at z
        cases z
    refine end_core (H := H) KX hns hb hbb hlim hg ha hr F (hbind _ _) (fun b => ?_) (hsp H (.inl ⟨ob, upd_same⟩)) (fun b u z => ?_) (fun b u z => (hH z).1) fun _ _ => hk
    · by_cases q : b = a
      · exact .inr ⟨ob, _, by rw [q]; exact upd_same⟩
      · exact .inl (upd_ne q)
    · obtain ⟨rfl, rfl⟩ := hH z
      exact ⟨ha, by rw [List.length_map]; exact hl, vs, _, rv, ha⟩
theorem guards_caller : callerA.guards = some [] := rfl
/-- the end of a law over a head by facts -/
theorem walk_ofG {l : PySem.W.OpenLaw} {n k : Nat} {q : Program} {loose : List Str} {XP : (Str → Option Value) → Heap → Prop} {YP : World → Heap → Prop} {d : DefRec} {x : Str}
    (hn : l.most = some n) (hn2 : n ≤ sizeLine) (hdf : d.params.defaults = []) (hr : Room k callerA)
    (F : ∀ (w : World) (mg : Str → Option Value) (fa : Addr) (h : Heap), YP w h → h.Ns mainGlobals mg → mg d.name = some (.ref fa) →
      ∃ (K : PySem.W.Frag) (fd : FuncData) (sp : Sp), K.In h ∧ (∀ (s : Shared) (u : Value), BindsTo s fd ⟨[u], []⟩ [(x, u)]) ∧
        (∀ (H : Hp) (a : Addr) (ns : List Int), ns.length ≤ n → ((∃ o, H a = some (.frz o (.lst (ns.map V.int)))) ∨ SqL K (fun _ => none) a (ns.map V.int)) → sp [.ref a] H (fun v _ => v = .bl true) fun _ _ _ => False) ∧
        ∀ base : Heap, K.In base → base.Ns mainGlobals mg → FnG l.prog w K mg base (L2.CX l.prog w) k fa fd [x] sp) :
    PySem.W.WalkO q loose XP YP l.row.toRowW d [] (fun f vs => PySem.call f vs) := by
  refine Att.attach_call hn hdf fun w s₀ s₁ mg mb fa o pm cd doc a vs ns G Y ho hd hcd hmg hobj hints hlen hg => ?_
  obtain ⟨K, fd, sp, KX, hb, hsp, hF⟩ := F w mg fa _ Y G.T.g hmg
  exact law_callG KX G.T.g G.T.b G.T.builtins G.T.nolimit hg hobj hints (Nat.le_trans hlen hn2) ⟨hr, guards_caller⟩ hF hb fun H hS => hsp H a ns hlen hS
end
end M
/-! MS: a def over data run step by step: one rule a leaf, by the values' forms. -/
namespace M
open PySem PySem.Spec PyProof.Rows L2

section
variable {ρ ρ1 ρ2 : Sl} {K : D → Prop} {Q : D → Sl → Prop} {x y d : D} {i j : Int} {a b : Str} {n : Nat}
theorem i_ret {own : List Nat} {Qd : D → List D → Prop} {r : D} {ρ' : Sl} {os : List D} (h1 : ret ρ r = some (d, ρ')) (h2 : outs ρ' own = some os) (q : Qd d os) : ∃ d ρ' os, ret ρ r = some (d, ρ') ∧ outs ρ' own = some os ∧ Qd d os := ⟨d, ρ', os, h1, h2, q⟩
theorem iteD {P : Prop} [Decidable P] {A B : Prop} (h1 : P → A) (h2 : ¬ P → B) : if decide P = true then A else B := by
  by_cases h : P
  · rw [decide_eq_true h]; exact h1 h
  · rw [decide_eq_false h]; exact h2 h
theorem iteN {P : Prop} [Decidable P] {A B : Prop} (h1 : ¬ P → A) (h2 : P → B) : if (!decide P) = true then A else B := by
  by_cases h : P
  · rw [decide_eq_true h]; exact h2 h
  · rw [decide_eq_false h]; exact h1 h
theorem ite_nt {P : Prop} [Decidable P] {A B : Prop} (h : ¬ P) (q : A) : if (!decide P) = true then A else B := by rw [decide_eq_false h]; exact q
theorem ite_nf {P : Prop} [Decidable P] {A B : Prop} (h : P) (q : B) : if (!decide P) = true then A else B := by rw [decide_eq_true h]; exact q
theorem ite_nn {c : Bool} {A B : Prop} (h : if c = true then A else B) : if (!(!c)) = true then A else B := by
  cases c <;> exact h
theorem ite_nT {A B : Prop} (h : B) : if (!true) = true then A else B := h
theorem ite_nF {A B : Prop} (h : A) : if (!false) = true then A else B := h
theorem ite_ct {c : Bool} {A B : Prop} (e : c = true) (h : A) : if c = true then A else B := by rw [e]; exact h
theorem ite_cf {c : Bool} {A B : Prop} (e : c = false) (h : B) : if c = true then A else B := by rw [e]; exact h
theorem ite_nct {c : Bool} {A B : Prop} (e : c = true) (h : B) : if (!c) = true then A else B := by rw [e]; exact h
theorem ite_ncf {c : Bool} {A B : Prop} (e : c = false) (h : A) : if (!c) = true then A else B := by rw [e]; exact h
theorem iteB {c : Bool} {A B : Prop} (h1 : c = true → A) (h2 : c = false → B) : if c = true then A else B := by
  cases c
  · exact h2 rfl
  · exact h1 rfl
theorem ite_t {A B : Prop} (h : A) : if true = true then A else B := h
theorem ite_f {A B : Prop} (h : B) : if false = true then A else B := h
theorem i_b {P : Bool → Prop} {c : Bool} (h : P c) : ∃ b, D.bl c = .bl b ∧ P b := ⟨c, rfl, h⟩
theorem if_ff {α : Type} {a b : α} : (if false = true then a else b) = b := rfl
theorem if_tt {α : Type} {a b : α} : (if true = true then a else b) = a := rfl
theorem rd_int {k : Nat} {i : Int} : rd k (.int i) = .int i := rfl
theorem rd_str {k : Nat} {i : Str} : rd k (.str i) = .str i := rfl
theorem rd_bl {k : Nat} {i : Bool} : rd k (.bl i) = .bl i := rfl
theorem rd_non {k : Nat} : rd k .non = .non := rfl
theorem rd_tup {k : Nat} {xs : List D} : rd k (.tup xs) = .tup xs := rfl
theorem rd_lf {k : Nat} {xs : List D} : rd k (.lst false xs) = .lst false xs := rfl
theorem rd_lt {k : Nat} {xs : List D} : rd k (.lst true xs) = .sl k := rfl
theorem rd_df {k : Nat} {ks : List Key} {xs : List D} : rd k (.dct false ks xs) = .dct false ks xs := rfl
theorem rd_dt {k : Nat} {ks : List Key} {xs : List D} : rd k (.dct true ks xs) = .sl k := rfl
theorem rd_if {k : Nat} {c : Str} {fs : List Str} {xs : List D} : rd k (.ins false c fs xs) = .ins false c fs xs := rfl
theorem rd_it {k : Nat} {c : Str} {fs : List Str} {xs : List D} : rd k (.ins true c fs xs) = .sl k := rfl
theorem rd_scr {k : Nat} {ns : List Int} : rd k (.scr ns) = .scr ns := rfl
theorem i_var {k : Nat} (h : ρ[k]? = some (some d)) (q : Q (rd k d) ρ) : wVar k ρ Q := ⟨d, h, q⟩
theorem i_addI (q : K (.int (i + j))) : oAdd ρ (.int i) (.int j) K := .inl ⟨i, j, rfl, rfl, trivial, q⟩
theorem i_addS (h : a.length + b.length ≤ 16000000) (q : K (.str (a ++ b))) : oAdd ρ (.str a) (.str b) K := .inr (.inl ⟨a, b, rfl, rfl, Nat.le_trans h (by decide), q⟩)
theorem i_addL {o p : Bool} {xs ys : List D} (h1 : pk ρ x = some (.lst o xs)) (h2 : pk ρ y = some (.lst p ys)) (h : xs.length + ys.length ≤ 16000000) (q : K (.lst true (xs ++ ys))) : oAdd ρ x y K := .inr (.inr (.inl ⟨o, p, xs, ys, h1, h2, Nat.le_trans h (by decide), q⟩))
theorem i_addT {xs ys : List D} (h : xs.length + ys.length ≤ 16000000) (q : K (.tup (xs ++ ys))) : oAdd ρ (.tup xs) (.tup ys) K := .inr (.inr (.inr ⟨xs, ys, rfl, rfl, Nat.le_trans h (by decide), q⟩))
theorem i_sub (q : K (.int (i - j))) : oSub ρ (.int i) (.int j) K := ⟨i, j, rfl, rfl, trivial, q⟩
theorem i_mulR (h : -(2 ^ 64) < j ∧ j < 2 ^ 64) (q : K (.int (i * j))) : oMul ρ (.int i) (.int j) K := ⟨i, j, rfl, rfl, .inr h, q⟩
theorem i_mulL (h : -(2 ^ 64) < i ∧ i < 2 ^ 64) (q : K (.int (i * j))) : oMul ρ (.int i) (.int j) K := ⟨i, j, rfl, rfl, .inl h, q⟩
theorem i_mod (h : 0 < j) (q : K (.int (i % j))) : oMod ρ (.int i) (.int j) K := ⟨i, j, rfl, rfl, h, q⟩
theorem i_fdiv (h : 0 < j ∧ j < 1073741824) (q : K (.int (i / j))) : oFdiv ρ (.int i) (.int j) K := ⟨i, j, rfl, rfl, h, q⟩
theorem i_lt (q : K (.bl (decide (i < j)))) : oLt ρ (.int i) (.int j) K := ⟨i, j, rfl, rfl, trivial, q⟩
theorem i_le (q : K (.bl (decide (i ≤ j)))) : oLe ρ (.int i) (.int j) K := ⟨i, j, rfl, rfl, trivial, q⟩
theorem i_gt (q : K (.bl (decide (j < i)))) : oGt ρ (.int i) (.int j) K := ⟨i, j, rfl, rfl, trivial, q⟩
theorem i_ge (q : K (.bl (decide (j ≤ i)))) : oGe ρ (.int i) (.int j) K := ⟨i, j, rfl, rfl, trivial, q⟩
theorem dec_int : decide (V.int i = V.int j) = decide (i = j) := by
  by_cases h : i = j
  · subst h; simp
  · rw [decide_eq_false h, decide_eq_false fun e => h (V.int.inj e)]
theorem dec_str : decide (V.str a = V.str b) = decide (a = b) := by
  by_cases h : a = b
  · subst h; simp
  · rw [decide_eq_false h, decide_eq_false fun e => h (V.str.inj e)]
theorem i_eqI (q : K (.bl (decide (i = j)))) : oEq ρ (.int i) (.int j) K := .inl ⟨_, _, rfl, rfl, rfl, by rw [dec_int]; exact q⟩
theorem i_neI (q : K (.bl (!decide (i = j)))) : oNe ρ (.int i) (.int j) K := .inl ⟨_, _, rfl, rfl, rfl, by rw [dec_int]; exact q⟩
theorem i_eqS (q : K (.bl (decide (a = b)))) : oEq ρ (.str a) (.str b) K := .inl ⟨_, _, rfl, rfl, rfl, by rw [dec_str]; exact q⟩
theorem i_neS (q : K (.bl (!decide (a = b)))) : oNe ρ (.str a) (.str b) K := .inl ⟨_, _, rfl, rfl, rfl, by rw [dec_str]; exact q⟩
theorem i_eqD {e : D} (h1 : pk ρ x = some d) (h2 : pk ρ y = some e) (s1 : shp d = true) (s2 : shp e = true) (q : K (.bl (eqD d e))) : oEq ρ x y K := .inr ⟨d, e, h1, h2, s1, s2, q⟩
theorem i_neD {e : D} (h1 : pk ρ x = some d) (h2 : pk ρ y = some e) (s1 : shp d = true) (s2 : shp e = true) (q : K (.bl (!eqD d e))) : oNe ρ x y K := .inr ⟨d, e, h1, h2, s1, s2, q⟩
theorem i_isN (h : pk ρ x = some d) (q : K (.bl (isN d))) : oIsN id ρ x .non K := ⟨rfl, d, h, q⟩
theorem i_notN (h : pk ρ x = some d) (q : K (.bl (!isN d))) : oIsN not ρ x .non K := ⟨rfl, d, h, q⟩
theorem i_ixL {ds : List D} {u : D} (h1 : pk ρ x = some d) (h2 : its d = some ds) (h3 : atI ds i = some u) (q : K u) : oIxA ρ x (.int i) K := .inl (.inl ⟨d, ds, i, u, h1, h2, rfl, h3, q⟩)
theorem i_ixN {ds : List D} {u : D} {k : Nat} (h1 : pk ρ x = some d) (h2 : its d = some ds) (h3 : ds[k]? = some u) (q : K u) : oIxA ρ x (.int (k : Nat)) K := i_ixL h1 h2 (atI_nat h3) q
theorem i_ixS {c : Nat} (h : a.length ≤ sizeLine) (h3 : atI a.cps.toList i = some c) (q : K (.str ⟨#[c]⟩)) : oIxA ρ (.str a) (.int i) K := .inl (.inr ⟨a, i, c, rfl, rfl, h, h3, q⟩)
theorem i_ixD {o : Bool} {ks : List Key} {xs : List D} {k : Key} {u : D} (h1 : pk ρ x = some (.dct o ks xs)) (h2 : keyOf y = some k) (h3 : valD ks xs k = some u) (q : K u) : oIxA ρ x y K := .inr ⟨o, ks, xs, k, u, h1, h2, h3, q⟩
theorem i_ixSc {ns : List Int} {u : Int} (h : atI ns i = some u) (q : K (.int u)) : oIxS ρ (.scr ns) (.int i) K := ⟨ns, i, u, rfl, rfl, h, q⟩
/-! ### in, over texts, over ints -/
theorem scL_str : ∀ l : List Str, scL (l.map D.str) = some (l.map V.str)
  | [] => rfl
  | x :: l => by
    show (match some (V.str x), scL (l.map D.str) with
      | some v, some vs => some (v :: vs)
      | _, _ => none) = _
    rw [scL_str l]; rfl
theorem scL_int : ∀ l : List Int, scL (l.map D.int) = some (l.map V.int)
  | [] => rfl
  | x :: l => by
    show (match some (V.int x), scL (l.map D.int) with
      | some v, some vs => some (v :: vs)
      | _, _ => none) = _
    rw [scL_int l]; rfl
theorem inV_str {x : Str} : ∀ l : List Str, inV (.str x) (l.map V.str) = decide (x ∈ l)
  | [] => rfl
  | y :: l => by
    show ((y == x) || inV (.str x) (l.map V.str)) = _
    rw [inV_str l]
    by_cases h : y = x
    · subst h; simp
    · have h2 : ¬ x = y := fun e => h e.symm
      rw [beq_eq_false_iff_ne.mpr h]
      simp [h2]
theorem inV_int {x : Int} : ∀ l : List Int, inV (.int x) (l.map V.int) = decide (x ∈ l)
  | [] => rfl
  | y :: l => by
    show ((y == x) || inV (.int x) (l.map V.int)) = _
    rw [inV_int l]
    by_cases h : y = x
    · subst h; simp
    · have h2 : ¬ x = y := fun e => h e.symm
      rw [beq_eq_false_iff_ne.mpr h]
      simp [h2]
theorem i_inS {l : List Str} (h1 : pk ρ y = some d) (h2 : its d = some (l.map D.str)) (q : K (.bl (decide (a ∈ l)))) : oInB ρ (.str a) y K := .inl (.inl (.inl ⟨.str a, d, _, _, rfl, h1, h2, scL_str l, by show K (.bl (inV (.str a) (l.map V.str))); rw [inV_str]; exact q⟩))
theorem i_notInS {l : List Str} (h1 : pk ρ y = some d) (h2 : its d = some (l.map D.str)) (q : K (.bl (!decide (a ∈ l)))) : oNotInB ρ (.str a) y K := .inl (.inl (.inl ⟨.str a, d, _, _, rfl, h1, h2, scL_str l, by show K (.bl (!inV (.str a) (l.map V.str))); rw [inV_str]; exact q⟩))
theorem i_inI {l : List Int} (h1 : pk ρ y = some d) (h2 : its d = some (l.map D.int)) (q : K (.bl (decide (i ∈ l)))) : oInB ρ (.int i) y K := .inl (.inl (.inl ⟨.int i, d, _, _, rfl, h1, h2, scL_int l, by show K (.bl (inV (.int i) (l.map V.int))); rw [inV_int]; exact q⟩))
theorem i_notInI {l : List Int} (h1 : pk ρ y = some d) (h2 : its d = some (l.map D.int)) (q : K (.bl (!decide (i ∈ l)))) : oNotInB ρ (.int i) y K := .inl (.inl (.inl ⟨.int i, d, _, _, rfl, h1, h2, scL_int l, by show K (.bl (!inV (.int i) (l.map V.int))); rw [inV_int]; exact q⟩))
theorem i_inD {o : Bool} {ds : List D} (h1 : pk ρ x = some d) (h2 : pk ρ y = some (.lst o ds)) (s1 : shp d = true) (s2 : shp (.lst o ds) = true) (q : K (.bl (ds.any fun z => eqD z d))) : oInB ρ x y K := .inl (.inl (.inr (.inl ⟨d, o, ds, h1, h2, s1, s2, q⟩)))
theorem i_inT {ds : List D} (h1 : pk ρ x = some d) (h2 : pk ρ y = some (.tup ds)) (s1 : shp d = true) (s2 : shp (.tup ds) = true) (q : K (.bl (ds.any fun z => eqD z d))) : oInB ρ x y K := .inr ⟨d, ds, h1, h2, s1, s2, q⟩
theorem i_notInT {ds : List D} (h1 : pk ρ x = some d) (h2 : pk ρ y = some (.tup ds)) (s1 : shp d = true) (s2 : shp (.tup ds) = true) (q : K (.bl (!ds.any fun z => eqD z d))) : oNotInB ρ x y K := .inr ⟨d, ds, h1, h2, s1, s2, q⟩
theorem i_inK {o : Bool} {ks : List Key} {xs : List D} {k : Key} (h1 : pk ρ y = some (.dct o ks xs)) (h2 : keyOf x = some k) (q : K (.bl (valD ks xs k).isSome)) : oInB ρ x y K := .inl (.inr ⟨o, ks, xs, k, h1, h2, q⟩)
theorem i_notInK {o : Bool} {ks : List Key} {xs : List D} {k : Key} (h1 : pk ρ y = some (.dct o ks xs)) (h2 : keyOf x = some k) (q : K (.bl (!(valD ks xs k).isSome))) : oNotInB ρ x y K := .inl (.inr ⟨o, ks, xs, k, h1, h2, q⟩)
theorem i_inX (q : K (.bl (occ b a))) : oInB ρ (.str b) (.str a) K := .inl (.inl (.inr (.inr ⟨b, a, rfl, rfl, trivial, q⟩)))
/-! ### calls of built-in functions -/
theorem i_int {K : D → Sl → Prop} (q : K (.int i) ρ) : nInt ρ [.int i] K := .inl ⟨i, rfl, q⟩
theorem i_abs {K : D → Sl → Prop} (q : K (.int (if i < 0 then -i else i)) ρ) : nAbs ρ [.int i] K := ⟨i, rfl, trivial, q⟩
theorem i_max {K : D → Sl → Prop} (q : K (.int (if j > i then j else i)) ρ) : nMax ρ [.int i, .int j] K := ⟨i, j, rfl, q⟩
theorem i_min {K : D → Sl → Prop} (q : K (.int (if j < i then j else i)) ρ) : nMin ρ [.int i, .int j] K := ⟨i, j, rfl, q⟩
theorem i_dm {K : D → Sl → Prop} (h : 0 < j ∧ j < 1073741824) (q : K (.tup [.int (i / j), .int (i % j)]) ρ) : nDivmod ρ [.int i, .int j] K := ⟨i, j, rfl, h, q⟩
theorem i_strI {K : D → Sl → Prop} (h : i.natAbs.log2 < 1920) (q : K (.str (toString i)) ρ) : nStr ρ [.int i] K := ⟨i, rfl, h, q⟩
theorem i_lenL {K : D → Sl → Prop} {ds : List D} (h1 : pk ρ x = some d) (h2 : its d = some ds) (q : K (.int ds.length) ρ) : nLen ρ [x] K := ⟨x, d, rfl, h1, .inl ⟨ds, h2, q⟩⟩
theorem i_lenS {K : D → Sl → Prop} (h : a.length ≤ sizeLine) (q : K (.int a.length) ρ) : nLen ρ [.str a] K := ⟨_, _, rfl, rfl, .inr (.inl ⟨a, rfl, h, q⟩)⟩
theorem i_lenD {K : D → Sl → Prop} {o : Bool} {ks : List Key} {xs : List D} (h1 : pk ρ x = some (.dct o ks xs)) (q : K (.int ks.length) ρ) : nLen ρ [x] K := ⟨x, _, rfl, h1, .inr (.inr ⟨o, ks, xs, rfl, q⟩)⟩
theorem i_lenSc {K : D → Sl → Prop} {ns : List Int} (q : K (.int ns.length) ρ) : nLenS ρ [.scr ns] K := ⟨ns, rfl, q⟩
theorem i_list {K : D → Sl → Prop} {ds : List D} (h1 : pk ρ x = some d) (h2 : its d = some ds) (q : K (.lst true ds) ρ) : nList ρ [x] K := ⟨x, d, ds, rfl, h1, h2, q⟩
theorem i_tuple {K : D → Sl → Prop} {ds : List D} (h1 : pk ρ x = some d) (h2 : its d = some ds) (q : K (.tup ds) ρ) : nTuple ρ [x] K := ⟨x, d, ds, rfl, h1, h2, q⟩
theorem bls_map : ∀ l : List Bool, bls (l.map D.bl) = some l
  | [] => rfl
  | b :: l => by
    show (match bls (l.map D.bl) with
      | some bs => some (b :: bs)
      | none => none) = _
    rw [bls_map l]
theorem i_all {K : D → Sl → Prop} {o : Bool} {bs : List Bool} (h1 : pk ρ x = some (.lst o (bs.map D.bl))) (q : K (.bl (bs.all id)) ρ) : nAll ρ [x] K := ⟨x, o, _, bs, rfl, h1, bls_map bs, q⟩
theorem i_any {K : D → Sl → Prop} {o : Bool} {bs : List Bool} (h1 : pk ρ x = some (.lst o (bs.map D.bl))) (q : K (.bl (bs.any id)) ρ) : nAny ρ [x] K := ⟨x, o, _, bs, rfl, h1, bls_map bs, q⟩
theorem i_app {K : D → Sl → Prop} {k : Nat} {xs : List D} (h1 : fzR ρ y = some (d, ρ1)) (h2 : ρ1[k]? = some (some (.lst true xs))) (h3 : xs.length < 16000000) (q : K .non (ρ1.set k (some (.lst true (xs ++ [d]))))) : nApp ρ [.sl k, y] K := ⟨k, y, xs, d, ρ1, rfl, h1, h2, Nat.lt_of_lt_of_le h3 (by decide), q⟩
theorem i_popN {K : D → Sl → Prop} {k m : Nat} {xs : List D} (h1 : ρ[k]? = some (some (.lst true xs))) (hm : m < 2 ^ 63) (h3 : xs[m]? = some d) (q : K d (ρ.set k (some (.lst true (xs.eraseIdx m))))) : nPopAt ρ [.sl k, .int (m : Nat)] K :=
  ⟨k, m, xs, m, d, rfl, h1, by omega, by omega, by
    have hl := (List.getElem?_eq_some_iff.mp h3).1
    unfold ixN
    rw [if_pos (by omega), if_pos (by omega)]; rfl, h3, q⟩
/-- plain: it owns nothing and is no slot -/
structure Pl (d : D) : Prop where
  sl : isSl d = false
  ow : isOw d = false
  fz : fz d = d
theorem fzR_P (h : Pl d) : fzR ρ d = some (d, ρ) := by
  have h1 := h.sl
  have h2 := h.fz
  cases d <;> first | (simp [isSl] at h1; done) | (simp [fzR, h2])
theorem owR_pl (h : Pl d) : owR ρ d = some (d, ρ) := by
  have h1 := h.sl
  cases d <;> first | (simp [isSl] at h1; done) | rfl
theorem pk_pl (h : Pl d) : pk ρ d = some d := by
  have h1 := h.sl
  cases d <;> first | (simp [isSl] at h1; done) | rfl
theorem ret_pl (h : Pl d) : ret ρ d = some (d, ρ) := by
  have h1 := h.sl
  cases d <;> first | (simp [isSl] at h1; done) | rfl
theorem rd_pl {k : Nat} (h : Pl d) : rd k d = d := by unfold rd; rw [h.ow]; rfl
theorem pl_str : Pl (.str a) := ⟨rfl, rfl, rfl⟩
theorem pl_int : Pl (.int i) := ⟨rfl, rfl, rfl⟩
theorem pl_tup {xs : List D} : Pl (.tup xs) := ⟨rfl, rfl, rfl⟩
theorem pl_lf {xs : List D} : Pl (.lst false xs) := ⟨rfl, rfl, rfl⟩
theorem i_popB {K : D → Sl → Prop} {k : Nat} {xs : List D} (h1 : ρ[k]? = some (some (.lst true xs))) (hi : 0 ≤ i ∧ i < xs.length ∧ xs.length ≤ 1000000000) (q : ∀ m (hm : m < xs.length), i = (m : Nat) → K xs[m] (ρ.set k (some (.lst true (xs.eraseIdx m))))) : nPopAt ρ [.sl k, .int i] K := by
  obtain ⟨m, rfl⟩ := Int.eq_ofNat_of_zero_le hi.1
  have hm : m < xs.length := by omega
  exact i_popN h1 (by omega) (by simp [hm]) (q m hm rfl)
theorem its_cases {xs : List D} (h : its d = some xs) (ho : isOw d = false) : d = .tup xs ∨ d = .lst false xs := by
  cases d <;> first | (cases h; done) | skip
  · cases h; exact .inl rfl
  · cases h
    simp [isOw] at ho
    subst ho
    exact .inr rfl
theorem cut_take {α : Type} {xs : List α} {k : Nat} : cut xs none (some (k : Int)) = xs.take k := by
  unfold cut
  rw [HT.sIx_none, HT.sIx_nat]
  simp
theorem cut_drop {α : Type} {xs : List α} {k : Nat} : cut xs (some (k : Int)) none = xs.drop k := by
  unfold cut
  rw [HT.sIx_none, HT.sIx_nat]
  by_cases h : k ≤ xs.length
  · rw [Nat.min_eq_left h, List.take_of_length_le (by simp)]
  · rw [Nat.min_eq_right (by omega), List.drop_of_length_le (Nat.le_refl _), List.drop_of_length_le (by omega)]; simp
theorem cut_takeI {α : Type} {xs : List α} {j : Int} (h : 0 ≤ j) : cut xs none (some j) = xs.take j.toNat := by
  obtain ⟨k, rfl⟩ := Int.eq_ofNat_of_zero_le h
  exact cut_take
theorem cut_dropI {α : Type} {xs : List α} {j : Int} (h : 0 ≤ j) : cut xs (some j) none = xs.drop j.toNat := by
  obtain ⟨k, rfl⟩ := Int.eq_ofNat_of_zero_le h
  exact cut_drop
theorem atI_last {α : Type} {xs : List α} {x : α} : atI (xs ++ [x]) (-1) = some x := by
  unfold atI ixN
  rw [if_neg (by omega), if_pos (by simp; omega)]
  show (xs ++ [x])[((-1 : Int) + ((xs ++ [x]).length : Int)).toNat]? = _
  have : ((-1 : Int) + ((xs ++ [x]).length : Int)).toNat = xs.length := by simp; omega
  rw [this]
  simp
theorem ixN_last {n : Nat} (h : 0 < n) : ixN n (-1) = some (n - 1) := by
  unfold ixN
  rw [if_neg (by omega), if_pos (by omega)]
  congr 1
  omega
theorem i_setlN {k : Nat} {m : Int} {xs : List D} {j : Nat} {r : D} {Q : Sl → Prop} (h0 : isSl r = false) (h1 : fzR ρ r = some (d, ρ)) (h2 : ρ[k]? = some (some (.lst true xs))) (h3 : ixN xs.length (-m) = some j) (q : Q (ρ.set k (some (.lst true (xs.set j d))))) : gSetA (wVar k) (wNeg (wC (.int m))) r ρ Q :=
  ⟨_, h2, m, rfl, .inl ⟨k, -m, xs, j, d, ρ, rfl, rfl, h1, h2, h3, q⟩⟩
theorem i_nfz {P A B : Prop} (h1 : A) (h2 : B) (q : P) : (A ∧ B) ∧ P := ⟨⟨h1, h2⟩, q⟩
theorem i_neg {P : D → Prop} (q : P (.int (-i))) : ∃ k : Int, D.int i = .int k ∧ P (.int (-k)) := ⟨i, rfl, q⟩
theorem perm_erase {α : Type} : ∀ {l : List α} {m : Nat} (hm : m < l.length), (l[m] :: l.eraseIdx m).Perm l
  | x :: l, 0, _ => .refl _
  | x :: l, m + 1, hm => by
    have hm' : m < l.length := by simpa using hm
    show (l[m] :: x :: l.eraseIdx m).Perm (x :: l)
    exact (List.Perm.swap _ _ _).trans ((perm_erase hm').cons x)
theorem erase_map {α β : Type} {f : α → β} : ∀ {l : List α} {m : Nat}, (l.map f).eraseIdx m = (l.eraseIdx m).map f
  | [], _ => rfl
  | x :: l, 0 => rfl
  | x :: l, m + 1 => congrArg (f x :: ·) (erase_map (l := l) (m := m))
theorem i_popM {α : Type} {f : α → D} {K : D → Sl → Prop} {k : Nat} {xs : List α} (h1 : ρ[k]? = some (some (.lst true (xs.map f)))) (hi : 0 ≤ i ∧ i < xs.length ∧ xs.length ≤ 1000000000) (q : ∀ m (hm : m < xs.length), i = (m : Nat) → (xs.eraseIdx m).length + 1 = xs.length → K (f xs[m]) (ρ.set k (some (.lst true ((xs.eraseIdx m).map f))))) : nPopAt ρ [.sl k, .int i] K := by
  refine i_popB h1 (by rw [List.length_map]; exact hi) fun m hm e => ?_
  have hm' : m < xs.length := by rw [List.length_map] at hm; exact hm
  rw [erase_map, List.getElem_map]
  exact q m hm' e (by rw [List.length_eraseIdx_of_lt hm']; omega)
theorem i_ixM {α : Type} {f : α → D} {l : List α} (h1 : pk ρ x = some d) (h2 : its d = some (l.map f)) (hi : 0 ≤ i ∧ i < l.length) (q : ∀ k (hk : k < l.length), i = (k : Nat) → K (f l[k])) : oIxA ρ x (.int i) K := by
  obtain ⟨k, rfl⟩ := Int.eq_ofNat_of_zero_le hi.1
  have hk : k < l.length := by omega
  exact i_ixL h1 h2 (atI_nat (j := k) (by simp [hk])) (q k hk rfl)
theorem i_truB {c : Bool} {P : Bool → Prop} (q : P c) : ∃ k, TruD ρ (.bl c) k ∧ P k := ⟨c, ⟨_, rfl, rfl⟩, q⟩
theorem i_pln {P : Prop} (h : wChain.pln y = true) (q : P) : wChain.pln y = true ∧ P := ⟨h, q⟩
theorem i_isSS {P : Bool → Prop} (q : P true) : ∃ d N b, pk ρ (.str a) = some d ∧ tyN d = some N ∧ kitB N "str" = some b ∧ P b := ⟨_, _, true, rfl, rfl, by decide, q⟩
theorem i_isTT {P : Bool → Prop} {xs : List D} (q : P true) : ∃ d N b, pk ρ (.tup xs) = some d ∧ tyN d = some N ∧ kitB N "tuple" = some b ∧ P b := ⟨_, _, true, rfl, rfl, by decide, q⟩
theorem i_isII {P : Bool → Prop} (q : P true) : ∃ d N b, pk ρ (.int i) = some d ∧ tyN d = some N ∧ kitB N "int" = some b ∧ P b := ⟨_, _, true, rfl, rfl, by decide, q⟩
theorem i_isIB {P : Bool → Prop} (q : P false) : ∃ d N b, pk ρ (.int i) = some d ∧ tyN d = some N ∧ kitB N "bool" = some b ∧ P b := ⟨_, _, false, rfl, rfl, by decide, q⟩
theorem i_isSI {P : Bool → Prop} (q : P false) : ∃ d N b, pk ρ (.str a) = some d ∧ tyN d = some N ∧ kitB N "int" = some b ∧ P b := ⟨_, _, false, rfl, rfl, by decide, q⟩
theorem i_itS {P : Str → Prop} {R : Prop} (q : P a) : R ∨ ∃ z, D.str a = .str z ∧ P z := .inr ⟨a, rfl, q⟩
theorem i_inC {c : Nat} (q : K (.bl (decide (c ∈ a.cps.toList)))) : oInB ρ (.str ⟨#[c]⟩) (.str a) K := i_inX (by
  have e : occ ⟨#[c]⟩ a = decide (c ∈ a.cps.toList) := PySem.StrLaws.found_one a c
  rw [e]; exact q)
theorem i_notIn2 {b c : Str} (q : K (.bl (!decide (a ∈ [b, c])))) : oNotInB ρ (.str a) (.tup [.str b, .str c]) K := i_notInS (l := [b, c]) rfl rfl q
theorem i_in2 {b c : Str} (q : K (.bl (decide (a ∈ [b, c])))) : oInB ρ (.str a) (.tup [.str b, .str c]) K := i_inS (l := [b, c]) rfl rfl q
theorem i_allM {α : Type} {p : α → Bool} {l : List α} {K : D → Sl → Prop} {o : Bool} (h1 : pk ρ x = some (.lst o (l.map fun a => .bl (p a)))) (q : K (.bl (l.all p)) ρ) : nAll ρ [x] K :=
  i_all (bs := l.map p) (by rw [List.map_map]; exact h1) (by rw [List.all_map]; exact q)
theorem i_anyM {α : Type} {p : α → Bool} {l : List α} {K : D → Sl → Prop} {o : Bool} (h1 : pk ρ x = some (.lst o (l.map fun a => .bl (p a)))) (q : K (.bl (l.any p)) ρ) : nAny ρ [x] K :=
  i_any (bs := l.map p) (by rw [List.map_map]; exact h1) (by rw [List.any_map]; exact q)
theorem en_at {α : Type} {e : α → D} {l : List α} {k : Nat} (h : (enumD (l.map e))[k]? = some d) : ∃ x, l[k]? = some x ∧ d = .tup [.int (k : Nat), e x] := by
  unfold enumD at h
  rw [List.getElem?_mapIdx, List.getElem?_map, Option.map_map] at h
  obtain ⟨x, hx, rfl⟩ := Option.map_eq_some_iff.mp h
  exact ⟨x, hx, rfl⟩
theorem en_len {ds : List D} : (enumD ds).length = ds.length := by unfold enumD; rw [List.length_mapIdx]
theorem idx_str {x : Str} : ∀ {l : List Str}, x ∈ l → (l.map V.str).findIdx? (fun z => eqV z (.str x)) = some (l.idxOf x)
  | y :: l, h => by
    rw [List.map_cons, List.findIdx?_cons, List.idxOf_cons]
    by_cases e : y = x
    · subst e
      simp [eqV]
    · have h2 := idx_str ((List.mem_cons.mp h).resolve_left fun z => e z.symm)
      have e2 : eqV (.str y) (.str x) = false := by simp [eqV, e]
      have e3 : (y == x) = false := by simp [e]
      rw [e2, h2, e3]
      simp
theorem i_index {K : D → Sl → Prop} {o : Bool} {l : List Str} (h1 : pk ρ x = some (.lst o (l.map D.str))) (h : a ∈ l) (q : K (.int (l.idxOf a : Nat)) ρ) : nIndex ρ [x, .str a] K := ⟨x, .str a, _, o, _, _, _, _, rfl, h1, scL_str l, rfl, idx_str h, rfl, q⟩
theorem i_tyL {P : Prop} {o : Bool} {xs : List D} (h : pk ρ x = some (.lst o xs)) (q : P) : tyD "list" ρ x ∧ P := ⟨⟨_, h, rfl⟩, q⟩
theorem i_tyS {P : Prop} (q : P) : tyD "str" ρ (.str a) ∧ P := ⟨⟨_, rfl, rfl⟩, q⟩
theorem i_par {A : Prop} {bs : List Bool} {rs ds : List D} {P : List D → Sl → Prop} (hn : A) (h : parR bs ρ rs = some (ds, ρ2)) (q : P ds ρ2) : ∃ ds ρ2, A ∧ parR bs ρ rs = some (ds, ρ2) ∧ P ds ρ2 := ⟨ds, ρ2, hn, h, q⟩
theorem i_tpo {bs : List Bool} {rs ds : List D} {P : List D → Sl → Prop} (h : parR bs ρ rs = some (ds, ρ2)) (hl : Nat.ble ds.length sizeLine = true) (q : P ds ρ2) : ∃ ds ρ2, parR bs ρ rs = some (ds, ρ2) ∧ ds.length ≤ sizeLine ∧ P ds ρ2 := ⟨ds, ρ2, h, Nat.le_of_ble_eq_true hl, q⟩
theorem i_fzE {r : D} {P : D → Sl → Prop} (h : fzR ρ r = some (d, ρ1)) (q : P d ρ1) : ∃ y ρ5, fzR ρ r = some (y, ρ5) ∧ P y ρ5 := ⟨d, ρ1, h, q⟩
/-! ### stores -/
theorem i_fz {k : Nat} {Q : Sl → Prop} {r : D} (h : fzR ρ r = some (d, ρ1)) (q : Q (ρ1.set k (some d))) : gFz k r ρ Q := ⟨d, ρ1, h, q⟩
theorem i_ow {k : Nat} {Q : Sl → Prop} {r : D} (h : owR ρ r = some (d, ρ1)) (q : Q (ρ1.set k (some d))) : gOw k r ρ Q := ⟨d, ρ1, h, q⟩
theorem i_unp {k : Nat} {gs : WGs} {Q : Sl → Prop} {ds : List D} (h : ds.length = k) (q : gs ds ρ Q) : gUnp k gs (.tup ds) ρ Q := ⟨ds, .inl rfl, h, q⟩
theorem i_unpO {k : Nat} {gs : WGs} {Q : Sl → Prop} {ds : List D} (h : ds.length = k) (q : gs ds ρ Q) : gUnp k gs (.tpo ds) ρ Q := ⟨ds, .inr rfl, h, q⟩
theorem i_gcons {g : WG} {gs : WGs} {Q : Sl → Prop} {ds : List D} (q : g d ρ fun ρ1 => gs ds ρ1 Q) : wgCons g gs (d :: ds) ρ Q := ⟨d, ds, rfl, q⟩
theorem i_gnil {Q : Sl → Prop} (q : Q ρ) : wgNil [] ρ Q := ⟨rfl, q⟩
theorem i_setL {wo wi : WE} {r : D} {Q : Sl → Prop} (h : wo ρ fun o ρ1 => wi ρ1 fun i ρ2 => ∃ j n xs k d ρ3, o = .sl j ∧ i = .int n ∧ fzR ρ2 r = some (d, ρ3) ∧ ρ3[j]? = some (some (.lst true xs)) ∧ ixN xs.length n = some k ∧ Q (ρ3.set j (some (.lst true (xs.set k d))))) (mo : ∀ {ρ Q Q'}, wo ρ Q → (∀ d ρ1, Q d ρ1 → Q' d ρ1) → wo ρ Q') (mi : ∀ {ρ Q Q'}, wi ρ Q → (∀ d ρ1, Q d ρ1 → Q' d ρ1) → wi ρ Q') : gSetA wo wi r ρ Q :=
  mo h fun o ρ1 h => mi h fun i ρ2 h => .inl h
theorem i_setl {k : Nat} {m : Int} {xs : List D} {j : Nat} {r : D} {Q : Sl → Prop} (h0 : isSl r = false) (h1 : fzR ρ r = some (d, ρ)) (h2 : ρ[k]? = some (some (.lst true xs))) (h3 : ixN xs.length m = some j) (q : Q (ρ.set k (some (.lst true (xs.set j d))))) : gSetA (wVar k) (wC (.int m)) r ρ Q :=
  ⟨_, h2, .inl ⟨k, m, xs, j, d, ρ, rfl, rfl, h1, h2, h3, q⟩⟩
theorem i_setd {k : Nat} {ks : List Key} {xs : List D} {kk : Key} {e : D} {wi : WE} {r : D} {Q : Sl → Prop} (hi : wi ρ fun i ρ2 => ρ2 = ρ ∧ i = e) (mi : ∀ {ρ Q Q'}, wi ρ Q → (∀ d ρ1, Q d ρ1 → Q' d ρ1) → wi ρ Q') (ke : keyOf e = some kk) (h1 : fzR ρ r = some (d, ρ)) (h2 : ρ[k]? = some (some (.dct true ks xs))) (h3 : ks.length < sizeLine) (q : Q (ρ.set k (some (.dct true (putKs ks kk) (putXs ks xs kk d))))) : gSetA (wVar k) wi r ρ Q :=
  ⟨_, h2, mi hi fun i ρ2 ⟨e1, e2⟩ => .inr ⟨k, ks, xs, kk, d, ρ, rfl, by rw [e2]; exact ke, by rw [e1]; exact h1, h2, h3, q⟩⟩
theorem i_setdV {k j : Nat} {ks : List Key} {xs : List D} {kk : Key} {e : D} {r : D} {Q : Sl → Prop} (he : ρ[j]? = some (some e)) (ow : rd j e = e) (ke : keyOf e = some kk) (h1 : fzR ρ r = some (d, ρ)) (h2 : ρ[k]? = some (some (.dct true ks xs))) (h3 : ks.length < 16000000) (q : Q (ρ.set k (some (.dct true (putKs ks kk) (putXs ks xs kk d))))) : gSetA (wVar k) (wVar j) r ρ Q :=
  i_setd (e := e) (wi := wVar j) ⟨e, he, rfl, ow⟩ (fun ⟨d, h, q⟩ m => ⟨d, h, m _ _ q⟩) ke h1 h2 (Nat.lt_of_lt_of_le h3 (by decide)) q
theorem i_pow (h : 0 ≤ j ∧ j ≤ 1000000 ∧ i.natAbs < 2 ^ 64) (q : K (.int (i ^ j.toNat))) : oPow ρ (.int i) (.int j) K := ⟨i, j, rfl, rfl, h, q⟩
theorem i_disp {rs ds : List D} {P : List D → Sl → Prop} (h1 : fzRs ρ rs = some (ds, ρ2)) (h2 : Nat.ble ds.length sizeLine = true) (q : P ds ρ2) : ∃ ds ρ2, fzRs ρ rs = some (ds, ρ2) ∧ ds.length ≤ sizeLine ∧ P ds ρ2 := ⟨ds, ρ2, h1, Nat.le_of_ble_eq_true h2, q⟩
theorem i_slL {o : Bool} {xs : List D} {lo hi : Option Int} (h : pk ρ x = some (.lst o xs)) (q : K (.lst true (cut xs lo hi))) : oSl ρ x lo hi K := .inl ⟨o, xs, h, q⟩
theorem i_slT {xs : List D} {lo hi : Option Int} (q : K (.tup (cut xs lo hi))) : oSl ρ (.tup xs) lo hi K := .inr (.inl ⟨xs, rfl, q⟩)
theorem i_slS {lo hi : Option Int} (h : a.length ≤ sizeLine) (q : K (.str (cutS a lo hi))) : oSl ρ (.str a) lo hi K := .inr (.inr ⟨a, rfl, h, q⟩)
theorem i_scr {ns : List Int} {P : List Int → Prop} (q : P ns) : ∃ ns', D.scr ns = .scr ns' ∧ P ns' := ⟨ns, rfl, q⟩
theorem i_ixScB {ns : List Int} (h0 : 0 ≤ i) (h1 : i < ns.length) (q : ∀ u ∈ ns, K (.int u)) : oIxS ρ (.scr ns) (.int i) K := by
  obtain ⟨k, rfl⟩ := Int.eq_ofNat_of_zero_le h0
  have hk : k < ns.length := by omega
  exact i_ixSc (u := ns[k]) (atI_nat (by simp [hk])) (q _ (List.getElem_mem hk))
theorem i_ixB {ds : List D} (h1 : pk ρ x = some d) (h2 : its d = some ds) (h0 : 0 ≤ i) (h : i < ds.length) (q : ∀ k (hk : k < ds.length), i = k → K ds[k]) : oIxA ρ x (.int i) K := by
  obtain ⟨k, rfl⟩ := Int.eq_ofNat_of_zero_le h0
  have hk : k < ds.length := by omega
  exact i_ixL h1 h2 (atI_nat (j := k) (by simp [hk])) (q k hk rfl)
theorem i_opt {P : Int → Prop} (q : P i) : ∃ j, D.int i = .int j ∧ P j := ⟨i, rfl, q⟩
theorem i_itL {ds : List D} {P : List D → Sl → Prop} {R : Prop} (h1 : fzR ρ x = some (d, ρ2)) (h2 : its d = some ds) (q : P ds ρ2) : (∃ d ds ρ2, fzR ρ x = some (d, ρ2) ∧ its d = some ds ∧ P ds ρ2) ∨ R := .inl ⟨d, ds, ρ2, h1, h2, q⟩
theorem i_en {ds : List D} {P : List D → Sl → Prop} (h1 : fzR ρ x = some (d, ρ2)) (h2 : its d = some ds) (q : P ds ρ2) : ∃ d ds ρ2, fzR ρ x = some (d, ρ2) ∧ its d = some ds ∧ P ds ρ2 := ⟨d, ds, ρ2, h1, h2, q⟩
theorem i_r1 {P : Int → Prop} (h : -(2 ^ 62) ≤ j ∧ j < 2 ^ 62) (q : P j) : ∃ k : Int, [D.int j] = [D.int k] ∧ -(2 ^ 62) ≤ k ∧ k < 2 ^ 62 ∧ P k := ⟨j, rfl, h.1, h.2, q⟩
theorem i_r2 {P : Int → Int → Prop} (h : -(2 ^ 62) ≤ i ∧ i < 2 ^ 62 ∧ -(2 ^ 62) ≤ j ∧ j < 2 ^ 62) (q : P i j) : ∃ k l : Int, [D.int i, D.int j] = [D.int k, D.int l] ∧ (-(2 ^ 62) ≤ k ∧ k < 2 ^ 62 ∧ -(2 ^ 62) ≤ l ∧ l < 2 ^ 62) ∧ P k l := ⟨i, j, rfl, h, q⟩
theorem i_strB {K : D → Sl → Prop} (h : -(2 ^ 64) < i ∧ i < 2 ^ 64) (q : K (.str (toString i)) ρ) : nStr ρ [.int i] K := i_strI (by
  by_cases z : i.natAbs = 0
  · rw [z]; decide
  · exact Nat.lt_of_lt_of_le ((Nat.log2_lt z).mpr (show i.natAbs < 2 ^ 64 by omega)) (by decide)) q
/-! ### calls -/
def okOw (own : List Nat) : Nat → List D → Bool
  | _, [] => true
  | n, d :: ds => (own.contains n || !isOw d) && okOw own (n + 1) ds
theorem okOw_at {own : List Nat} : ∀ {ds : List D} {n : Nat}, okOw own n ds = true → ∀ i d, ds[i]? = some d → n + i ∉ own → isOw d = false
  | [], n, _, i, d, e, _ => by simp at e
  | x :: ds, n, h, 0, d, e, hn => by
    simp at e; subst e
    have q := (Bool.and_eq_true_iff.mp h).1
    have hn' : n ∉ own := by simpa using hn
    simpa [hn'] using q
  | x :: ds, n, h, i + 1, d, e, hn => okOw_at (Bool.and_eq_true_iff.mp h).2 i d (by simpa using e) (by rw [Nat.add_assoc, Nat.add_comm 1]; exact hn)
theorem i_call {own : List Nat} {sp : Spd} {Ex : DXs} {rs ds : List D} {js : List Nat} (hn : rs.length = n) (h1 : pre own [] 0 ρ rs = some (ds, ρ2, js)) (h2 : okOw own 0 ds = true) (h : sp ds (fun r os => Q r (puts ρ2 js os)) fun c fs xs => Ex c fs xs ρ2) : callD own [] n sp [] Ex Q rs ρ := by
  refine ⟨ds, ρ2, js, ds, hn, h1, fun _ => rfl, fun z => absurd rfl z, fun i d e ho => okOw_at h2 i d (by simpa using e) (by simpa using ho), ?_⟩
  have e1 : (fun (r : D) (os : List D) => (([] : List Nat) ≠ [] → nfz r = true ∧ nfzL os = true) ∧ Q r (puts ρ2 js os)) = fun r os => Q r (puts ρ2 js os) := by
    funext r os; apply propext; exact ⟨fun z => z.2, fun z => ⟨fun y => absurd rfl y, z⟩⟩
  have e2 : (fun (c : Str) (fs : List Str) (xs : List D) => (([] : List Nat) ≠ [] → nfzL xs = true) ∧ Ex c fs xs ρ2) = fun c fs xs => Ex c fs xs ρ2 := by
    funext c fs xs; apply propext; exact ⟨fun z => z.2, fun z => ⟨fun y => absurd rfl y, z⟩⟩
  rw [List.append_nil, e1, e2]
  exact h
theorem i_callB {own bor : List Nat} {sp : Spd} {Ex : DXs} {rs ds es : List D} {js : List Nat} (hb : bor ≠ []) (hn : rs.length = n) (h1 : pre own bor 0 ρ rs = some (ds, ρ2, js)) (hl : lend ρ2 ds = some es) (h2 : okOw own 0 es = true) (h : sp es (fun r os => (nfz r = true ∧ nfzL os = true) ∧ Q r (puts ρ2 js os)) fun c fs xs => nfzL xs = true ∧ Ex c fs xs ρ2) : callD own bor n sp [] Ex Q rs ρ := by
  refine ⟨ds, ρ2, js, es, hn, h1, fun z => absurd z hb, fun _ => hl, fun i d e ho => okOw_at h2 i d (by simpa using e) (by simpa using ho), ?_⟩
  have e1 : (fun (r : D) (os : List D) => (bor ≠ [] → nfz r = true ∧ nfzL os = true) ∧ Q r (puts ρ2 js os)) = fun r os => (nfz r = true ∧ nfzL os = true) ∧ Q r (puts ρ2 js os) := by
    funext r os; apply propext; exact ⟨fun z => ⟨z.1 hb, z.2⟩, fun z => ⟨fun _ => z.1, z.2⟩⟩
  have e2 : (fun (c : Str) (fs : List Str) (xs : List D) => (bor ≠ [] → nfzL xs = true) ∧ Ex c fs xs ρ2) = fun c fs xs => nfzL xs = true ∧ Ex c fs xs ρ2 := by
    funext c fs xs; apply propext; exact ⟨fun z => ⟨z.1 hb, z.2⟩, fun z => ⟨fun _ => z.1, z.2⟩⟩
  rw [List.append_nil, e1, e2]
  exact h
/-! ### comprehensions that change nothing -/
theorem its_map {α : Type} {f : α → D} {l : List α} {o : Bool} : its (.lst o (l.map f)) = some (l.map f) := rfl
theorem i_join {K : D → Sl → Prop} {xs : List D} (l : List Str) (h1 : pk ρ x = some d) (h2 : its d = some xs) (h3 : xs = l.map D.str) (h : (l.map (·.length)).sum + l.length * a.length ≤ 16000000) (q : K (.str (Str.join a l)) ρ) : nJoin ρ [.str a, x] K :=
  ⟨a, x, d, xs, l, rfl, h1, h2, by rw [h3, txts_map], Nat.le_trans h (by decide), by rw [TL.join_eq]; exact q⟩
theorem ite_dt {P : Prop} [Decidable P] {A B : Prop} (h : P) (q : A) : if decide P = true then A else B := by rw [decide_eq_true h]; exact q
theorem ite_df {P : Prop} [Decidable P] {A B : Prop} (h : ¬ P) (q : B) : if decide P = true then A else B := by rw [decide_eq_false h]; exact q
/-- behind a comprehension's iterable -/
def lcK (g : WG) (wt : WT) (we : WE) (vs : List Nat) (ds : List D) (ρ1 : Sl) (Q : D → Sl → Prop) : Prop := ∃ I : Nat → List D → Sl → Prop, I 0 [] (wip ρ1 vs) ∧
  (∀ i d acc ρ, ds[i]? = some d → I i acc ρ → g d ρ fun ρ2 => wt ρ2 fun b ρ3 => if b = true then we ρ3 fun r ρ4 => ∃ y ρ5, fzR ρ4 r = some (y, ρ5) ∧ acc.length < sizeLine ∧ I (i + 1) (acc ++ [y]) (wip ρ5 vs) else I (i + 1) acc (wip ρ3 vs)) ∧
  ∀ acc ρ, I ds.length acc ρ → Q (.lst true acc) (rst ρ1 ρ vs)
theorem i_lc0 {wi : WI} {g : WG} {wt : WT} {we : WE} {vs : List Nat} (h : wi ρ fun ds ρ1 => lcK g wt we vs ds ρ1 Q) : wLc wi g wt we vs ρ Q := h
/-- [f a for a in l if p a] -/
theorem i_lcF {α : Type} {g : WG} {wt : WT} {we : WE} {vs : List Nat} {ds : List D} (l : List α) (e : α → D) (p : α → Bool) (f : α → D) (hds : ds = l.map e) (hz : l.length ≤ 16000000)
    (hb : ∀ a ∈ l, ∀ (P : D → Sl → Prop) (N : Sl → Prop), (p a = true → P (f a) (wip ρ1 vs)) → (p a = false → N (wip ρ1 vs)) → g (e a) (wip ρ1 vs) fun ρ2 => wt ρ2 fun b ρ3 => if b = true then we ρ3 fun r ρ4 => ∃ y ρ5, fzR ρ4 r = some (y, ρ5) ∧ P y (wip ρ5 vs) else N (wip ρ3 vs))
    (q : Q (.lst true ((l.filter p).map f)) (rst ρ1 (wip ρ1 vs) vs)) : lcK g wt we vs ds ρ1 Q := by
  subst hds
  refine ⟨fun i acc ρ => ρ = wip ρ1 vs ∧ acc = ((l.take i).filter p).map f, ⟨rfl, rfl⟩, ?_, ?_⟩
  · rintro i d acc ρ hd ⟨rfl, rfl⟩
    rw [List.getElem?_map] at hd
    obtain ⟨a, ha, rfl⟩ := Option.map_eq_some_iff.mp hd
    have hi := (List.getElem?_eq_some_iff.mp ha).1
    have hl : (((l.take i).filter p).map f).length < sizeLine := by
      rw [List.length_map]
      have h1 := List.length_filter_le p (l.take i)
      have h2 : (l.take i).length = i := by rw [List.length_take]; omega
      exact Nat.lt_of_lt_of_le (show ((l.take i).filter p).length < 16000000 by omega) (by decide)
    have tk : l.take (i + 1) = l.take i ++ [a] := by rw [List.take_add_one, ha]; rfl
    refine hb a (List.mem_of_getElem? ha) (fun y ρ5 => (((l.take i).filter p).map f).length < sizeLine ∧ ρ5 = wip ρ1 vs ∧ ((l.take i).filter p).map f ++ [y] = ((l.take (i + 1)).filter p).map f) (fun ρ5 => ρ5 = wip ρ1 vs ∧ ((l.take i).filter p).map f = ((l.take (i + 1)).filter p).map f) (fun hp => ⟨hl, rfl, ?_⟩) fun hp => ⟨rfl, ?_⟩
    · rw [tk]; simp [List.filter_append, hp]
    · rw [tk]; simp [List.filter_append, hp]
  · rintro acc ρ ⟨rfl, rfl⟩
    rw [List.length_map, List.take_length]
    exact q
theorem i_lcM {α : Type} {g : WG} {we : WE} {vs : List Nat} {ds : List D} (l : List α) (e f : α → D) (hds : ds = l.map e) (hz : l.length ≤ 16000000)
    (hb : ∀ a ∈ l, ∀ P : D → Sl → Prop, P (f a) (wip ρ1 vs) → g (e a) (wip ρ1 vs) fun ρ2 => we ρ2 fun r ρ4 => ∃ y ρ5, fzR ρ4 r = some (y, ρ5) ∧ P y (wip ρ5 vs)) (q : Q (.lst true (l.map f)) (rst ρ1 (wip ρ1 vs) vs)) : lcK g wYes we vs ds ρ1 Q :=
  i_lcF l e (fun _ => true) f hds hz (fun a ha P N h1 _ => by
    have := hb a ha P (h1 rfl)
    exact this) (by rw [List.filter_eq_self.mpr fun _ _ => rfl]; exact q)
/-! ### dict comprehensions -/
def dcK (g : WG) (wt : WT) (wk we : WE) (vs : List Nat) (ds : List D) (ρ1 : Sl) (Q : D → Sl → Prop) : Prop := ∃ I : Nat → List Key → List D → Sl → Prop, I 0 [] [] (wip ρ1 vs) ∧
  (∀ i d ks xs ρ, ds[i]? = some d → I i ks xs ρ → g d ρ fun ρ2 => wt ρ2 fun b ρ3 => if b = true then wk ρ3 fun x ρ4 => we ρ4 fun r ρ5 => ∃ k y ρ6, keyOf x = some k ∧ fzR ρ5 r = some (y, ρ6) ∧ ks.length < sizeLine ∧ I (i + 1) (putKs ks k) (putXs ks xs k y) (wip ρ6 vs) else I (i + 1) ks xs (wip ρ3 vs)) ∧
  ∀ ks xs ρ, I ds.length ks xs ρ → Q (.dct true ks xs) (rst ρ1 ρ vs)
theorem i_dc0 {wi : WI} {g : WG} {wt : WT} {wk we : WE} {vs : List Nat} (h : wi ρ fun ds ρ1 => dcK g wt wk we vs ds ρ1 Q) : wDc wi g wt wk we vs ρ Q := h
theorem i_kfz {r : D} {k : Key} {P : Key → D → Sl → Prop} (h1 : keyOf x = some k) (h : fzR ρ r = some (d, ρ1)) (q : P k d ρ1) : ∃ k y ρ6, keyOf x = some k ∧ fzR ρ r = some (y, ρ6) ∧ P k y ρ6 := ⟨k, d, ρ1, h1, h, q⟩
def dfold {α : Type} (p : List Key × List D) (l : List α) (kf : α → Key) (f : α → D) : List Key × List D := l.foldl (fun p a => (putKs p.1 (kf a), putXs p.1 p.2 (kf a) (f a))) p
theorem putKs_len {ks : List Key} {k : Key} : (putKs ks k).length ≤ ks.length + 1 := by
  unfold putKs
  split <;> simp
theorem i_dcG {α : Type} {g : WG} {wk we : WE} {vs : List Nat} {ds : List D} (l : List α) (e : α → D) (kf : α → Key) (f : α → D) (hds : ds = l.map e) (hz : l.length ≤ 1000)
    (hb : ∀ a ∈ l, ∀ P : Key → D → Sl → Prop, P (kf a) (f a) (wip ρ1 vs) → g (e a) (wip ρ1 vs) fun ρ2 => wk ρ2 fun x ρ4 => we ρ4 fun r ρ5 => ∃ k y ρ6, keyOf x = some k ∧ fzR ρ5 r = some (y, ρ6) ∧ P k y (wip ρ6 vs)) (q : Q (.dct true (dfold ([], []) l kf f).1 (dfold ([], []) l kf f).2) (rst ρ1 (wip ρ1 vs) vs)) : dcK g wYes wk we vs ds ρ1 Q := by
  subst hds
  refine ⟨fun i ks xs ρ => ρ = wip ρ1 vs ∧ (ks, xs) = dfold ([], []) (l.take i) kf f ∧ ks.length ≤ i, ⟨rfl, rfl, Nat.le_refl _⟩, ?_, ?_⟩
  · rintro i d ks xs ρ hd ⟨rfl, hk, hl⟩
    rw [List.getElem?_map] at hd
    obtain ⟨a, ha, rfl⟩ := Option.map_eq_some_iff.mp hd
    have hi := (List.getElem?_eq_some_iff.mp ha).1
    have tk : l.take (i + 1) = l.take i ++ [a] := by rw [List.take_add_one, ha]; rfl
    refine hb a (List.mem_of_getElem? ha) (fun k y ρ6 => ks.length < sizeLine ∧ (ρ6 = wip ρ1 vs ∧ (putKs ks k, putXs ks xs k y) = dfold ([], []) (l.take (i + 1)) kf f ∧ (putKs ks k).length ≤ i + 1)) ⟨Nat.lt_of_lt_of_le (show ks.length < 2000 by omega) (by decide), rfl, ?_, Nat.le_trans putKs_len (by omega)⟩
    rw [tk]
    unfold dfold at hk ⊢
    rw [List.foldl_append, ← hk]
    rfl
  · rintro ks xs ρ ⟨rfl, hk, _⟩
    rw [List.length_map, List.take_length] at hk
    rw [← hk] at q
    exact q
/-! ### dicts by entries -/
abbrev kS (l : List Str) : List Key := l.map Sum.inr
theorem hasK_S {l : List Str} {x : Str} : hasK (kS l) (.inr x) = decide (x ∈ l) := by
  induction l with
  | nil => rfl
  | cons y l ih =>
    show (decide ((Sum.inr y : Key) = .inr x) || hasK (kS l) (.inr x)) = _
    rw [ih]
    by_cases h : y = x
    · subst h; simp
    · have : ¬ x = y := fun e => h e.symm
      simp [h, this]
theorem valD_S {α : Type} {f : Str → α} {x : Str} : ∀ {l : List Str}, x ∈ l → valD (kS l) (l.map f) (.inr x) = some (f x)
  | y :: l, h => by
    show (if (Sum.inr y : Key) = .inr x then some (f y) else valD (kS l) (l.map f) (.inr x)) = _
    by_cases e : y = x
    · subst e; rw [if_pos rfl]
    · rw [if_neg (fun z => e (Sum.inr.inj z))]
      exact valD_S ((List.mem_cons.mp h).resolve_left fun z => e z.symm)
theorem valD_none {α : Type} {x : Str} : ∀ {l : List Str} {xs : List α}, x ∉ l → valD (kS l) xs (.inr x) = none
  | [], _, _ => by cases ‹List α› <;> rfl
  | y :: l, [], _ => rfl
  | y :: l, z :: xs, h => by
    show (if (Sum.inr y : Key) = .inr x then some z else valD (kS l) xs (.inr x)) = _
    rw [if_neg (fun e => h (by simp [Sum.inr.inj e]))]
    exact valD_none fun q => h (List.mem_cons_of_mem _ q)
theorem repX_S {α : Type} {f : Str → α} {x : Str} {v : α} : ∀ {l : List Str}, repX (kS l) (l.map f) (.inr x) v = l.map fun y => if y = x then v else f y
  | [] => rfl
  | y :: l => by
    show (if (Sum.inr y : Key) = .inr x then v else f y) :: repX (kS l) (l.map f) (.inr x) v = _
    rw [repX_S]
    by_cases e : y = x
    · subst e; simp
    · rw [if_neg (fun z => e (Sum.inr.inj z))]; simp [e]
theorem putKs_S {l : List Str} {x : Str} (h : x ∈ l) : putKs (kS l) (.inr x) = kS l := by
  unfold putKs; rw [hasK_S, decide_eq_true h]; rfl
theorem putXs_S {α : Type} {f : Str → α} {l : List Str} {x : Str} {v : α} (h : x ∈ l) : putXs (kS l) (l.map f) (.inr x) v = l.map fun y => if y = x then v else f y := by
  unfold putXs; rw [hasK_S, decide_eq_true h, if_pos rfl, repX_S]
theorem putKs_N {l : List Str} {x : Str} (h : x ∉ l) : putKs (kS l) (.inr x) = kS (l ++ [x]) := by
  unfold putKs; rw [hasK_S, decide_eq_false h]; simp
theorem putXs_N {α : Type} {f : Str → α} {l : List Str} {x : Str} (h : x ∉ l) : putXs (kS l) (l.map f) (.inr x) (f x) = (l ++ [x]).map f := by
  unfold putXs; rw [hasK_S, decide_eq_false h]; simp
theorem dfold_S {f : Str → D} : ∀ {l m : List Str}, (m ++ l).Nodup → dfold (kS m, m.map f) l (fun x => .inr x) f = (kS (m ++ l), (m ++ l).map f)
  | [], m, _ => by simp [dfold]
  | x :: l, m, h => by
    have hx : x ∉ m := fun z => (List.nodup_append.mp h).2.2 x z x List.mem_cons_self rfl
    show dfold (putKs (kS m) (.inr x), putXs (kS m) (m.map f) (.inr x) (f x)) l _ f = _
    rw [putKs_N hx, putXs_N hx, dfold_S (by simpa using h)]
    simp
/-- {x: f x for x in l} -/
theorem i_dcS {ρ1 : Sl} {Q : D → Sl → Prop} {g : WG} {wk we : WE} {vs : List Nat} {ds : List D} (l : List Str) (f : Str → D) (hds : ds = l.map D.str) (nd : l.Nodup) (hz : l.length ≤ 1000)
    (hb : ∀ a ∈ l, ∀ P : Key → D → Sl → Prop, P (.inr a) (f a) (wip ρ1 vs) → g (.str a) (wip ρ1 vs) fun ρ2 => wk ρ2 fun x ρ4 => we ρ4 fun r ρ5 => ∃ k y ρ6, keyOf x = some k ∧ fzR ρ5 r = some (y, ρ6) ∧ P k y (wip ρ6 vs)) (q : Q (.dct true (kS l) (l.map f)) (rst ρ1 (wip ρ1 vs) vs)) : dcK g wYes wk we vs ds ρ1 Q :=
  i_dcG l D.str (fun x => .inr x) f hds hz hb (by
    have := dfold_S (f := f) (l := l) (m := []) (by simpa using nd)
    simp only [List.map_nil, List.nil_append] at this
    rw [show (([] : List Key), ([] : List D)) = (kS [], [].map f) from rfl, dfold_S (by simpa using nd)]
    simpa using q)
theorem i_inKS {o : Bool} {l : List Str} {f : Str → D} (h1 : pk ρ y = some (.dct o (kS l) (l.map f))) (q : K (.bl (decide (a ∈ l)))) : oInB ρ (.str a) y K := i_inK h1 rfl (by
  by_cases h : a ∈ l
  · rw [valD_S h]; rw [decide_eq_true h] at q; exact q
  · rw [valD_none h]; rw [decide_eq_false h] at q; exact q)
theorem i_notInKS {o : Bool} {l : List Str} {f : Str → D} (h1 : pk ρ y = some (.dct o (kS l) (l.map f))) (q : K (.bl (!decide (a ∈ l)))) : oNotInB ρ (.str a) y K := i_notInK h1 rfl (by
  by_cases h : a ∈ l
  · rw [valD_S h]; rw [decide_eq_true h] at q; exact q
  · rw [valD_none h]; rw [decide_eq_false h] at q; exact q)
theorem i_ixKS {o : Bool} {l : List Str} {f : Str → D} (h1 : pk ρ x = some (.dct o (kS l) (l.map f))) (h : a ∈ l) (q : K (f a)) : oIxA ρ x (.str a) K := i_ixD h1 rfl (valD_S h) q
theorem i_setKN {k j : Nat} {l : List Str} {f : Str → D} {r : D} {Q : Sl → Prop} (h2 : ρ[k]? = some (some (.dct true (kS l) (l.map f)))) (he : ρ[j]? = some (some (.str a))) (h : a ∉ l) (hf : f a = d) (h1 : fzR ρ r = some (d, ρ)) (h3 : l.length < 16000000) (q : Q (ρ.set k (some (.dct true (kS (l ++ [a])) ((l ++ [a]).map f))))) : gSetA (wVar k) (wVar j) r ρ Q :=
  i_setdV he rfl rfl h1 h2 (by rw [List.length_map]; exact h3) (by rw [putKs_N h, ← hf, putXs_N h]; exact q)
theorem i_setKO {k j : Nat} {l : List Str} {f : Str → D} {r : D} {Q : Sl → Prop} (h2 : ρ[k]? = some (some (.dct true (kS l) (l.map f)))) (he : ρ[j]? = some (some (.str a))) (h : a ∈ l) (h1 : fzR ρ r = some (d, ρ)) (h3 : l.length < 16000000) (q : Q (ρ.set k (some (.dct true (kS l) (l.map fun y => if y = a then d else f y))))) : gSetA (wVar k) (wVar j) r ρ Q :=
  i_setdV he rfl rfl h1 h2 (by rw [List.length_map]; exact h3) (by rw [putKs_S h, putXs_S h]; exact q)
/-! ### instances, locks -/
theorem i_lockE {z : Option (Option D)} {o : Bool} {ks : List Key} {xs : List D} {P : Bool → List Key → List D → Prop} (h : z = some (some (.dct o ks xs))) (q : P o ks xs) : ∃ o ks xs, z = some (some (.dct o ks xs)) ∧ P o ks xs := ⟨o, ks, xs, h, q⟩
theorem i_dk {z : Option (Option D)} {ks : List Key} {xs : List D} {P : List Key → List D → Prop} (h : z = some (some (.dct false ks xs))) (q : P ks xs) : ∃ ks xs, z = some (some (.dct false ks xs)) ∧ P ks xs := ⟨ks, xs, h, q⟩
theorem keys_S {l : List Str} : (kS l).map keyD = l.map D.str := by rw [List.map_map]; rfl
theorem getX_ne {α : Type} {f g : Str} {fs : List Str} {x : α} {xs : List α} (h : decide (g = f) = false) : getX f (g :: fs) (x :: xs) = getX f fs xs := by
  show (if g = f then some x else getX f fs xs) = _
  rw [if_neg (of_decide_eq_false h)]
theorem getX_eq {α : Type} {f : Str} {fs : List Str} {x : α} {xs : List α} : getX f (f :: fs) (x :: xs) = some x := if_pos rfl
theorem putK_new {f : Str} : ∀ {fs : List Str}, (fs.all fun g => decide (g ≠ f)) = true → putK f fs = fs ++ [f]
  | [], _ => rfl
  | g :: fs, h => by
    obtain ⟨h1, h2⟩ := Bool.and_eq_true_iff.mp h
    show (if g = f then _ else _) = _
    rw [if_neg (of_decide_eq_true h1), putK_new h2]; rfl
theorem putX_new {α : Type} {f : Str} {d : α} : ∀ {fs : List Str} {xs : List α}, fs.length = xs.length → (fs.all fun g => decide (g ≠ f)) = true → putX f d fs xs = xs ++ [d]
  | [], [], _, _ => rfl
  | g :: fs, x :: xs, hl, h => by
    obtain ⟨h1, h2⟩ := Bool.and_eq_true_iff.mp h
    show (if g = f then _ else _) = _
    rw [if_neg (of_decide_eq_true h1), putX_new (by simpa using hl) h2]; rfl
theorem i_gattr {k : Nat} {c c0 f : Str} {fs fs0 : List Str} {xs xs0 : List D} {r : D} {Q : Sl → Prop} (h0 : ρ[k]? = some (some (.ins true c0 fs0 xs0))) (h1 : fzR ρ r = some (d, ρ2)) (h2 : ρ2[k]? = some (some (.ins true c fs xs))) (hl : fs.length = xs.length) (h3 : Nat.blt fs.length 1000 = true) (hn : (fs.all fun g => decide (g ≠ f)) = true) (q : Q (ρ2.set k (some (.ins true c (fs ++ [f]) (xs ++ [d]))))) :
    gAttr c f (wVar k) r ρ Q := ⟨_, h0, k, fs, xs, d, ρ2, rfl, h1, h2, Nat.ble_eq.mp h3, by rw [putK_new hn, putX_new hl hn]; exact q⟩
theorem i_isin {c : Str} {o : Bool} {fs : List Str} {xs : List D} {P : Prop} (h1 : pk ρ x = some (.ins o c fs xs)) (q : P) : isIn ρ x c ∧ P := ⟨⟨o, fs, xs, h1⟩, q⟩
theorem i_isins {c m : Str} {o : Bool} {fs : List Str} {xs : List D} {P : Prop} (h1 : pk ρ x = some (.ins o c fs xs)) (h2 : getX m fs xs = none) (q : P) : isIns ρ x c m ∧ P := ⟨⟨o, fs, xs, h1, h2⟩, q⟩
theorem i_js {acc : Str} {P : Str → Prop} (h : (acc ++ a).length ≤ 16000000) (q : P a) : ∃ y, D.str a = .str y ∧ (acc ++ y).length ≤ sizeLine ∧ P y := ⟨a, rfl, Nat.le_trans h (by decide), q⟩
theorem empty_app {a : Str} : Str.empty ++ a = a := by
  cases a
  show (⟨#[] ++ _⟩ : Str) = _
  simp
theorem i_fld {c f : Str} {o : Bool} {fs : List Str} {xs : List D} {P : D → Prop} (h1 : pk ρ x = some (.ins o c fs xs)) (h2 : getX f fs xs = some d) (q : P d) : ∃ o fs xs d, pk ρ x = some (.ins o c fs xs) ∧ getX f fs xs = some d ∧ P d := ⟨o, fs, xs, d, h1, h2, q⟩
theorem i_star {ds : List D} {P : List D → Prop} (h1 : pk ρ x = some d) (h2 : its d = some ds) (q : P ds) : ∃ d ds, pk ρ x = some d ∧ its d = some ds ∧ P ds := ⟨d, ds, h1, h2, q⟩
theorem i_fmt {P : Str → Prop} {R : Prop} (h : a.length ≤ 16000000) (q : P a) : (∃ y, D.str a = .str y ∧ y.length ≤ sizeLine ∧ P y) ∨ R := .inl ⟨a, rfl, Nat.le_trans h (by decide), q⟩
theorem fzRs_str : ∀ {l : List Str}, fzRs ρ (l.map D.str) = some (l.map D.str, ρ)
  | [] => rfl
  | x :: l => by
    show (match fzR ρ (.str x) with
      | some (d, ρ1) => match fzRs ρ1 (l.map D.str) with
        | some (ds, ρ2) => some (d :: ds, ρ2)
        | none => none
      | none => none) = _
    rw [show fzR ρ (.str x) = some (.str x, ρ) from rfl]
    show (match fzRs ρ (l.map D.str) with
        | some (ds, ρ2) => some (D.str x :: ds, ρ2)
        | none => none) = _
    rw [fzRs_str]; rfl
theorem i_dispS {rs : List D} {P : List D → Sl → Prop} (l : List Str) (e : rs = l.map D.str) (hl : l.length ≤ 16000000) (q : P (l.map D.str) ρ) : ∃ ds ρ2, fzRs ρ rs = some (ds, ρ2) ∧ ds.length ≤ sizeLine ∧ P ds ρ2 :=
  ⟨_, ρ, by rw [e]; exact fzRs_str, by rw [List.length_map]; exact Nat.le_trans hl (by decide), q⟩
theorem i_spc {c : Str} {sp : Spd} {q : D → Prop} {K : D → Sl → Prop} (h : isIn ρ x c ∧ callD [] [] 1 sp [] exF (fun r ρ1 => q r ∧ K r ρ1) [x] ρ) : nSpc c sp q ρ [x] K := ⟨x, rfl, h.1, h.2⟩
theorem i_qlen {k : Nat} {P : Prop} (h : k < 1000000) (q : P) : qLen (.int (k : Nat)) ∧ P := ⟨⟨_, rfl, by omega, by omega⟩, q⟩
theorem i_qstr {P : Prop} (q : P) : qStr (.str a) ∧ P := ⟨⟨_, rfl⟩, q⟩
theorem i_qbl {b : Bool} {P : Prop} (q : P) : qBl (.bl b) ∧ P := ⟨⟨_, rfl⟩, q⟩
theorem i_nn {a b : Nat} {P : Prop} (q : P) : a = a ∧ b = b ∧ P := ⟨rfl, rfl, q⟩
theorem i_made {P : D → Prop} (q : P d) : D.non = .non ∧ ∃ x, [d] = [x] ∧ P x := ⟨rfl, d, rfl, q⟩
theorem permL_nil {α : Type} {xs : List α} : permL [] xs = [] := rfl
theorem permL_cons {α : Type} {k : Nat} {is : List Nat} {xs : List α} : permL (k :: is) xs = (match xs[k]? with
  | none => permL is xs
  | some x => x :: permL is xs) := rfl
theorem i_fzs {rs ds : List D} {P : List D → Sl → Prop} (h1 : fzRs ρ rs = some (ds, ρ2)) (q : P ds ρ2) : ∃ ds ρ2, fzRs ρ rs = some (ds, ρ2) ∧ P ds ρ2 := ⟨ds, ρ2, h1, q⟩
end
end M
/-! MH: the head's facts, defs at any address, more Bools. -/
namespace He6
open PySem PySem.Spec PyProof.Rows L2 He He5

def obsM (fa : List Fa) (ex : List (PySem.W.Frag → Bool)) (fn : List DefA) (K : PySem.W.Frag) : He.AlD := ((fa.all fun f => f.ok K) && ((ex.all fun f => f K) && fn.all fun d => d.ok K), fn.map fun d => fnA K (d.at_ K))
def SaysM (fa : List Fa) (ex : List (PySem.W.Frag → Bool)) (fn : List DefA) (K : PySem.W.Frag) : Prop := obsM fa ex fn K = valA fn
def obsMG (n : Nat) (fa : List Fa) (ex : List (PySem.W.Frag → Bool)) (fn : List DefA) (g : Addr → Option Obj) : He.AlD := obsM fa ex fn (frG g (asA g n))
def hookM (n : Nat) (fa : List Fa) (ex : List (PySem.W.Frag → Bool)) (fn : List DefA) : PySem.W.Hook where
  α := He.AlD
  obs := fun s => obsMG n fa ex fn s.heap.get?
  val := fun _ => valA fn
  says := fun _ h => ∃ K : PySem.W.Frag, K.In h ∧ SaysM fa ex fn K
  of := fun _ _ e => ⟨_, frG_in, e⟩
  keeps := fun _ _ _ ⟨K, hK, c⟩ k => ⟨K, PySem.W.Frag.In.keeps hK k, c⟩
theorem obsMG_eq {n : Nat} {fa : List Fa} {ex : List (PySem.W.Frag → Bool)} {fn : List DefA} {g : Addr → Option Obj} {s : Shared} (h : ∀ a, g a = s.heap.get? a) : obsMG n fa ex fn g = (hookM n fa ex fn).obs s := by
  have e : g = s.heap.get? := funext h
  rw [e] <;> rfl
section
variable {fa : List Fa} {ex : List (PySem.W.Frag → Bool)} {fn : List DefA} {K : PySem.W.Frag}
theorem SaysM.bool (c : SaysM fa ex fn K) : ((fa.all fun f => f.ok K) && ((ex.all fun f => f K) && fn.all fun d => d.ok K)) = true := congrArg (fun z : He.AlD => z.1) c
theorem SaysM.fact (c : SaysM fa ex fn K) (i : Nat) {f : Fa} (h : fa[i]? = some f := by rfl) : f.ok K = true := List.all_eq_true.mp (ba c.bool).1 f (List.mem_of_getElem? h)
theorem SaysM.more (c : SaysM fa ex fn K) (i : Nat) {f : PySem.W.Frag → Bool} (h : ex[i]? = some f := by rfl) : f K = true := List.all_eq_true.mp (ba (ba c.bool).2).1 f (List.mem_of_getElem? h)
theorem SaysM.def_ (c : SaysM fa ex fn K) (i : Nat) {d : DefA} (h : fn[i]? = some d := by rfl) : ∃ fd, L2.FunD K d.name d.qual d.params d.body d.scope (d.dvs K) (d.kws K) (d.at_ K) fd := by
  have e : fn.map (fun d => fnA K (d.at_ K)) = fn.map DefA.val := congrArg (fun z : He.AlD => z.2) c
  have e2 : (fn.map fun d => fnA K (d.at_ K))[i]? = (fn.map DefA.val)[i]? := by rw [e]
  rw [List.getElem?_map, List.getElem?_map, h] at e2
  exact DefA.funD (Option.some.inj e2) (List.all_eq_true.mp (ba (ba c.bool).2).2 d (List.mem_of_getElem? h))
end
/-- the getter of a property -/
def gAd (K : PySem.W.Frag) (C f : Str) : Addr := match PySem.W.recIn K (ma K (ga K C) f) "property" with
  | some (.ref g :: _) => g
  | _ => 0
def propB (C f : Str) (K : PySem.W.Frag) : Bool := eqO (PySem.W.findIn K (.ref (ga K C)) f) (some (some (.ref (ma K (ga K C) f)))) && (eqO (PySem.W.specialIn K (.ref (ma K (ga K C) f)) "__get__") (some (some (.builtin "property.__get__"))) &&
  (decide (PySem.W.takesIn K (.ref (ma K (ga K C) f)) = some true) && match PySem.W.recIn K (ma K (ga K C) f) "property" with
  | some (.ref _ :: _) => true
  | _ => false))
theorem propB_ok {K : PySem.W.Frag} {C f : Str} (h : propB C f K = true) : PropOf K (ga K C) f (ma K (ga K C) f) (gAd K C f) := by
  obtain ⟨h1, h⟩ := ba h
  obtain ⟨h2, h⟩ := ba h
  obtain ⟨h3, h4⟩ := ba h
  refine ⟨eqO_ok h1, eqO_ok h2, of_decide_eq_true h3, ?_⟩
  unfold gAd
  split at h4
  · rename_i g r e
    rw [e]
    exact ⟨r, rfl⟩
  · cases h4
def fnB (C m : Str) (K : PySem.W.Frag) : Bool := PySem.W.fnIn K (ma K (ga K C) m)
/-- a tuple without items -/
def nilB (p : PySem.W.Frag → Addr) (K : PySem.W.Frag) : Bool := match K.lookup (p K) with
  | some ⟨.type c, _, .seq its _, _⟩ => decide (c = "tuple") && decide (its.size = 0)
  | _ => false
theorem nilB_ok {K : PySem.W.Frag} {p : PySem.W.Frag → Addr} (h : nilB p K = true) (H : Hp) : SqT K H (p K) [] := by
  unfold nilB at h
  cases q : K.lookup (p K) with
  | none => rw [q] at h; cases h
  | some o =>
    obtain ⟨oc, od, dt, osl⟩ := o
    rw [q] at h
    cases oc with
    | type c =>
      cases dt with
      | seq its n =>
        obtain ⟨h1, h2⟩ := ba (show (decide (c = "tuple") && decide (its.size = 0)) = true from h)
        have e : its = #[] := Array.eq_empty_of_size_eq_zero (of_decide_eq_true h2)
        subst e
        exact .inr ⟨_, #[], n, q, congrArg Value.type (of_decide_eq_true h1), rfl, Nat.zero_le _, .nil⟩
      | _ => cases h
    | _ => cases dt <;> cases h
end He6
namespace M
open PySem PySem.Spec PyProof.Rows L2
theorem vals_at : ∀ {vs : List V} {us : List Value}, Vals vs us → ∀ i : Nat, (∃ v u, vs[i]? = some v ∧ us[i]? = some u ∧ RelV v u) ∨ (vs[i]? = none ∧ us[i]? = none)
  | [], [], .nil, i => .inr ⟨by simp, by simp⟩
  | v :: vs, u :: us, .cons r t, 0 => .inl ⟨v, u, rfl, rfl, r⟩
  | v :: vs, u :: us, .cons r t, i + 1 => by simpa using vals_at t i
theorem vals_perm {vs : List V} {us : List Value} (h : Vals vs us) : ∀ is : List Nat, Vals (permL is vs) (permL is us)
  | [] => .nil
  | i :: is => by
    rw [permL_cons, permL_cons]
    rcases vals_at h i with ⟨v, u, e1, e2, r⟩ | ⟨e1, e2⟩
    · rw [e1, e2]; exact .cons r (vals_perm h is)
    · rw [e1, e2]; exact vals_perm h is
theorem vals_app : ∀ {vs vs' : List V} {us us' : List Value}, Vals vs us → Vals vs' us' → Vals (vs ++ vs') (us ++ us')
  | _, _, _, _, .nil, h => h
  | _, _, _, _, .cons r t, h => .cons r (vals_app t h)
theorem vals_take1 {vs : List V} {us : List Value} (h : Vals vs us) : Vals (vs.take 1) (us.take 1) := by
  cases h with
  | nil => exact .nil
  | cons r t => simp; exact .cons r .nil
theorem vals_drop1 {vs : List V} {us : List Value} (h : Vals vs us) : Vals (vs.drop 1) (us.drop 1) := by
  cases h with
  | nil => exact .nil
  | cons r t => exact t
/-- an instance made: the defaults it wants are not taken, or all of them -/
def gMk {α : Type} (is : List Nat) (dflt : Bool) (us its ws : List α) : List α := us.take 1 ++ permL is (us.drop 1 ++ ws ++ (if dflt then its else []))
theorem gMk_rel {is : List Nat} {dflt : Bool} {vs ds zs : List V} {us its ws : List Value} (h1 : Vals vs us) (h2 : Vals ds its) (h3 : Vals zs ws) : Vals (gMk is dflt vs ds zs) (gMk is dflt us its ws) := by
  unfold gMk
  cases dflt
  · exact vals_app (vals_take1 h1) (vals_perm (vals_app (vals_app (vals_drop1 h1) h3) .nil) is)
  · exact vals_app (vals_take1 h1) (vals_perm (vals_app (vals_app (vals_drop1 h1) h3) h2) is)
/-- a law's call, over data -/
theorem law_end {K : PySem.W.Frag} {ca : Str → Addr} {sp : Spd} {H : Hp} {a : Addr} {ns : List Int} (hS : (∃ o, H a = some (.frz o (.lst (ns.map V.int)))) ∨ SqL K (fun _ => none) a (ns.map V.int)) (h : sp [.scr ns] (fun r _ => r = .bl true) fun _ _ _ => False) :
    lift K ca [] sp [.ref a] H (fun v _ => v = .bl true) fun _ _ _ => False := by
  refine ⟨fun _ => False, [.scr ns], [], _, _, .cons (fp := []) (fq := []) (.scr hS) .nil, List.nodup_nil, fun _ z => z.elim, fun i d e _ => ?_, h, ?_, ?_⟩
  · match i, e with
    | 0, e => cases e; rfl
  · rintro v H' F' r fr os fo _ _ _ rp _ q
    cases (show r = .bl true from q)
    cases rp
    rfl
  · rintro c x H' F' fs us xs _ _ _ _ _ z
    exact z.elim
end M
/-! B1: plans in plain Lean. -/
namespace L
open PySem PySem.Spec PyProof.Rows L2 M

/-- a name: up to eight letters and digits, a letter first -/
abbrev Sign (c : Nat) : Prop := (97 ≤ c ∧ c ≤ 122) ∨ (48 ≤ c ∧ c ≤ 57)
def NameOk (x : Str) : Prop := ∃ c l, x.cps.toList = c :: l ∧ l.length ≤ 7 ∧ (97 ≤ c ∧ c ≤ 122) ∧ ∀ d ∈ l, Sign d
theorem NameOk.signs {x : Str} (h : NameOk x) : ∀ c ∈ x.cps.toList, Sign c := by
  obtain ⟨c, l, e, _, hc, hl⟩ := h
  intro d hd
  rw [e] at hd
  rcases List.mem_cons.mp hd with z | z
  · subst z; exact .inl hc
  · exact hl d z
theorem NameOk.len {x : Str} (h : NameOk x) : 1 ≤ x.length ∧ x.length ≤ 8 := by
  obtain ⟨c, l, e, hl, _, _⟩ := h
  show 1 ≤ x.cps.size ∧ x.cps.size ≤ 8
  rw [← Array.length_toList, e, List.length_cons]
  omega
theorem str_ext {x y : Str} (h : x.cps.toList = y.cps.toList) : x = y := by
  cases x; cases y
  simp at h
  rw [h]
theorem app_l (x y : Str) : (x ++ y).cps.toList = x.cps.toList ++ y.cps.toList := by
  show (x.cps ++ y.cps).toList = _
  rw [Array.toList_append]
theorem app_len (x y : Str) : (x ++ y).length = x.length + y.length := by
  show (x.cps ++ y.cps).size = x.cps.size + y.cps.size
  rw [Array.size_append]
/-- one sign behind a text -/
theorem app_one {x y a b : Str} {c d : Nat} (ha : a.cps.toList = [c]) (hb : b.cps.toList = [d]) (h : x ++ a = y ++ b) : x = y ∧ c = d := by
  have q := congrArg (fun s : Str => s.cps.toList) h
  simp only [app_l, ha, hb] at q
  have := List.append_inj' q rfl
  exact ⟨str_ext this.1, by simpa using this.2⟩
theorem len_plus : ("+" : Str).length = 1 := by decide +kernel
theorem len_minus : ("-" : Str).length = 1 := by decide +kernel
theorem len_gt : (">" : Str).length = 1 := by decide +kernel
theorem len_places : ("places " : Str).length = 7 := by decide +kernel
theorem plus_l : ("+" : Str).cps.toList = [43] := by decide +kernel
theorem minus_l : ("-" : Str).cps.toList = [45] := by decide +kernel
theorem NameOk.not_one {x y a : Str} {c : Nat} (h : NameOk x) (ha : a.cps.toList = [c]) (hc : ¬ Sign c) : x ≠ y ++ a := fun e => by
  refine hc (h.signs c ?_)
  rw [e, app_l, ha]
  simp
theorem NameOk.not_plus {x y : Str} (h : NameOk x) : x ≠ y ++ "+" := h.not_one plus_l (by decide)
theorem NameOk.not_minus {x y : Str} (h : NameOk x) : x ≠ y ++ "-" := h.not_one minus_l (by decide)
theorem plus_inj {x y : Str} (h : x ++ "+" = y ++ "+") : x = y := (app_one plus_l plus_l h).1
theorem minus_inj {x y : Str} (h : x ++ "-" = y ++ "-") : x = y := (app_one minus_l minus_l h).1
theorem plus_minus {x y : Str} : x ++ "+" ≠ y ++ ("-" : Str) := fun h => by have := (app_one plus_l minus_l h).2; omega

/-- a match: its name, its sources -/
abbrev Game := Str × Str × Str
/-- the sources that are there behind a match -/
def stepG (th : List Str) (g : Game) : List Str := (th.filter fun s => decide (¬ (s = g.2.1 ∨ s = g.2.2))) ++ [g.1 ++ "+", g.1 ++ "-"]
def GamesOk : List Str → List Str → List Game → Prop
  | _, _, [] => True
  | ns, th, g :: gs => (NameOk g.1 ∧ g.1 ∉ ns ∧ g.2.1 ∈ th ∧ g.2.2 ∈ th ∧ g.2.1 ≠ g.2.2) ∧ GamesOk (ns ++ [g.1]) (stepG th g) gs
def endsOf (th : List Str) (gs : List Game) : List Str := gs.foldl stepG th
theorem endsOf_snoc (th : List Str) (gs : List Game) (g : Game) : endsOf th (gs ++ [g]) = stepG (endsOf th gs) g := by
  unfold endsOf; rw [List.foldl_append]; rfl
theorem GamesOk.snoc : ∀ {gs : List Game} {ns th : List Str} {g : Game}, GamesOk ns th gs → NameOk g.1 → g.1 ∉ ns ++ gs.map (·.1) → g.2.1 ∈ endsOf th gs → g.2.2 ∈ endsOf th gs → g.2.1 ≠ g.2.2 → GamesOk ns th (gs ++ [g])
  | [], ns, th, g, _, h1, h2, h3, h4, h5 => ⟨⟨h1, by simpa using h2, h3, h4, h5⟩, trivial⟩
  | x :: gs, ns, th, g, h, h1, h2, h3, h4, h5 => ⟨h.1, GamesOk.snoc h.2 h1 (by simpa [List.append_assoc] using h2) h3 h4 h5⟩
/-- what is known of the sources that are there -/
structure Srcs (ns th : List Str) : Prop where
  nm : ∀ n ∈ ns, NameOk n
  nd : th.Nodup
  of : ∀ s ∈ th, s ∈ ns ∨ ∃ n ∈ ns, s = n ++ "+" ∨ s = n ++ "-"
theorem Srcs.start {ns : List Str} (h : ∀ n ∈ ns, NameOk n) (nd : ns.Nodup) : Srcs ns ns := ⟨h, nd, fun s hs => .inl hs⟩
theorem Srcs.fresh {ns th : List Str} (h : Srcs ns th) {x : Str} (hx : NameOk x) (hn : x ∉ ns) : x ++ "+" ∉ th ∧ x ++ "-" ∉ th := by
  refine ⟨fun z => ?_, fun z => ?_⟩
  · rcases h.of _ z with y | ⟨n, hn', e | e⟩
    · exact (h.nm _ y).not_plus rfl
    · exact hn (plus_inj e ▸ hn')
    · exact plus_minus e
  · rcases h.of _ z with y | ⟨n, hn', e | e⟩
    · exact (h.nm _ y).not_minus rfl
    · exact plus_minus e.symm
    · exact hn (minus_inj e ▸ hn')
theorem Srcs.step {ns th : List Str} (h : Srcs ns th) {g : Game} (hx : NameOk g.1) (hn : g.1 ∉ ns) : Srcs (ns ++ [g.1]) (stepG th g) where
  nm := fun n hn => by
    rcases List.mem_append.mp hn with z | z
    · exact h.nm n z
    · rw [List.mem_singleton.mp z]; exact hx
  nd := by
    obtain ⟨f1, f2⟩ := h.fresh hx hn
    unfold stepG
    refine List.nodup_append.mpr ⟨h.nd.filter _, ?_, ?_⟩
    · simp [plus_minus]
    · intro a ha b hb e
      subst e
      have := (List.mem_filter.mp ha).1
      simp at hb
      rcases hb with rfl | rfl
      · exact f1 this
      · exact f2 this
  of := fun s hs => by
    unfold stepG at hs
    rcases List.mem_append.mp hs with z | z
    · rcases h.of s (List.mem_filter.mp z).1 with y | ⟨n, hn', e⟩
      · exact .inl (List.mem_append_left _ y)
      · exact .inr ⟨n, List.mem_append_left _ hn', e⟩
    · simp at z
      exact .inr ⟨g.1, by simp, z⟩
theorem Srcs.games : ∀ {gs : List Game} {ns th : List Str}, Srcs ns th → GamesOk ns th gs → Srcs (ns ++ gs.map (·.1)) (endsOf th gs)
  | [], ns, th, h, _ => by simpa [endsOf] using h
  | g :: gs, ns, th, h, k => by
    have := Srcs.games (h.step k.1.1 k.1.2.1) k.2
    simpa [List.append_assoc, endsOf] using this
theorem erase_filter {α : Type} [DecidableEq α] : ∀ {l : List α} {m : Nat} (hm : m < l.length), l.Nodup → l.eraseIdx m = l.filter fun s => decide (¬ s = l[m])
  | x :: l, 0, _, h => by
    obtain ⟨h1, h2⟩ := List.nodup_cons.mp h
    simp
    refine (List.filter_eq_self.mpr fun a ha => ?_).symm
    have : a ≠ x := fun e => h1 (e ▸ ha)
    simpa using this
  | x :: l, m + 1, hm, h => by
    obtain ⟨h1, h2⟩ := List.nodup_cons.mp h
    have hm' : m < l.length := by simpa using hm
    have : ¬ x = l[m] := fun e => h1 (e ▸ List.getElem_mem hm')
    have ih := erase_filter hm' h2
    simp [this] at ih ⊢
    exact ih
/-- two sources taken, one behind the other -/
theorem pop2 {l : List Str} {m n : Nat} (nd : l.Nodup) (hm : m < l.length) (hn : n < (l.eraseIdx m).length) : l[m] ∈ l ∧ (l.eraseIdx m)[n] ∈ l ∧ l[m] ≠ (l.eraseIdx m)[n] ∧ (l.eraseIdx m).eraseIdx n = l.filter fun s => decide (¬ (s = l[m] ∨ s = (l.eraseIdx m)[n])) := by
  have e := erase_filter hm nd
  have nd2 : (l.eraseIdx m).Nodup := by rw [e]; exact nd.filter _
  have hb := List.getElem_mem hn
  have hb' : (l.eraseIdx m)[n] ∈ l.filter fun s => decide (¬ s = l[m]) := by rw [← e]; exact hb
  obtain ⟨h1, h2⟩ := List.mem_filter.mp hb'
  refine ⟨List.getElem_mem hm, h1, fun z => (of_decide_eq_true h2) z.symm, ?_⟩
  rw [erase_filter hn nd2]
  generalize (l.eraseIdx m)[n] = b
  rw [e, List.filter_filter]
  refine List.filter_congr fun x _ => ?_
  by_cases h1 : x = l[m] <;> by_cases h2 : x = b <;> simp [h1, h2]
theorem flen {α : Type} (p : α → Bool) : ∀ l : List α, (l.filter p).length + (l.filter fun x => !p x).length = l.length
  | [] => rfl
  | x :: l => by
    have ih := flen p l
    cases h : p x <;> simp [h] <;> omega
/-- the number of sources stays -/
theorem filter2_len {l : List Str} {a b : Str} (nd : l.Nodup) (ha : a ∈ l) (hb : b ∈ l) (hab : a ≠ b) : (l.filter fun s => decide (¬ (s = a ∨ s = b))).length + 2 = l.length := by
  have h1 := flen (fun s => decide (s = a ∨ s = b)) l
  have h2 : (l.filter fun s => decide (s = a ∨ s = b)).Perm [a, b] := by
    refine (List.perm_ext_iff_of_nodup (nd.filter _) (by simp [hab])).mpr fun x => ?_
    simp
    intro h
    rcases h with rfl | rfl <;> assumption
  have h3 := h2.length_eq
  have h4 : (l.filter fun s => !decide (s = a ∨ s = b)) = l.filter fun s => decide (¬ (s = a ∨ s = b)) := List.filter_congr fun x _ => (decide_not).symm
  rw [h4] at h1
  simp only [List.length_cons, List.length_nil] at h3
  omega
theorem stepG_len {ns th : List Str} {g : Game} (h : Srcs ns th) (h1 : g.2.1 ∈ th) (h2 : g.2.2 ∈ th) (h3 : g.2.1 ≠ g.2.2) : (stepG th g).length = th.length := by
  unfold stepG
  have := filter2_len h.nd h1 h2 h3
  simp only [List.length_append, List.length_cons, List.length_nil]
  omega
theorem ends_len : ∀ {gs : List Game} {ns th : List Str}, Srcs ns th → GamesOk ns th gs → (endsOf th gs).length = th.length
  | [], ns, th, h, _ => rfl
  | g :: gs, ns, th, h, k => by
    have := ends_len (h.step k.1.1 k.1.2.1) k.2
    show (endsOf (stepG th g) gs).length = _
    rw [this, stepG_len h k.1.2.2.1 k.1.2.2.2.1 k.1.2.2.2.2]
/-- a plan's parts -/
structure Pn where
  folk : List Str
  games : List Game
  places : List (List Str)
  facts : List (Str × Str)
def Pn.ends (p : Pn) : List Str := endsOf p.folk p.games
/-- the facts are the case for this order -/
def Has (order : List Str) (facts : List (Str × Str)) : Prop := ∀ f ∈ facts, [f.1, f.2].Sublist order
structure Folk (l : List Str) : Prop where
  ge : 2 ≤ l.length
  le : l.length ≤ 8
  nm : ∀ x ∈ l, NameOk x
  nd : l.Nodup
structure PlanOk (p : Pn) : Prop where
  folk : Folk p.folk
  games : GamesOk p.folk p.folk p.games
  gge : 1 ≤ p.games.length
  gle : p.games.length ≤ 24
  pne : ∀ g ∈ p.places, g ≠ []
  plc : p.places.flatten.Perm p.ends
  fle : p.facts.length ≤ 12
  fnd : p.facts.Nodup
  fok : ∃ o : List Str, o.Perm p.folk ∧ Has o p.facts
/-! ### as data -/
abbrev eS : Str → D := D.str
abbrev eG (g : Game) : D := .tup [.str g.1, .str g.2.1, .str g.2.2]
abbrev eF (f : Str × Str) : D := .tup [.str f.1, .str f.2]
abbrev eL (l : List Str) : D := .lst false (l.map D.str)
abbrev eP (l : List Str) : D := .tup (l.map D.str)
end L
/-! B2: pairs, permutations, texts in plain Lean. -/
namespace L
open PySem PySem.Spec PyProof.Rows L2 M
theorem perm_map_ex {α β : Type} {f : α → β} {ys zs : List β} (h : ys.Perm zs) : ∀ l : List α, zs = l.map f → ∃ l' : List α, l'.Perm l ∧ ys = l'.map f := by
  induction h with
  | nil => intro l e; exact ⟨[], by cases l <;> simp_all, rfl⟩
  | cons x _ ih =>
    intro l e
    cases l with
    | nil => cases e
    | cons a l =>
      simp only [List.map_cons, List.cons.injEq] at e
      obtain ⟨l', h1, h2⟩ := ih l e.2
      exact ⟨a :: l', h1.cons a, by simp [h2, e.1]⟩
  | swap x y l0 =>
    intro l e
    match l, e with
    | a :: b :: l, e =>
      simp only [List.map_cons, List.cons.injEq] at e
      exact ⟨b :: a :: l, List.Perm.swap _ _ _, by simp [e.1, e.2.1, e.2.2]⟩
  | trans _ _ ih1 ih2 =>
    intro l e
    obtain ⟨l2, h1, h2⟩ := ih2 l e
    obtain ⟨l1, h3, h4⟩ := ih1 l2 h2
    exact ⟨l1, h3.trans h1, h4⟩
/-- all pairs of a line, the earlier one first -/
def pairsOf : List Str → List (Str × Str)
  | [] => []
  | x :: l => l.map (fun y => (x, y)) ++ pairsOf l
theorem pairs_mem : ∀ {l : List Str} {f : Str × Str}, f ∈ pairsOf l → [f.1, f.2].Sublist l
  | x :: l, f, h => by
    rcases List.mem_append.mp h with z | z
    · obtain ⟨y, hy, rfl⟩ := List.mem_map.mp z
      exact (List.singleton_sublist.mpr hy).cons₂ x
    · exact (pairs_mem z).cons x
theorem pairs_nd : ∀ {l : List Str}, l.Nodup → (pairsOf l).Nodup
  | [], _ => List.nodup_nil
  | x :: l, h => by
    obtain ⟨h1, h2⟩ := List.nodup_cons.mp h
    refine List.nodup_append.mpr ⟨?_, pairs_nd h2, fun a ha b hb e => ?_⟩
    · rw [List.nodup_iff_pairwise_ne] at h2 ⊢
      exact List.Pairwise.map _ (fun a b hab e => hab (Prod.mk.inj e).2) h2
    · subst e
      obtain ⟨y, hy, rfl⟩ := List.mem_map.mp ha
      exact h1 ((pairs_mem hb).subset (by simp))
theorem pairs_len : ∀ l : List Str, (pairsOf l).length ≤ l.length * l.length
  | [] => Nat.le_refl _
  | x :: l => by
    have := pairs_len l
    simp only [pairsOf, List.length_append, List.length_map, List.length_cons]
    have e : (l.length + 1) * (l.length + 1) = l.length * l.length + l.length + l.length + 1 := by
      rw [Nat.add_mul, Nat.mul_add]; omega
    omega
theorem groups_len {α : Type} : ∀ {gs : List (List α)}, (∀ g ∈ gs, g ≠ []) → gs.length ≤ gs.flatten.length
  | [], _ => Nat.le_refl _
  | g :: gs, h => by
    have h2 := List.length_pos_iff.mpr (h g List.mem_cons_self)
    have h3 := groups_len fun x hx => h x (List.mem_cons_of_mem _ hx)
    simp only [List.length_cons, List.flatten_cons, List.length_append]
    omega
theorem set_last {α : Type} {l : List α} {x v : α} : (l ++ [x]).set ((l ++ [x]).length - 1) v = l ++ [v] := by
  rw [List.length_append, List.set_append_right _ _ (by simp)]
  simp
theorem drop_pairs {l : List Str} {i : Nat} (h : i < l.length) : pairsOf (l.drop i) = (l.drop (i + 1)).map (fun y => (l[i], y)) ++ pairsOf (l.drop (i + 1)) := by
  rw [List.drop_eq_getElem_cons h]; rfl
end L
/-! B3: texts of plans in plain Lean. -/
namespace L
open PySem PySem.Spec PyProof.Rows L2 M

abbrev jn (a : Str) (l : List Str) : Str := Str.join a l
def totl (l : List Str) : Nat := (l.map (·.length)).sum
theorem jn_len (a : Str) : ∀ l : List Str, (jn a l).length ≤ totl l + l.length * a.length
  | [] => Nat.zero_le _
  | [x] => by simp [jn, Str.join, totl]
  | x :: y :: r => by
    have ih := jn_len a (y :: r)
    have e : jn a (x :: y :: r) = x ++ a ++ jn a (y :: r) := rfl
    rw [e, app_len, app_len]
    have t : totl (x :: y :: r) = x.length + totl (y :: r) := by simp [totl]
    rw [t]
    simp only [List.length_cons] at ih ⊢
    rw [Nat.add_mul (r.length + 1) 1]
    omega
theorem totl_le {m : Nat} : ∀ {l : List Str}, (∀ x ∈ l, x.length ≤ m) → totl l ≤ l.length * m
  | [], _ => Nat.zero_le _
  | x :: l, h => by
    have ih := totl_le fun y hy => h y (List.mem_cons_of_mem _ hy)
    have t : totl (x :: l) = x.length + totl l := by simp [totl]
    have := h x List.mem_cons_self
    rw [t, List.length_cons, Nat.add_mul]
    omega
/-- a joined row of n short texts -/
theorem jn_le {a : Str} {l : List Str} {n m k : Nat} (hn : l.length ≤ n) (hm : ∀ x ∈ l, x.length ≤ m) (ha : a.length ≤ k) : totl l + l.length * a.length ≤ n * m + n * k ∧ (jn a l).length ≤ n * m + n * k := by
  have h1 := totl_le hm
  have h2 : l.length * m ≤ n * m := Nat.mul_le_mul hn (Nat.le_refl _)
  have h3 : l.length * a.length ≤ n * k := Nat.mul_le_mul hn ha
  have h4 := jn_len a l
  omega
def gameRow (g : Game) : Str := jn " " [g.1, g.2.1, g.2.2]
def factW (f : Str × Str) : Str := f.1 ++ ">" ++ f.2
def placesRow (ps : List (List Str)) : Str := "places " ++ jn " / " (ps.map (jn " "))
def entriesRow (l : List Str) : Str := jn " " ("entries" :: l)
def knownRow (fs : List (Str × Str)) : Str := jn " " ("known" :: fs.map factW)
def rowsOf (p : Pn) : List Str := (entriesRow p.folk :: p.games.map gameRow) ++ [placesRow p.places] ++ if p.facts = [] then [] else [knownRow p.facts]
def textOf (p : Pn) : Str := jn "\n" (rowsOf p)
theorem Srcs.len {ns th : List Str} (h : Srcs ns th) {s : Str} (hs : s ∈ th) : s.length ≤ 9 := by
  rcases h.of s hs with z | ⟨n, hn, rfl | rfl⟩
  · have := (h.nm s z).len; omega
  · have := (h.nm n hn).len; rw [app_len, len_plus]; omega
  · have := (h.nm n hn).len; rw [app_len, len_minus]; omega
theorem GamesOk.len : ∀ {gs : List Game} {ns th : List Str}, Srcs ns th → GamesOk ns th gs → ∀ g ∈ gs, g.1.length ≤ 8 ∧ g.2.1.length ≤ 9 ∧ g.2.2.length ≤ 9
  | g :: gs, ns, th, h, k, x, hx => by
    rcases List.mem_cons.mp hx with rfl | z
    · exact ⟨k.1.1.len.2, h.len k.1.2.2.1, h.len k.1.2.2.2.1⟩
    · exact GamesOk.len (h.step k.1.1 k.1.2.1) k.2 x z
section
variable {p : Pn}
theorem PlanOk.srcs (h : PlanOk p) : Srcs p.folk p.folk := Srcs.start h.folk.nm h.folk.nd
theorem PlanOk.srcsE (h : PlanOk p) : Srcs (p.folk ++ p.games.map (·.1)) p.ends := h.srcs.games h.games
theorem PlanOk.elen (h : PlanOk p) : p.ends.length = p.folk.length := ends_len h.srcs h.games
theorem PlanOk.plen (h : PlanOk p) : p.places.length ≤ 8 ∧ p.places.flatten.length ≤ 8 := by
  have h1 := groups_len h.pne
  have h2 := h.plc.length_eq
  have h3 := h.elen
  have h4 := h.folk.le
  omega
theorem PlanOk.gmem (h : PlanOk p) {g : List Str} (hg : g ∈ p.places) : g.length ≤ 8 ∧ ∀ x ∈ g, x.length ≤ 9 := by
  have hs : g.Sublist p.places.flatten := List.sublist_flatten_of_mem hg
  refine ⟨?_, fun x hx => h.srcsE.len (h.plc.subset (hs.subset hx))⟩
  have := hs.length_le
  have := h.plen
  omega
theorem PlanOk.pne0 (h : PlanOk p) : p.places ≠ [] := fun e => by
  have h2 := h.plc.length_eq
  rw [e] at h2
  have h3 := h.elen
  have h4 := h.folk.ge
  simp at h2
  omega
theorem Has.mem {o : List Str} {fs : List (Str × Str)} (h : Has o fs) {f : Str × Str} (hf : f ∈ fs) : f.1 ∈ o ∧ f.2 ∈ o := by
  have := (h f hf).subset
  exact ⟨this (by simp), this (by simp)⟩
theorem PlanOk.fmem (h : PlanOk p) {f : Str × Str} (hf : f ∈ p.facts) : f.1 ∈ p.folk ∧ f.2 ∈ p.folk := by
  obtain ⟨o, ho, hh⟩ := h.fok
  exact ⟨ho.subset (hh.mem hf).1, ho.subset (hh.mem hf).2⟩
theorem len_sp : (" " : Str).length = 1 := by decide +kernel
theorem len_sl : (" / " : Str).length = 3 := by decide +kernel
theorem len_nl : ("\n" : Str).length = 1 := by decide +kernel
theorem len_entries : ("entries" : Str).length = 7 := by decide +kernel
theorem len_known : ("known" : Str).length = 5 := by decide +kernel
theorem PlanOk.entries_le (h : PlanOk p) : totl (("entries" : Str) :: p.folk) + (("entries" : Str) :: p.folk).length * (" " : Str).length ≤ 90 ∧ (entriesRow p.folk).length ≤ 90 := by
  have := jn_le (a := " ") (l := ("entries" : Str) :: p.folk) (n := 9) (m := 8) (k := 1) (by have := h.folk.le; simp; omega) (fun x hx => by
    rcases List.mem_cons.mp hx with rfl | z
    · rw [len_entries]; omega
    · exact (h.folk.nm x z).len.2) (by rw [len_sp]; omega)
  exact ⟨Nat.le_trans this.1 (by omega), Nat.le_trans this.2 (by omega)⟩
theorem gameRow_le {g : Game} (h : g.1.length ≤ 8 ∧ g.2.1.length ≤ 9 ∧ g.2.2.length ≤ 9) : totl [g.1, g.2.1, g.2.2] + [g.1, g.2.1, g.2.2].length * (" " : Str).length ≤ 90 ∧ (gameRow g).length ≤ 90 := by
  have := jn_le (a := " ") (l := [g.1, g.2.1, g.2.2]) (n := 3) (m := 9) (k := 1) (by simp) (fun x hx => by
    simp at hx
    rcases hx with rfl | rfl | rfl <;> omega) (by rw [len_sp]; omega)
  exact ⟨Nat.le_trans this.1 (by omega), Nat.le_trans this.2 (by omega)⟩
theorem PlanOk.game_le (h : PlanOk p) {g : Game} (hg : g ∈ p.games) : totl [g.1, g.2.1, g.2.2] + [g.1, g.2.1, g.2.2].length * (" " : Str).length ≤ 90 ∧ (gameRow g).length ≤ 90 := gameRow_le (h.games.len h.srcs g hg)
theorem PlanOk.group_le (h : PlanOk p) {g : List Str} (hg : g ∈ p.places) : totl g + g.length * (" " : Str).length ≤ 90 ∧ (jn " " g).length ≤ 90 := by
  have := jn_le (a := " ") (n := 8) (m := 9) (k := 1) (h.gmem hg).1 (h.gmem hg).2 (by rw [len_sp]; omega)
  exact ⟨Nat.le_trans this.1 (by omega), Nat.le_trans this.2 (by omega)⟩
theorem PlanOk.places_le (h : PlanOk p) : totl (p.places.map (jn " ")) + (p.places.map (jn " ")).length * (" / " : Str).length ≤ 800 ∧ (jn " / " (p.places.map (jn " "))).length ≤ 800 := by
  have := jn_le (a := " / ") (l := p.places.map (jn " ")) (n := 8) (m := 90) (k := 3) (by rw [List.length_map]; exact h.plen.1) (fun x hx => by
    obtain ⟨g, hg, rfl⟩ := List.mem_map.mp hx
    exact (h.group_le hg).2) (by rw [len_sl]; omega)
  exact ⟨Nat.le_trans this.1 (by omega), Nat.le_trans this.2 (by omega)⟩
theorem PlanOk.fact_le (h : PlanOk p) {f : Str × Str} (hf : f ∈ p.facts) : f.1.length ≤ 8 ∧ f.2.length ≤ 8 ∧ (factW f).length ≤ 17 := by
  have h1 := (h.folk.nm _ (h.fmem hf).1).len
  have h2 := (h.folk.nm _ (h.fmem hf).2).len
  unfold factW
  rw [app_len, app_len, len_gt]
  omega
theorem PlanOk.known_le (h : PlanOk p) : totl (("known" : Str) :: p.facts.map factW) + (("known" : Str) :: p.facts.map factW).length * (" " : Str).length ≤ 300 ∧ (knownRow p.facts).length ≤ 300 := by
  have := jn_le (a := " ") (l := ("known" : Str) :: p.facts.map factW) (n := 13) (m := 17) (k := 1) (by have := h.fle; simp; omega) (fun x hx => by
    rcases List.mem_cons.mp hx with rfl | z
    · rw [len_known]; omega
    · obtain ⟨f, hf, rfl⟩ := List.mem_map.mp z
      exact (h.fact_le hf).2.2) (by rw [len_sp]; omega)
  exact ⟨Nat.le_trans this.1 (by omega), Nat.le_trans this.2 (by omega)⟩
theorem PlanOk.rows_le (h : PlanOk p) : (rowsOf p).length ≤ 27 ∧ ∀ r ∈ rowsOf p, r.length ≤ 900 := by
  have hg := h.gle
  constructor
  · unfold rowsOf
    split <;> simp <;> omega
  · intro r hr
    unfold rowsOf at hr
    rcases List.mem_append.mp hr with z | z
    · rcases List.mem_append.mp z with z | z
      · rcases List.mem_cons.mp z with rfl | z
        · exact Nat.le_trans h.entries_le.2 (by omega)
        · obtain ⟨g, hg, rfl⟩ := List.mem_map.mp z
          exact Nat.le_trans (h.game_le hg).2 (by omega)
      · rw [List.mem_singleton.mp z]
        unfold placesRow
        rw [app_len, len_places]
        have := h.places_le.2
        omega
    · split at z
      · cases z
      · rw [List.mem_singleton.mp z]
        exact Nat.le_trans h.known_le.2 (by omega)
theorem PlanOk.text_le (h : PlanOk p) : totl (rowsOf p) + (rowsOf p).length * ("\n" : Str).length ≤ 30000 ∧ (textOf p).length ≤ 30000 := by
  have := jn_le (a := "\n") (n := 27) (m := 900) (k := 1) h.rows_le.1 h.rows_le.2 (by rw [len_nl]; omega)
  exact ⟨Nat.le_trans this.1 (by omega), Nat.le_trans this.2 (by omega)⟩
end
/-- the four parts -/
abbrev eParts (p : Pn) : D := .tup [eP p.folk, .tup (p.games.map eG), .tup (p.places.map eP), .tup (p.facts.map eF)]
end L
/-! B4: data that can be compared and shown; dicts by entries. -/
namespace L
open PySem PySem.Spec PyProof.Rows L2 M

structure Gd (n w : Nat) (d : D) : Prop where
  dt : M.dt d = true
  lay : (toP d).canLay0 = true
  ish : (toP d).intsShort 13 = true
  shw : (toP d).showable = true
  dep : (toP d).depth ≤ n
  wei : (toP d).weight ≤ w
structure GdL (n w : Nat) (ds : List D) : Prop where
  dt : M.dtL ds = true
  lay : PyData.canLayAll0 (toPL ds) = true
  ish : PyData.intsShortAll 13 (toPL ds) = true
  shw : PyData.showableAll (toPL ds) = true
  dep : PyData.depthAll (toPL ds) ≤ n
  wei : PyData.weightAll (toPL ds) ≤ w
theorem Gd.mono {n w n' w' : Nat} {d : D} (h : Gd n w d) (h1 : n ≤ n') (h2 : w ≤ w') : Gd n' w' d := ⟨h.dt, h.lay, h.ish, h.shw, Nat.le_trans h.dep h1, Nat.le_trans h.wei h2⟩
theorem GdL.nil {n : Nat} : GdL n 0 [] := ⟨rfl, rfl, rfl, rfl, Nat.zero_le _, Nat.le_refl _⟩
theorem GdL.cons {n a b : Nat} {d : D} {ds : List D} (h : Gd n a d) (t : GdL n b ds) : GdL n (a + 1 + b) (d :: ds) :=
  ⟨by simp [M.dtL, h.dt, t.dt], by simp [toPL, PyData.canLayAll0, h.lay, t.lay], by simp [toPL, PyData.intsShortAll, h.ish, t.ish], by simp [toPL, PyData.showableAll, h.shw, t.shw],
    by have := h.dep; have := t.dep; simp [toPL, PyData.depthAll]; omega, by have := h.wei; have := t.wei; simp only [toPL, PyData.weightAll]; omega⟩
theorem GdL.mono {n w n' w' : Nat} {d : List D} (h : GdL n w d) (h1 : n ≤ n') (h2 : w ≤ w') : GdL n' w' d := ⟨h.dt, h.lay, h.ish, h.shw, Nat.le_trans h.dep h1, Nat.le_trans h.wei h2⟩
theorem GdL.map {α : Type} {f : α → D} {n w : Nat} : ∀ {l : List α}, (∀ a ∈ l, Gd n w (f a)) → GdL n (l.length * (w + 1)) (l.map f)
  | [], _ => GdL.nil.mono (Nat.le_refl _) (Nat.zero_le _)
  | a :: l, h => (GdL.cons (h a List.mem_cons_self) (GdL.map fun b hb => h b (List.mem_cons_of_mem _ hb))).mono (Nat.le_refl _) (by rw [List.length_cons, Nat.add_mul]; omega)
theorem GdL.mapB {α : Type} {f : α → D} {n w m : Nat} {l : List α} (hm : l.length ≤ m) (h : ∀ a ∈ l, Gd n w (f a)) : GdL n (m * (w + 1)) (l.map f) := (GdL.map h).mono (Nat.le_refl _) (Nat.mul_le_mul hm (Nat.le_refl _))
theorem Gd.tup {n w : Nat} {ds : List D} (h : GdL n w ds) : Gd (n + 1) w (.tup ds) :=
  ⟨h.dt, by simp [toP, PyData.canLay0, h.lay], by simp [toP, PyData.intsShort, h.ish], by simp [toP, PyData.showable, h.shw], by have := h.dep; simp [toP, PyData.depth]; omega, by have := h.wei; simp only [toP, PyData.weight]; omega⟩
theorem Gd.lst {n w : Nat} {o : Bool} {ds : List D} (h : GdL n w ds) : Gd (n + 1) w (.lst o ds) :=
  ⟨h.dt, by simp [toP, PyData.canLay0, h.lay], by simp [toP, PyData.intsShort, h.ish], by simp [toP, PyData.showable, h.shw], by have := h.dep; simp [toP, PyData.depth]; omega, by have := h.wei; simp only [toP, PyData.weight]; omega⟩
def SOk (x : Str) : Prop := ∀ c ∈ x.cps.toList, c < 0x110000
theorem Gd.str {x : Str} (h : SOk x) {w : Nat} (hw : x.length ≤ w) : Gd 0 w (.str x) :=
  ⟨rfl, by
    simp only [toP, PyData.canLay0, PyData.strOk]
    rw [Array.all_eq_true']
    intro c hc
    exact decide_eq_true (h c (by simpa using hc)), rfl, rfl, Nat.le_refl _, hw⟩
theorem nat_len : ∀ n < 200, (PyData.shown (.int (n : Nat))).length ≤ 13 ∧ (PyData.weight (.int (n : Nat))) ≤ 8 ∧ PyData.showable (.int (n : Nat)) = true := by
  have : (List.range 200).all (fun n => decide ((PyData.shown (.int (n : Nat))).length ≤ 13 ∧ (PyData.weight (.int (n : Nat))) ≤ 8 ∧ PyData.showable (.int (n : Nat)) = true)) = true := by decide +kernel
  intro n hn
  exact of_decide_eq_true (List.all_eq_true.mp this n (List.mem_range.mpr hn))
theorem Gd.nat {n : Nat} (h : n < 200) : Gd 0 8 (.int (n : Nat)) := by
  obtain ⟨h1, h2, h3⟩ := nat_len n h
  exact ⟨rfl, rfl, by simp only [toP, PyData.intsShort]; exact decide_eq_true h1, h3, Nat.le_refl _, h2⟩
theorem Gd.non : Gd 0 0 .non := ⟨rfl, rfl, rfl, rfl, Nat.le_refl _, Nat.le_refl _⟩
theorem Gd.bl {b : Bool} : Gd 0 0 (.bl b) := ⟨rfl, rfl, rfl, rfl, Nat.le_refl _, Nat.le_refl _⟩
theorem Gd.shp {n w : Nat} {d : D} (h : Gd n w d) (hn : n ≤ 64) : M.shp d = true := by
  unfold M.shp SeqAt.shaped
  rw [h.dt, h.lay, decide_eq_true (Nat.le_trans h.dep hn)]
  rfl
theorem Gd.shown {n w : Nat} {d : D} (h : Gd n w d) (hn : n ≤ 64) (hw : w ≤ 1000000) : (toP d).shown.length ≤ sizeLine := by
  have h1 : PyData.layable0 (toP d) = true := by
    unfold PyData.layable0
    rw [h.lay, decide_eq_true (Nat.le_trans h.dep hn), decide_eq_true (Nat.le_trans h.wei (Nat.le_trans hw (by decide)))]
    rfl
  exact Nat.le_trans (shown_le13 h1 h.ish) (by decide)
theorem i_repr {n w : Nat} {x d : D} {ρ : Sl} {K : D → Sl → Prop} (h1 : pk ρ x = some d) (g : Gd n w d) (hn : n ≤ 64) (hw : w ≤ 1000000) (q : K (.str (toP d).shown) ρ) : nRepr ρ [x] K :=
  ⟨x, d, rfl, h1, g.dt, g.shw, Nat.le_trans g.dep (Nat.le_trans hn (by decide)), g.shown hn hw, q⟩
theorem SOk.app {x y : Str} (h1 : SOk x) (h2 : SOk y) : SOk (x ++ y) := fun c hc => by
  rw [app_l] at hc
  rcases List.mem_append.mp hc with z | z
  · exact h1 c z
  · exact h2 c z
theorem NameOk.sok {x : Str} (h : NameOk x) : SOk x := fun c hc => by
  rcases h.signs c hc with z | z <;> omega
theorem sok_plus : SOk "+" := fun c hc => by rw [plus_l] at hc; simp at hc; omega
theorem sok_minus : SOk "-" := fun c hc => by rw [minus_l] at hc; simp at hc; omega
theorem Srcs.sok {ns th : List Str} (h : Srcs ns th) {s : Str} (hs : s ∈ th) : SOk s := by
  rcases h.of s hs with z | ⟨n, hn, rfl | rfl⟩
  · exact (h.nm s z).sok
  · exact (h.nm n hn).sok.app sok_plus
  · exact (h.nm n hn).sok.app sok_minus
theorem GamesOk.sok : ∀ {gs : List Game} {ns th : List Str}, Srcs ns th → GamesOk ns th gs → ∀ g ∈ gs, SOk g.1 ∧ SOk g.2.1 ∧ SOk g.2.2
  | g :: gs, ns, th, h, k, x, hx => by
    rcases List.mem_cons.mp hx with rfl | z
    · exact ⟨k.1.1.sok, h.sok k.1.2.2.1, h.sok k.1.2.2.2.1⟩
    · exact GamesOk.sok (h.step k.1.1 k.1.2.1) k.2 x z
section
variable {p : Pn}
theorem PlanOk.gdFolk (h : PlanOk p) : Gd 1 72 (eP p.folk) := (Gd.tup (GdL.mapB h.folk.le fun x hx => Gd.str (w := 8) (h.folk.nm x hx).sok (h.folk.nm x hx).len.2)).mono (Nat.le_refl _) (by omega)
theorem gdGame {g : Game} (h1 : SOk g.1 ∧ SOk g.2.1 ∧ SOk g.2.2) (h2 : g.1.length ≤ 8 ∧ g.2.1.length ≤ 9 ∧ g.2.2.length ≤ 9) : Gd 1 40 (eG g) :=
  (Gd.tup (GdL.cons (n := 0) (Gd.str h1.1 h2.1) (GdL.cons (Gd.str h1.2.1 h2.2.1) (GdL.cons (Gd.str h1.2.2 h2.2.2) GdL.nil)))).mono (Nat.le_refl _) (by omega)
theorem PlanOk.gdGames (h : PlanOk p) : Gd 2 1000 (.tup (p.games.map eG)) := (Gd.tup (GdL.mapB h.gle fun g hg => gdGame (h.games.sok h.srcs g hg) (h.games.len h.srcs g hg))).mono (Nat.le_refl _) (by omega)
theorem PlanOk.gdGroup (h : PlanOk p) {g : List Str} (hg : g ∈ p.places) : Gd 1 90 (eP g) :=
  (Gd.tup (GdL.mapB (h.gmem hg).1 fun x hx => Gd.str (w := 9) (h.srcsE.sok (h.plc.subset ((List.sublist_flatten_of_mem hg).subset hx))) ((h.gmem hg).2 x hx))).mono (Nat.le_refl _) (by omega)
theorem PlanOk.gdPlaces (h : PlanOk p) : Gd 2 1000 (.tup (p.places.map eP)) := (Gd.tup (GdL.mapB h.plen.1 fun g hg => h.gdGroup hg)).mono (Nat.le_refl _) (by omega)
theorem gdFact {f : Str × Str} (h1 : NameOk f.1) (h2 : NameOk f.2) : Gd 1 20 (eF f) := (Gd.tup (GdL.cons (n := 0) (Gd.str h1.sok h1.len.2) (GdL.cons (Gd.str h2.sok h2.len.2) GdL.nil))).mono (Nat.le_refl _) (by omega)
theorem PlanOk.gdFact (h : PlanOk p) {f : Str × Str} (hf : f ∈ p.facts) : Gd 1 20 (eF f) := L.gdFact (h.folk.nm _ (h.fmem hf).1) (h.folk.nm _ (h.fmem hf).2)
theorem PlanOk.gdFacts (h : PlanOk p) : Gd 2 1000 (.tup (p.facts.map eF)) := (Gd.tup (GdL.mapB h.fle fun g hg => h.gdFact hg)).mono (Nat.le_refl _) (by omega)
theorem PlanOk.gd4 (h : PlanOk p) : GdL 2 3100 [eP p.folk, .tup (p.games.map eG), .tup (p.places.map eP), .tup (p.facts.map eF)] :=
  (GdL.cons (n := 2) (h.gdFolk.mono (by omega) (Nat.le_refl _)) (GdL.cons h.gdGames (GdL.cons h.gdPlaces (GdL.cons h.gdFacts GdL.nil)))).mono (Nat.le_refl _) (by omega)
theorem PlanOk.gdParts (h : PlanOk p) : Gd 3 3100 (eParts p) := Gd.tup h.gd4
end
/-! ### equality -/
theorem beq_dec {a b : Str} : (a == b) = decide (a = b) := by
  by_cases h : a = b
  · subst h; simp
  · rw [beq_eq_false_iff_ne.mpr h, decide_eq_false h]
theorem eqD_str {a b : Str} : eqD (.str a) (.str b) = decide (a = b) := beq_dec
theorem eqD_F {a b : Str × Str} : eqD (eF a) (eF b) = decide (a = b) := by
  show ((a.1 == b.1) && ((a.2 == b.2) && true)) = _
  rw [beq_dec, beq_dec]
  by_cases h1 : a.1 = b.1 <;> by_cases h2 : a.2 = b.2 <;> simp [h1, h2, Prod.ext_iff]
theorem any_F {f : Str × Str} (l : List (Str × Str)) : ((l.map eF).any fun z => eqD z (eF f)) = decide (f ∈ l) := by
  induction l with
  | nil => rfl
  | cons x l ih =>
    rw [List.map_cons, List.any_cons, ih, eqD_F]
    by_cases h : x = f
    · simp [h]
    · have : ¬ f = x := fun e => h e.symm
      simp [h, this]
/-! ### sites, places -/
def sitesOf : List Str → List Game → List (Nat × Nat)
  | _, [] => []
  | th, g :: gs => (th.idxOf g.2.1, th.idxOf g.2.2) :: sitesOf (stepG th g) gs
theorem sitesOf_snoc : ∀ {gs : List Game} {th : List Str} {g : Game}, sitesOf th (gs ++ [g]) = sitesOf th gs ++ [((endsOf th gs).idxOf g.2.1, (endsOf th gs).idxOf g.2.2)]
  | [], th, g => rfl
  | x :: gs, th, g => by
    show _ :: sitesOf (stepG th x) (gs ++ [g]) = _
    rw [sitesOf_snoc]
    rfl
theorem sitesOf_len : ∀ {gs : List Game} {th : List Str}, (sitesOf th gs).length = gs.length
  | [], _ => rfl
  | g :: gs, th => congrArg (· + 1) (sitesOf_len (gs := gs))
abbrev eI (p : Nat × Nat) : D := .tup [.int (p.1 : Nat), .int (p.2 : Nat)]
theorem GamesOk.at_ : ∀ {gs : List Game} {ns th : List Str} {i : Nat} {g : Game}, GamesOk ns th gs → gs[i]? = some g → NameOk g.1 ∧ g.1 ∉ ns ++ (gs.take i).map (·.1) ∧ g.2.1 ∈ endsOf th (gs.take i) ∧ g.2.2 ∈ endsOf th (gs.take i) ∧ g.2.1 ≠ g.2.2
  | x :: gs, ns, th, 0, g, h, e => by
    simp at e
    subst e
    simpa [endsOf] using h.1
  | x :: gs, ns, th, i + 1, g, h, e => by
    have := GamesOk.at_ h.2 (i := i) (by simpa using e)
    simpa [endsOf, List.append_assoc] using this
theorem GamesOk.take : ∀ {gs : List Game} {ns th : List Str} (i : Nat), GamesOk ns th gs → GamesOk ns th (gs.take i)
  | _, _, _, 0, _ => trivial
  | [], _, _, i + 1, _ => trivial
  | x :: gs, ns, th, i + 1, h => ⟨h.1, GamesOk.take i h.2⟩
theorem take_snoc {α : Type} {l : List α} {i : Nat} {a : α} (h : l[i]? = some a) : l.take (i + 1) = l.take i ++ [a] := by rw [List.take_add_one, h]; rfl
/-- the place of an end -/
def placeIx (ps : List (List Str)) (e : Str) : Nat := ps.findIdx fun g => decide (e ∈ g)
theorem placeIx_at {ps : List (List Str)} {i : Nat} {g : List Str} {e : Str} (hi : ps[i]? = some g) (he : e ∈ g) (hn : e ∉ (ps.take i).flatten) : placeIx ps e = i := by
  obtain ⟨hl, hg⟩ := List.getElem?_eq_some_iff.mp hi
  unfold placeIx
  rw [List.findIdx_eq hl]
  refine ⟨by rw [hg]; exact decide_eq_true he, fun j hj => decide_eq_false fun z => hn ?_⟩
  exact List.mem_flatten.mpr ⟨ps[j], by rw [List.mem_take_iff_getElem]; exact ⟨j, by omega, rfl⟩, z⟩
theorem take_nd {α : Type} {l : List (List α)} (i : Nat) (h : l.flatten.Nodup) : (l.take i).flatten.Nodup := by
  have e : l.flatten = (l.take i).flatten ++ (l.drop i).flatten := by rw [← List.flatten_append, List.take_append_drop]
  rw [e] at h
  exact (List.nodup_append.mp h).1
theorem fresh_at {α : Type} {a g : List α} {j : Nat} {x : α} (h : (a ++ g).Nodup) (hx : g[j]? = some x) : x ∉ a ++ g.take j := fun z => by
  obtain ⟨hj, e⟩ := List.getElem?_eq_some_iff.mp hx
  have h2 : ((a ++ g.take j) ++ g.drop j).Nodup := by rw [List.append_assoc, List.take_append_drop]; exact h
  refine (List.nodup_append.mp h2).2.2 x z x ?_ rfl
  rw [List.drop_eq_getElem_cons hj, e]
  exact List.mem_cons_self
end L
/-! B5: known facts, closed. -/
namespace L
open PySem PySem.Spec PyProof.Rows L2 M

/-- a stands before b -/
def Bef (o : List Str) (a b : Str) : Prop := ∃ i j : Nat, i < j ∧ o[i]? = some a ∧ o[j]? = some b
theorem bef_of_sub : ∀ {o : List Str} {a b : Str}, [a, b].Sublist o → Bef o a b
  | x :: o, a, b, h => by
    cases h with
    | cons _ h =>
      obtain ⟨i, j, h1, h2, h3⟩ := bef_of_sub h
      exact ⟨i + 1, j + 1, by omega, h2, h3⟩
    | cons_cons _ h =>
      have := List.singleton_sublist.mp h
      obtain ⟨j, hj⟩ := List.mem_iff_getElem?.mp this
      exact ⟨0, j + 1, by omega, rfl, hj⟩
theorem nd_at {α : Type} {o : List α} (nd : o.Nodup) {i j : Nat} {a : α} (h1 : o[i]? = some a) (h2 : o[j]? = some a) : i = j := by
  obtain ⟨hi, e1⟩ := List.getElem?_eq_some_iff.mp h1
  obtain ⟨hj, e2⟩ := List.getElem?_eq_some_iff.mp h2
  exact (List.getElem_inj nd).mp (e1.trans e2.symm)
theorem Bef.trans {o : List Str} {a b c : Str} (nd : o.Nodup) (h1 : Bef o a b) (h2 : Bef o b c) : Bef o a c := by
  obtain ⟨i, j, h, e1, e2⟩ := h1
  obtain ⟨k, l, h', e3, e4⟩ := h2
  have := nd_at nd e2 e3
  exact ⟨i, l, by omega, e1, e4⟩
theorem Bef.irr {o : List Str} {a : Str} (nd : o.Nodup) (h : Bef o a a) : False := by
  obtain ⟨i, j, h, e1, e2⟩ := h
  have := nd_at nd e1 e2
  omega
/-- who is known to be weaker, as the program reckons it -/
def wk0 (folk : List Str) (fs : List (Str × Str)) (e : Str) : List Str := folk.filter fun l => decide ((e, l) ∈ fs)
def wkS (folk : List Str) (W : Str → List Str) (m : Str) (e : Str) : List Str := if m ∈ W e then folk.filter fun l => decide (l ∈ W e) || decide (l ∈ W m) else W e
def weakerOf (folk : List Str) (fs : List (Str × Str)) : Str → List Str := folk.foldl (wkS folk) (wk0 folk fs)
/-- in the entries' order -/
def Nrm (folk : List Str) (W : Str → List Str) : Prop := ∀ e, W e = folk.filter fun l => decide (l ∈ W e)
theorem nrm0 {folk : List Str} {fs : List (Str × Str)} : Nrm folk (wk0 folk fs) := fun e => by
  unfold wk0
  refine List.filter_congr fun x hx => ?_
  simp [hx]
theorem nrmS {folk : List Str} {W : Str → List Str} (h : Nrm folk W) {m : Str} : Nrm folk (wkS folk W m) := fun e => by
  unfold wkS
  split
  · refine List.filter_congr fun x hx => ?_
    simp [hx]
  · exact h e
theorem wkS_self {folk : List Str} {W : Str → List Str} (h : Nrm folk W) {m : Str} : wkS folk W m m = W m := by
  unfold wkS
  split
  · rw [h m]
    refine List.filter_congr fun x hx => ?_
    simp [hx]
  · rfl
def Snd (o : List Str) (W : Str → List Str) : Prop := ∀ e l, l ∈ W e → Bef o e l
theorem snd0 {folk o : List Str} {fs : List (Str × Str)} (h : Has o fs) : Snd o (wk0 folk fs) := fun e l hl => by
  have := (List.mem_filter.mp hl).2
  exact bef_of_sub (h _ (of_decide_eq_true this))
theorem sndS {folk o : List Str} {W : Str → List Str} (nd : o.Nodup) (h : Snd o W) {m : Str} : Snd o (wkS folk W m) := fun e l hl => by
  unfold wkS at hl
  split at hl
  · rename_i hm
    have := (List.mem_filter.mp hl).2
    simp at this
    rcases this with z | z
    · exact h e l z
    · exact (h e m hm).trans nd (h m l z)
  · exact h e l hl
theorem fold_ind {α : Type} {P : α → Prop} {f : α → Str → α} (hs : ∀ a m, P a → P (f a m)) : ∀ (l : List Str) (a : α), P a → P (l.foldl f a)
  | [], _, h => h
  | m :: l, a, h => fold_ind hs l _ (hs a m h)
theorem nrm_weaker {folk : List Str} {fs : List (Str × Str)} : Nrm folk (weakerOf folk fs) := fold_ind (P := Nrm folk) (fun _ _ h => nrmS h) _ _ nrm0
theorem snd_weaker {folk o : List Str} {fs : List (Str × Str)} (nd : o.Nodup) (h : Has o fs) : Snd o (weakerOf folk fs) := fold_ind (P := Snd o) (fun _ _ h => sndS nd h) _ _ (snd0 h)
theorem Nrm.mem {folk : List Str} {W : Str → List Str} (h : Nrm folk W) {e l : Str} (hl : l ∈ W e) : l ∈ folk := by
  rw [h e] at hl
  exact (List.mem_filter.mp hl).1
theorem Nrm.len {folk : List Str} {W : Str → List Str} (h : Nrm folk W) (e : Str) : (W e).length ≤ folk.length := by
  rw [h e]; exact List.length_filter_le _ _
/-- as data -/
abbrev eW (o : Bool) (folk : List Str) (W : Str → List Str) : D := .dct o (kS folk) (folk.map fun e => eL (W e))
/-- within a turn of the inner loop -/
def wkJ (folk : List Str) (W : Str → List Str) (m : Str) (j : Nat) (e : Str) : List Str := if e ∈ folk.take j then wkS folk W m e else W e
theorem wkJ_no {folk : List Str} {W : Str → List Str} {m e : Str} {j : Nat} (h : e ∉ folk.take j) : wkJ folk W m j e = W e := if_neg h
theorem wkJ_m {folk : List Str} {W : Str → List Str} {m : Str} {j : Nat} (h : Nrm folk W) : wkJ folk W m j m = W m := by
  unfold wkJ
  split
  · exact wkS_self h
  · rfl
theorem wkJ_step {folk : List Str} {W : Str → List Str} {m e y : Str} {j : Nat} (te : folk.take (j + 1) = folk.take j ++ [e]) : wkJ folk W m (j + 1) y = if y = e then wkS folk W m e else wkJ folk W m j y := by
  unfold wkJ
  rw [te]
  by_cases h : y = e
  · subst h; simp
  · simp [h]
theorem eW_congr {o : Bool} {folk : List Str} {W W' : Str → List Str} (h : ∀ e ∈ folk, W e = W' e) : eW o folk W = eW o folk W' := by
  unfold eW
  rw [List.map_congr_left fun e he => congrArg eL (h e he)]
theorem wkJ_zero {folk : List Str} {W : Str → List Str} {m : Str} : eW true folk (wkJ folk W m 0) = eW true folk W := eW_congr fun e _ => wkJ_no (by simp)
theorem wkJ_all {folk : List Str} {W : Str → List Str} {m : Str} : eW true folk (wkJ folk W m folk.length) = eW true folk (wkS folk W m) := eW_congr fun e he => if_pos (by rw [List.take_length]; exact he)
theorem Has.take {o : List Str} {fs : List (Str × Str)} (h : Has o fs) (i : Nat) : Has o (fs.take i) := fun f hf => h f (List.mem_of_mem_take hf)
end L
/-! B6: a plan as an instance. -/
namespace L
open PySem PySem.Spec PyProof.Rows L2 M

abbrev planFs : List Str := ["sites", "ends", "end_places", "weaker", "held_entries", "held_matches", "held_places", "held_known"]
abbrev eSites (p : Pn) : D := .tup ((sitesOf p.folk p.games).map eI)
abbrev eEndPl (p : Pn) : D := .tup (p.ends.map fun e => .int (placeIx p.places e : Nat))
abbrev eWk (p : Pn) : D := eW false p.folk (weakerOf p.folk p.facts)
abbrev eGames (p : Pn) : D := .tup (p.games.map eG)
abbrev ePlaces (p : Pn) : D := .tup (p.places.map eP)
abbrev eFacts (p : Pn) : D := .tup (p.facts.map eF)
abbrev planXs (p : Pn) : List D := [eSites p, eL p.ends, eEndPl p, eWk p, eP p.folk, eGames p, ePlaces p, eFacts p]
abbrev ePlan (o : Bool) (p : Pn) : D := .ins o "Plan" planFs (planXs p)
section
variable {a b c d e f g h : D}
theorem gx_sites : getX "sites" planFs [a, b, c, d, e, f, g, h] = some a := getX_eq
theorem gx_ends : getX "ends" planFs [a, b, c, d, e, f, g, h] = some b := by
  rw [getX_ne (by decide +kernel)]; exact getX_eq
theorem gx_end_places : getX "end_places" planFs [a, b, c, d, e, f, g, h] = some c := by
  rw [getX_ne (by decide +kernel), getX_ne (by decide +kernel)]; exact getX_eq
theorem gx_weaker : getX "weaker" planFs [a, b, c, d, e, f, g, h] = some d := by
  rw [getX_ne (by decide +kernel), getX_ne (by decide +kernel), getX_ne (by decide +kernel)]; exact getX_eq
theorem gx_entries : getX "held_entries" planFs [a, b, c, d, e, f, g, h] = some e := by
  rw [getX_ne (by decide +kernel), getX_ne (by decide +kernel), getX_ne (by decide +kernel), getX_ne (by decide +kernel)]; exact getX_eq
theorem gx_matches : getX "held_matches" planFs [a, b, c, d, e, f, g, h] = some f := by
  rw [getX_ne (by decide +kernel), getX_ne (by decide +kernel), getX_ne (by decide +kernel), getX_ne (by decide +kernel), getX_ne (by decide +kernel)]; exact getX_eq
theorem gx_places : getX "held_places" planFs [a, b, c, d, e, f, g, h] = some g := by
  rw [getX_ne (by decide +kernel), getX_ne (by decide +kernel), getX_ne (by decide +kernel), getX_ne (by decide +kernel), getX_ne (by decide +kernel), getX_ne (by decide +kernel)]; exact getX_eq
theorem gx_known : getX "held_known" planFs [a, b, c, d, e, f, g, h] = some h := by
  rw [getX_ne (by decide +kernel), getX_ne (by decide +kernel), getX_ne (by decide +kernel), getX_ne (by decide +kernel), getX_ne (by decide +kernel), getX_ne (by decide +kernel), getX_ne (by decide +kernel)]; exact getX_eq
theorem gx_two : getX "ends" ["sites", "ends"] [a, b] = some b := by
  rw [getX_ne (by decide +kernel)]; exact getX_eq
theorem gx_none {m : Str} (hm : (planFs.all fun g => decide (g ≠ m)) = true) : getX m planFs [a, b, c, d, e, f, g, h] = none := by
  have q := fun x hx => of_decide_eq_true (List.all_eq_true.mp hm x hx)
  rw [getX_ne (decide_eq_false (q _ (by simp))), getX_ne (decide_eq_false (q _ (by simp))), getX_ne (decide_eq_false (q _ (by simp))), getX_ne (decide_eq_false (q _ (by simp))), getX_ne (decide_eq_false (q _ (by simp))), getX_ne (decide_eq_false (q _ (by simp))), getX_ne (decide_eq_false (q _ (by simp))), getX_ne (decide_eq_false (q _ (by simp)))]
  rfl
end
theorem GamesOk.names : ∀ {gs : List Game} {ns th : List Str}, ns.Nodup → GamesOk ns th gs → (ns ++ gs.map (·.1)).Nodup
  | [], ns, th, h, _ => by simpa using h
  | g :: gs, ns, th, h, k => by
    have h2 : (ns ++ [g.1]).Nodup := List.nodup_append.mpr ⟨h, by simp, fun x hx y hy e => by
      rw [List.mem_singleton.mp hy] at e
      exact k.1.2.1 (e ▸ hx)⟩
    simpa [List.append_assoc] using GamesOk.names h2 k.2
theorem PlanOk.names {p : Pn} (h : PlanOk p) : (p.folk ++ p.games.map (·.1)).Nodup := GamesOk.names h.folk.nd h.games
theorem eqD_tnil {l : List (Str × Str)} : eqD (.tup (l.map eF)) (.tup []) = decide (l = []) := by
  cases l with
  | nil => rfl
  | cons a l => rfl
end L
namespace L
open PySem PySem.Spec PyProof.Rows L2 M
local macro_rules
  | `(tactic| trivial) => `(tactic| with_reducible first
    | refine i_var rfl ?_
    | refine i_addI ?_ | refine i_sub ?_ | refine i_mod (by omega) ?_ | refine i_fdiv (by omega) ?_
    | refine i_mulL (by omega) ?_ | refine i_mulR (by omega) ?_
    | refine ite_t ?_ | refine ite_nT ?_ | refine ite_nF ?_ | refine ite_nn ?_ | refine ite_f ?_ | refine ite_dt (by first | assumption | omega | (simp only [List.length_map, List.length_append, List.length_cons, List.length_nil, List.length_take, List.length_drop] at *; omega)) ?_ | refine ite_df (by first | assumption | omega | (simp only [List.length_map, List.length_append, List.length_cons, List.length_nil, List.length_take, List.length_drop] at *; omega)) ?_ | refine ite_ct (by assumption) ?_ | refine ite_cf (by assumption) ?_ | refine ite_nct (by assumption) ?_ | refine ite_ncf (by assumption) ?_ | refine iteD (fun hc => ?_) (fun hc => ?_) | refine ite_nf (by first | exact rfl | assumption | omega | (simp only [List.length_map, List.length_append, List.length_cons, List.length_nil, List.length_take, List.length_drop] at *; omega)) ?_ | refine ite_nt (by first | assumption | omega | (simp only [List.length_map, List.length_append, List.length_cons, List.length_nil, List.length_take, List.length_drop] at *; omega)) ?_ | refine iteN (fun hc => ?_) (fun hc => ?_) | refine i_b ?_
    | refine i_lt ?_ | refine i_le ?_ | refine i_gt ?_ | refine i_ge ?_ | refine i_eqI ?_ | refine i_neI ?_ | refine i_eqS ?_ | refine i_neS ?_
    | refine i_ixL rfl rfl rfl ?_
    | refine i_int ?_ | refine i_abs ?_ | refine i_max ?_ | refine i_min ?_ | refine i_dm (by omega) ?_
    | refine i_lenL rfl rfl ?_ | refine i_lenSc ?_ | refine i_list rfl rfl ?_ | refine i_tuple rfl rfl ?_
    | refine i_setl rfl rfl rfl rfl ?_
    | refine i_truB ?_ | refine i_pln rfl ?_ | refine i_isSS ?_ | refine i_isTT ?_ | refine i_isII ?_ | refine i_isIB ?_ | refine i_isSI ?_ | refine i_lockE rfl ?_ | refine i_dk rfl ?_ | refine i_gattr rfl rfl rfl rfl rfl (by decide +kernel) ?_ | refine i_star rfl rfl ?_ | refine i_isin rfl ?_ | refine i_nn ?_ | refine i_made ?_ | refine i_spc ?_ | refine i_qlen (by omega) ?_ | refine i_qstr ?_ | refine i_qbl ?_ | refine i_js (by simp only [empty_app, app_len, len_gt]; omega) ?_ | refine i_fmt (by omega) ?_ | refine i_inC ?_ | refine i_inKS rfl ?_ | refine i_notInKS rfl ?_ | refine i_lenD rfl ?_ | refine i_notIn2 ?_ | refine i_in2 ?_ | refine i_allM rfl ?_ | refine i_anyM rfl ?_ | refine i_index rfl (by assumption) ?_ | refine i_tyL rfl ?_ | refine i_tyS ?_ | refine i_popM rfl (by first | omega | (simp only [List.length_map, List.length_append, List.length_cons, List.length_nil, List.length_take, List.length_drop] at *; omega)) (fun m hm hme hle => ?_) | refine i_popB rfl (by first | omega | (simp only [List.length_map, List.length_append, List.length_cons, List.length_nil, List.length_take, List.length_drop] at *; omega)) (fun m hm hme => ?_) | refine i_par rfl rfl ?_ | refine i_tpo rfl rfl ?_ | refine i_fzE rfl ?_ | refine i_fzE (fzR_P (by assumption)) ?_ | refine i_fz rfl ?_ | refine i_fz (fzR_P (by assumption)) ?_ | refine i_app rfl rfl (by first | omega | (simp only [List.length_map, List.length_append, List.length_cons, List.length_nil, List.length_take, List.length_drop] at *; omega)) ?_ | refine i_ow rfl ?_ | refine i_unp rfl ?_ | refine i_unpO rfl ?_ | refine i_gcons ?_ | refine i_gnil ?_
    | refine i_strB (by omega) ?_ | refine i_notInS rfl rfl ?_ | refine i_inS rfl rfl ?_ | refine i_notInI rfl rfl ?_ | refine i_inI rfl rfl ?_
    | refine i_addS (by first | decide | (simp only [len_plus, len_minus, len_gt, len_places, app_len]; omega)) ?_ | refine i_addL rfl rfl (by decide) ?_ | refine i_addL rfl rfl (by first | omega | (simp only [List.length_map, List.length_append, List.length_cons, List.length_nil, List.length_take, List.length_drop] at *; omega)) ?_
    | refine i_pow (by omega) ?_ | refine i_disp rfl rfl ?_ | refine i_slL rfl ?_ | refine i_slT ?_ | refine i_scr ?_ | refine i_opt ?_ | refine i_itL rfl rfl ?_ | refine i_itS ?_ | refine i_en rfl rfl ?_ | refine i_r1 (by first | omega | (simp only [List.length_map, List.length_append, List.length_cons, List.length_nil, List.length_take, List.length_drop] at *; omega)) ?_ | refine i_r2 (by first | omega | (simp only [List.length_map, List.length_append, List.length_cons, List.length_nil, List.length_take, List.length_drop] at *; omega)) ?_ | refine i_lc0 ?_ | refine i_dc0 ?_ | refine i_kfz rfl rfl ?_ | refine i_ixSc rfl ?_
    | refine i_ret rfl rfl ?_ | refine i_fzs rfl ?_)

def Pot (d : D) : Prop := ∃ a b c : Int, d = .lst true [.int a, .int b, .int c]
def w__law_draw_r4 (Ex : DXs) : WS :=
  (wRet (wOp oMod (wCB nInt (wCons (wOp oFdiv (wOp oIxA (wVar 0) (wC (.int 0))) (wC (.int 97))) wNil)) (wVar 1)))
def w__law_draw (Ex : DXs) : WS :=
  (wSeq (wAsg (wOp oAdd (wOp oIxA (wVar 0) (wC (.int 2))) (wC (.int 1))) (gSetA (wVar 0) (wC (.int 2))))
  (wSeq (wAsg (wCB nInt (wCons (wOp oIxA (wVar 0) (wC (.int 0))) wNil)) (gFz 2))
  (wSeq (wAsg (wOp oMod (wCB nInt (wCons (wOp oAdd (wOp oAdd (wOp oMul (wVar 2) (wOp oAdd (wOp oMod (wCB nInt (wCons (wVar 2) wNil)) (wC (.int 30011))) (wC (.int 40009)))) (wOp oMul (wC (.int 92821)) (wOp oIxA (wVar 0) (wC (.int 2))))) (wC (.int 11))) wNil)) (wC (.int 2147483629))) (gSetA (wVar 0) (wC (.int 0))))
  (wSeq (wFg [3] (wIfS (wB (wOp oGt (wOp oIxA (wVar 0) (wC (.int 1))) (wC (.int 0)))) (wSeq (wAsg (wCB nDivmod (wCons (wOp oIxA (wVar 0) (wC (.int 1))) (wCons (wVar 1) wNil))) (gUnp 2 (wgCons (gSetA (wVar 0) (wC (.int 1))) (wgCons (gFz 3) wgNil))))
  (wRet (wVar 3))) wNext))
  (w__law_draw_r4 Ex)))))
def sp__law_draw : Spd := fun ds Q _ => ∃ p m, ds = [p, .int m] ∧ Pot p ∧ 0 < m ∧ m < 1073741824 ∧ ∀ r p', 0 ≤ r → r < m → Pot p' → Q (.int r) [p']
theorem hw__law_draw (ds : List D) (Qd : D → List D → Prop) (Ed : DX) (h : sp__law_draw ds Qd Ed) : w__law_draw (fun c fs xs _ => Ed c fs xs) (endD [0] Qd) (startD ["_law_pot_here", "_law_many", "_law_seed", "_law_digit"] ds) := by
  obtain ⟨p, m, rfl, ⟨a, b, c, rfl⟩, h1, h2, h⟩ := h
  unfold w__law_draw
  repeat' (first | trivial | dsimp only [w__law_draw_r4, wMakeP, makeP, wCallP, callP, wMethP, permL_nil, permL_cons, wProp, wIxI, wLockE, wiDk, wFld, wStar, wFmt, wFs, wJs, wDn, Bool.not_true, Bool.not_false, wChain, wAndV, wOrV, wNotV, wIsT, id, wNeg, wPar, wTpo, st2, st3, wFg, wFg0, puts, wip, rst, isOw, if_ff, if_tt, List.getElem?_cons_zero, List.getElem?_cons_succ, List.getElem?_nil, wSeq, wAsg, wOp, wC, wCB, wCons, wNil, wRet, wIfS, wB, wNext, wIf, wCall, wDrop, wTup, wLst, wM, wM0, wSl, wSlS, wP, wNoP, wiR1, wiR2, wiIt, wiEn, wTru, wAnd, wOr, wNot, wFor, rd_int, rd_str, rd_bl, rd_non, rd_tup, rd_lf, rd_lt, rd_df, rd_dt, rd_if, rd_it, rd_scr, startD, fz, List.map, List.length, List.replicate, List.append, List.set_cons_zero, List.set_cons_succ, Int.reduceToNat, List.cons_append, List.nil_append, Nat.reduceAdd, Nat.reduceSub, endD])
  all_goals exact h _ _ (Int.emod_nonneg _ (by omega)) (Int.emod_lt_of_pos _ h1) ⟨_, _, _, rfl⟩
def w__law_pot (Ex : DXs) : WS :=
  (wSeq (wAsg (wCB nAbs (wCons (wVar 0) wNil)) (gFz 1))
  (wRet (wLst (wCons (wOp oMod (wCB nInt (wCons (wOp oAdd (wOp oMul (wVar 0) (wC (.int 69997))) (wC (.int 40507))) wNil)) (wC (.int 2147483629))) (wCons (wIf (wB (wOp oGe (wVar 1) (wOp oPow (wC (.int 10)) (wC (.int 18))))) (wVar 1) (wC (.int 0))) (wCons (wC (.int 0)) wNil))))))
def sp__law_pot : Spd := fun ds Q _ => ∃ n, ds = [.int n] ∧ ∀ p, Pot p → Q p []
theorem hw__law_pot (ds : List D) (Qd : D → List D → Prop) (Ed : DX) (h : sp__law_pot ds Qd Ed) : w__law_pot (fun c fs xs _ => Ed c fs xs) (endD [] Qd) (startD ["_law_cell_here", "_law_great"] ds) := by
  obtain ⟨n, rfl, h⟩ := h
  unfold w__law_pot
  repeat' (first | trivial | dsimp only [wMakeP, makeP, wCallP, callP, wMethP, permL_nil, permL_cons, wProp, wIxI, wLockE, wiDk, wFld, wStar, wFmt, wFs, wJs, wDn, Bool.not_true, Bool.not_false, wChain, wAndV, wOrV, wNotV, wIsT, id, wNeg, wPar, wTpo, st2, st3, wFg, wFg0, puts, wip, rst, isOw, if_ff, if_tt, List.getElem?_cons_zero, List.getElem?_cons_succ, List.getElem?_nil, wSeq, wAsg, wOp, wC, wCB, wCons, wNil, wRet, wIfS, wB, wNext, wIf, wCall, wDrop, wTup, wLst, wM, wM0, wSl, wSlS, wP, wNoP, wiR1, wiR2, wiIt, wiEn, wTru, wAnd, wOr, wNot, wFor, rd_int, rd_str, rd_bl, rd_non, rd_tup, rd_lf, rd_lt, rd_df, rd_dt, rd_if, rd_it, rd_scr, startD, fz, List.map, List.length, List.replicate, List.append, List.set_cons_zero, List.set_cons_succ, Int.reduceToNat, List.cons_append, List.nil_append, Nat.reduceAdd, Nat.reduceSub, endD])
  all_goals exact h _ ⟨_, _, _, rfl⟩
def w__law_cell_r3 (Ex : DXs) : WS :=
  (wRet (wVar 2))
def w__law_cell_r1 (Ex : DXs) : WS :=
  (wSeq (wAsg (wOp oAdd (wC (.int 40507)) (wOp oMul (wOp oMul (wC (.int 7919)) (wVar 1)) (wVar 1))) (gFz 2))
  (wSeq (wFg [3] (wFg0 [3] (wFor (wiIt (wSlS (wVar 0) wNoP (wP (wC (.int 3))))) (gFz 3)
  (wFg [3] (wAsg (wOp oMod (wCB nInt (wCons (wOp oAdd (wOp oMul (wVar 2) (wC (.int 69997))) (wVar 3)) wNil)) (wC (.int 2147483629))) (gFz 2))))))
  (w__law_cell_r3 Ex)))
def w__law_cell (Ex : DXs) : WS :=
  (wSeq (wIfS (wB (wOp oLt (wVar 1) (wCB nLenS (wCons (wVar 0) wNil)))) (wRet (wOp oIxS (wVar 0) (wVar 1))) wNext)
  (w__law_cell_r1 Ex))
def sp__law_cell : Spd := fun ds Q _ => ∃ ns k, ds = [.scr ns, .int k] ∧ 0 ≤ k ∧ k < 100 ∧ ∀ n, Q (.int n) []
theorem hw__law_cell (ds : List D) (Qd : D → List D → Prop) (Ed : DX) (h : sp__law_cell ds Qd Ed) : w__law_cell (fun c fs xs _ => Ed c fs xs) (endD [] Qd) (startD ["_law_cells", "_law_k", "_law_mixed", "_law_each"] ds) := by
  obtain ⟨ns, k, rfl, h0, h1, h⟩ := h
  unfold w__law_cell
  repeat' (first | trivial | dsimp only [w__law_cell_r3, w__law_cell_r1, wMakeP, makeP, wCallP, callP, wMethP, permL_nil, permL_cons, wProp, wIxI, wLockE, wiDk, wFld, wStar, wFmt, wFs, wJs, wDn, Bool.not_true, Bool.not_false, wChain, wAndV, wOrV, wNotV, wIsT, id, wNeg, wPar, wTpo, st2, st3, wFg, wFg0, puts, wip, rst, isOw, if_ff, if_tt, List.getElem?_cons_zero, List.getElem?_cons_succ, List.getElem?_nil, wSeq, wAsg, wOp, wC, wCB, wCons, wNil, wRet, wIfS, wB, wNext, wIf, wCall, wDrop, wTup, wLst, wM, wM0, wSl, wSlS, wP, wNoP, wiR1, wiR2, wiIt, wiEn, wTru, wAnd, wOr, wNot, wFor, rd_int, rd_str, rd_bl, rd_non, rd_tup, rd_lf, rd_lt, rd_df, rd_dt, rd_if, rd_it, rd_scr, startD, fz, List.map, List.length, List.replicate, List.append, List.set_cons_zero, List.set_cons_succ, Int.reduceToNat, List.cons_append, List.nil_append, Nat.reduceAdd, Nat.reduceSub, endD])
  · refine i_ixScB h0 (by omega) fun u _ => ?_
    repeat' (first | trivial | dsimp only [w__law_cell_r3, w__law_cell_r1, wMakeP, makeP, wCallP, callP, wMethP, permL_nil, permL_cons, wProp, wIxI, wLockE, wiDk, wFld, wStar, wFmt, wFs, wJs, wDn, Bool.not_true, Bool.not_false, wChain, wAndV, wOrV, wNotV, wIsT, id, wNeg, wPar, wTpo, st2, st3, wFg, wFg0, puts, wip, rst, isOw, if_ff, if_tt, List.getElem?_cons_zero, List.getElem?_cons_succ, List.getElem?_nil, wSeq, wAsg, wOp, wC, wCB, wCons, wNil, wRet, wIfS, wB, wNext, wIf, wCall, wDrop, wTup, wLst, wM, wM0, wSl, wSlS, wP, wNoP, wiR1, wiR2, wiIt, wiEn, wTru, wAnd, wOr, wNot, wFor, rd_int, rd_str, rd_bl, rd_non, rd_tup, rd_lf, rd_lt, rd_df, rd_dt, rd_if, rd_it, rd_scr, startD, fz, List.map, List.length, List.replicate, List.append, List.set_cons_zero, List.set_cons_succ, Int.reduceToNat, List.cons_append, List.nil_append, Nat.reduceAdd, Nat.reduceSub, endD])
    exact h _
  · refine ⟨fun i ρ => ∃ m : Int, ρ = [some (.scr ns : D), some (.int k : D), some (.int m : D), none], ⟨_, rfl⟩, fun i d ρ hd ⟨m, e⟩ => ?_, fun ρ ⟨m, e⟩ => ?_⟩
    · subst e
      obtain ⟨u, rfl⟩ : ∃ u, d = .int u := by
        have := List.mem_of_getElem? hd
        unfold cut at this
        obtain ⟨u, _, e⟩ := List.mem_map.mp (List.mem_of_mem_drop (List.mem_of_mem_take this))
        exact ⟨u, e.symm⟩
      repeat' (first | trivial | dsimp only [w__law_cell_r3, w__law_cell_r1, wMakeP, makeP, wCallP, callP, wMethP, permL_nil, permL_cons, wProp, wIxI, wLockE, wiDk, wFld, wStar, wFmt, wFs, wJs, wDn, Bool.not_true, Bool.not_false, wChain, wAndV, wOrV, wNotV, wIsT, id, wNeg, wPar, wTpo, st2, st3, wFg, wFg0, puts, wip, rst, isOw, if_ff, if_tt, List.getElem?_cons_zero, List.getElem?_cons_succ, List.getElem?_nil, wSeq, wAsg, wOp, wC, wCB, wCons, wNil, wRet, wIfS, wB, wNext, wIf, wCall, wDrop, wTup, wLst, wM, wM0, wSl, wSlS, wP, wNoP, wiR1, wiR2, wiIt, wiEn, wTru, wAnd, wOr, wNot, wFor, rd_int, rd_str, rd_bl, rd_non, rd_tup, rd_lf, rd_lt, rd_df, rd_dt, rd_if, rd_it, rd_scr, startD, fz, List.map, List.length, List.replicate, List.append, List.set_cons_zero, List.set_cons_succ, Int.reduceToNat, List.cons_append, List.nil_append, Nat.reduceAdd, Nat.reduceSub, endD])
      exact ⟨_, rfl⟩
    · subst e
      repeat' (first | trivial | dsimp only [wMakeP, makeP, wCallP, callP, wMethP, permL_nil, permL_cons, wProp, wIxI, wLockE, wiDk, wFld, wStar, wFmt, wFs, wJs, wDn, Bool.not_true, Bool.not_false, wChain, wAndV, wOrV, wNotV, wIsT, id, wNeg, wPar, wTpo, st2, st3, wFg, wFg0, puts, wip, rst, isOw, if_ff, if_tt, List.getElem?_cons_zero, List.getElem?_cons_succ, List.getElem?_nil, wSeq, wAsg, wOp, wC, wCB, wCons, wNil, wRet, wIfS, wB, wNext, wIf, wCall, wDrop, wTup, wLst, wM, wM0, wSl, wSlS, wP, wNoP, wiR1, wiR2, wiIt, wiEn, wTru, wAnd, wOr, wNot, wFor, rd_int, rd_str, rd_bl, rd_non, rd_tup, rd_lf, rd_lt, rd_df, rd_dt, rd_if, rd_it, rd_scr, startD, fz, List.map, List.length, List.replicate, List.append, List.set_cons_zero, List.set_cons_succ, Int.reduceToNat, List.cons_append, List.nil_append, Nat.reduceAdd, Nat.reduceSub, endD])
      exact h _
theorem i_draw {a b c m : Int} {Q : D → List D → Prop} {E : DX} (h : 0 < m ∧ m < 1073741824) (q : ∀ r a b c, 0 ≤ r → r < m → Q (.int r) [.lst true [.int a, .int b, .int c]]) : sp__law_draw [.lst true [.int a, .int b, .int c], .int m] Q E :=
  ⟨_, m, rfl, ⟨_, _, _, rfl⟩, h.1, h.2, fun r p' h0 h1 ⟨a, b, c, e⟩ => e ▸ q r a b c h0 h1⟩
local macro_rules
  | `(tactic| trivial) => `(tactic| with_reducible first | refine i_call rfl rfl rfl ?_ | refine i_draw (by omega) (fun r a b c hr0 hr1 => ?_))
def w__law_name_r4 (sp__law_draw : Spd) (Ex : DXs) : WS :=
  (wRet (wC (.str "z")))
def w__law_name_r3 (sp__law_draw : Spd) (Ex : DXs) : WS :=
  (wSeq (wFg [6] (wFg0 [6] (wFor (wiIt (wOp oAdd (wLst (wCons (wVar 4) wNil)) (wLc (wiR1 (wCons (wC (.int 40)) wNil)) (gFz 5) wYes (wOp oAdd (wC (.str "q")) (wCB nStr (wCons (wVar 5) wNil))) [5]))) (gFz 6)
  (wFg [6] (wIfS (wB (wOp oNotInB (wVar 6) (wVar 1))) (wRet (wVar 6)) wNext)))))
  (w__law_name_r4 sp__law_draw Ex))
def w__law_name (sp__law_draw : Spd) (Ex : DXs) : WS :=
  (wSeq (wAsg (wC (.str "abcdefghijklmnopqrstuvwxyz")) (gFz 2))
  (wSeq (wAsg (wCall [0] [] 2 sp__law_draw [] exF (wCons (wVar 0) (wCons (wC (.int 14)) wNil))) (gFz 3))
  (wSeq (wFg [5] (wIfS (wB (wOp oLt (wVar 3) (wC (.int 3)))) (wAsg (wOp oIxA (wLst (wCons (wC (.str "entries")) (wCons (wC (.str "places")) (wCons (wC (.str "known")) wNil)))) (wVar 3)) (gFz 4)) (wSeq (wAsg (wOp oIxA (wVar 2) (wCall [0] [] 2 sp__law_draw [] exF (wCons (wVar 0) (wCons (wC (.int 26)) wNil)))) (gFz 4))
  (wFg [5] (wFg0 [5] (wFor (wiR1 (wCons (wOp oIxA (wLst (wCons (wC (.int 0)) (wCons (wC (.int 0)) (wCons (wC (.int 1)) (wCons (wC (.int 1)) (wCons (wC (.int 2)) (wCons (wC (.int 3)) (wCons (wC (.int 5)) (wCons (wC (.int 7)) wNil))))))))) (wCall [0] [] 2 sp__law_draw [] exF (wCons (wVar 0) (wCons (wC (.int 8)) wNil)))) wNil)) (gFz 5)
  (wFg [5] (wAsg (wOp oAdd (wVar 4) (wOp oIxA (wOp oAdd (wVar 2) (wC (.str "0123456789"))) (wCall [0] [] 2 sp__law_draw [] exF (wCons (wVar 0) (wCons (wC (.int 36)) wNil))))) (gFz 4)))))))))
  (w__law_name_r3 sp__law_draw Ex))))
def sp__law_name : Spd := fun ds Q _ => ∃ (p : D) (l : List Str), ds = [p, .lst false (l.map D.str)] ∧ Pot p ∧ l.length ≤ 39 ∧ ∀ r p', NameOk r → r ∉ l → Pot p' → Q (.str r) [p']
theorem nd_len {α : Type} [DecidableEq α] : ∀ {a b : List α}, a.Nodup → (∀ x ∈ a, x ∈ b) → a.length ≤ b.length
  | [], b, _, _ => Nat.zero_le _
  | x :: a, b, hn, h => by
    obtain ⟨h1, h2⟩ := List.nodup_cons.mp hn
    have := nd_len (b := b.erase x) h2 fun y hy => (List.mem_erase_of_ne fun e => h1 (by rw [← e]; exact hy)).mpr (h y (List.mem_cons_of_mem _ hy))
    rw [List.length_erase_of_mem (h x List.mem_cons_self)] at this
    have hp : 0 < b.length := List.length_pos_of_mem (h x List.mem_cons_self)
    simp only [List.length_cons]
    omega
def qk (k : Nat) : Str := "q" ++ Str.ofString (toString (k : Int))
theorem qk_ok : ∀ k < 40, NameOk (qk k) := by
  have : (List.range 40).all (fun k => match (qk k).cps.toList with
    | c :: l => decide (l.length ≤ 7 ∧ (97 ≤ c ∧ c ≤ 122)) && l.all fun d => decide ((97 ≤ d ∧ d ≤ 122) ∨ (48 ≤ d ∧ d ≤ 57))
    | [] => false) = true := by decide +kernel
  intro k hk
  have h := List.all_eq_true.mp this k (List.mem_range.mpr hk)
  split at h
  · rename_i c l e
    obtain ⟨h1, h2⟩ := Bool.and_eq_true_iff.mp h
    obtain ⟨h3, h4⟩ := of_decide_eq_true h1
    exact ⟨c, l, e, h3, h4, fun d hd => of_decide_eq_true (List.all_eq_true.mp h2 d hd)⟩
  · cases h
theorem qk_nd : ((List.range 40).map qk).Nodup := by decide +kernel
theorem qk_free {l : List Str} (h : l.length ≤ 39) : ∃ k < 40, qk k ∉ l := by
  by_cases q : ∃ k < 40, qk k ∉ l
  · exact q
  · have := nd_len (b := l) qk_nd fun x hx => by
      obtain ⟨k, hk, rfl⟩ := List.mem_map.mp hx
      by_cases z : qk k ∈ l
      · exact z
      · exact absurd ⟨k, List.mem_range.mp hk, z⟩ q
    simp at this
    omega
theorem qlen : ∀ k : Nat, k < 40 → ("q" : Str).length + (Str.ofString (toString (0 + (k : Int)))).length ≤ 16000000 := by
  have : (List.range 40).all (fun k => decide (("q" : Str).length + (Str.ofString (toString (0 + (k : Int)))).length ≤ 16000000)) = true := by decide +kernel
  intro k hk
  exact of_decide_eq_true (List.all_eq_true.mp this k (List.mem_range.mpr hk))
def qf : D → D
  | .int i => .str ("q" ++ Str.ofString (toString i))
  | _ => .non
def cand (wd : Str) : List Str := wd :: (List.range 40).map qk
theorem cand_eq (wd : Str) : D.str wd :: (rng 0 40).map qf = (cand wd).map D.str := by
  unfold cand rng
  rw [List.map_cons, List.map_map, List.map_map]
  refine congrArg _ ?_
  apply List.map_congr_left
  intro k _
  show D.str ("q" ++ Str.ofString (toString (0 + (k : Int)))) = D.str ("q" ++ Str.ofString (toString (k : Int)))
  rw [Int.zero_add]
theorem cand_ok {wd : Str} (h : NameOk wd) : ∀ x ∈ cand wd, NameOk x := fun x hx => by
  rcases List.mem_cons.mp hx with z | z
  · rw [z]; exact h
  · obtain ⟨k, hk, rfl⟩ := List.mem_map.mp z
    exact qk_ok k (List.mem_range.mp hk)
theorem hw__law_name_r3 {a b c k : Int} {l : List Str} {wd z : Str} {Qd : D → List D → Prop} {Ex : DXs} (hl : l.length ≤ 39) (hw : NameOk wd) (h : ∀ (r : Str) (p' : D), NameOk r → ¬r ∈ l → Pot p' → Qd (D.str r) [p']) :
    w__law_name_r3 sp__law_draw Ex (endD [0] Qd) [some (.lst true [.int a, .int b, .int c]), some (.lst false (l.map D.str)), some (.str z), some (.int k), some (.str wd), none, none] := by
  unfold w__law_name_r3
  repeat' (first | trivial | dsimp only [wMakeP, makeP, wCallP, callP, wMethP, permL_nil, permL_cons, wProp, wIxI, wLockE, wiDk, wFld, wStar, wFmt, wFs, wJs, wDn, Bool.not_true, Bool.not_false, wChain, wAndV, wOrV, wNotV, wIsT, id, wNeg, wPar, wTpo, st2, st3, wFg, wFg0, puts, wip, rst, isOw, if_ff, if_tt, List.getElem?_cons_zero, List.getElem?_cons_succ, List.getElem?_nil, wSeq, wAsg, wOp, wC, wCB, wCons, wNil, wRet, wIfS, wB, wNext, wIf, wCall, wDrop, wTup, wLst, wM, wM0, wSl, wSlS, wP, wNoP, wiR1, wiR2, wiIt, wiEn, wTru, wAnd, wOr, wNot, wFor, rd_int, rd_str, rd_bl, rd_non, rd_tup, rd_lf, rd_lt, rd_df, rd_dt, rd_if, rd_it, rd_scr, startD, fz, List.map, List.length, List.replicate, List.append, List.set_cons_zero, List.set_cons_succ, Int.reduceToNat, List.cons_append, List.nil_append, Nat.reduceAdd, Nat.reduceSub, endD])
  refine i_lcM (rng 0 40) id qf (by simp) (by rw [rng_len]; decide) ?_ ?_
  · intro d hd P h
    obtain ⟨i, hi⟩ := List.mem_iff_getElem?.mp hd
    obtain ⟨h40, rfl⟩ := rng_at hi
    repeat' (first | trivial | dsimp only [wMakeP, makeP, wCallP, callP, wMethP, permL_nil, permL_cons, wProp, wIxI, wLockE, wiDk, wFld, wStar, wFmt, wFs, wJs, wDn, Bool.not_true, Bool.not_false, wChain, wAndV, wOrV, wNotV, wIsT, id, wNeg, wPar, wTpo, st2, st3, wFg, wFg0, puts, wip, rst, isOw, if_ff, if_tt, List.getElem?_cons_zero, List.getElem?_cons_succ, List.getElem?_nil, wSeq, wAsg, wOp, wC, wCB, wCons, wNil, wRet, wIfS, wB, wNext, wIf, wCall, wDrop, wTup, wLst, wM, wM0, wSl, wSlS, wP, wNoP, wiR1, wiR2, wiIt, wiEn, wTru, wAnd, wOr, wNot, wFor, rd_int, rd_str, rd_bl, rd_non, rd_tup, rd_lf, rd_lt, rd_df, rd_dt, rd_if, rd_it, rd_scr, startD, fz, List.map, List.length, List.replicate, List.append, List.set_cons_zero, List.set_cons_succ, Int.reduceToNat, List.cons_append, List.nil_append, Nat.reduceAdd, Nat.reduceSub, endD])
    refine i_addS (qlen i h40) ?_
    repeat' (first | trivial | dsimp only [wMakeP, makeP, wCallP, callP, wMethP, permL_nil, permL_cons, wProp, wIxI, wLockE, wiDk, wFld, wStar, wFmt, wFs, wJs, wDn, Bool.not_true, Bool.not_false, wChain, wAndV, wOrV, wNotV, wIsT, id, wNeg, wPar, wTpo, st2, st3, wFg, wFg0, puts, wip, rst, isOw, if_ff, if_tt, List.getElem?_cons_zero, List.getElem?_cons_succ, List.getElem?_nil, wSeq, wAsg, wOp, wC, wCB, wCons, wNil, wRet, wIfS, wB, wNext, wIf, wCall, wDrop, wTup, wLst, wM, wM0, wSl, wSlS, wP, wNoP, wiR1, wiR2, wiIt, wiEn, wTru, wAnd, wOr, wNot, wFor, rd_int, rd_str, rd_bl, rd_non, rd_tup, rd_lf, rd_lt, rd_df, rd_dt, rd_if, rd_it, rd_scr, startD, fz, List.map, List.length, List.replicate, List.append, List.set_cons_zero, List.set_cons_succ, Int.reduceToNat, List.cons_append, List.nil_append, Nat.reduceAdd, Nat.reduceSub, endD])
  repeat' (first | trivial | dsimp only [wMakeP, makeP, wCallP, callP, wMethP, permL_nil, permL_cons, wProp, wIxI, wLockE, wiDk, wFld, wStar, wFmt, wFs, wJs, wDn, Bool.not_true, Bool.not_false, wChain, wAndV, wOrV, wNotV, wIsT, id, wNeg, wPar, wTpo, st2, st3, wFg, wFg0, puts, wip, rst, isOw, if_ff, if_tt, List.getElem?_cons_zero, List.getElem?_cons_succ, List.getElem?_nil, wSeq, wAsg, wOp, wC, wCB, wCons, wNil, wRet, wIfS, wB, wNext, wIf, wCall, wDrop, wTup, wLst, wM, wM0, wSl, wSlS, wP, wNoP, wiR1, wiR2, wiIt, wiEn, wTru, wAnd, wOr, wNot, wFor, rd_int, rd_str, rd_bl, rd_non, rd_tup, rd_lf, rd_lt, rd_df, rd_dt, rd_if, rd_it, rd_scr, startD, fz, List.map, List.length, List.replicate, List.append, List.set_cons_zero, List.set_cons_succ, Int.reduceToNat, List.cons_append, List.nil_append, Nat.reduceAdd, Nat.reduceSub, endD])
  refine i_addL rfl rfl (by rw [List.length_map, rng_len]; show 1 + 40 ≤ 16000000; decide) (i_itL rfl rfl ?_)
  show ∃ I : Nat → Sl → Prop, _
  refine ⟨fun j ρ => ρ = [some (.lst true [.int a, .int b, .int c] : D), some (.lst false (l.map D.str) : D), some (.str z : D), some (.int k : D), some (.str wd : D), none, none] ∧ ∀ n < j, ∀ x, (cand wd)[n]? = some x → x ∈ l, ⟨rfl, fun n hn => absurd hn (Nat.not_lt_zero _)⟩, ?_, ?_⟩
  · rintro j d ρ hd ⟨rfl, hj⟩
    have hd' : ((cand wd).map D.str)[j]? = some d := by rw [← cand_eq]; exact hd
    rw [List.getElem?_map] at hd'
    obtain ⟨x, ex, rfl⟩ := Option.map_eq_some_iff.mp hd'
    repeat' (first | trivial | dsimp only [wMakeP, makeP, wCallP, callP, wMethP, permL_nil, permL_cons, wProp, wIxI, wLockE, wiDk, wFld, wStar, wFmt, wFs, wJs, wDn, Bool.not_true, Bool.not_false, wChain, wAndV, wOrV, wNotV, wIsT, id, wNeg, wPar, wTpo, st2, st3, wFg, wFg0, puts, wip, rst, isOw, if_ff, if_tt, List.getElem?_cons_zero, List.getElem?_cons_succ, List.getElem?_nil, wSeq, wAsg, wOp, wC, wCB, wCons, wNil, wRet, wIfS, wB, wNext, wIf, wCall, wDrop, wTup, wLst, wM, wM0, wSl, wSlS, wP, wNoP, wiR1, wiR2, wiIt, wiEn, wTru, wAnd, wOr, wNot, wFor, rd_int, rd_str, rd_bl, rd_non, rd_tup, rd_lf, rd_lt, rd_df, rd_dt, rd_if, rd_it, rd_scr, startD, fz, List.map, List.length, List.replicate, List.append, List.set_cons_zero, List.set_cons_succ, Int.reduceToNat, List.cons_append, List.nil_append, Nat.reduceAdd, Nat.reduceSub, endD])
    · exact h x _ (cand_ok hw x (List.mem_of_getElem? ex)) (by assumption) ⟨_, _, _, rfl⟩
    · exact ⟨rfl, fun n hn y ey => (Nat.lt_succ_iff_lt_or_eq.mp hn).elim (fun z => hj n z y ey) fun z => by
        subst z
        rw [ex] at ey
        cases ey
        assumption⟩
  · rintro ρ ⟨rfl, hj⟩
    exfalso
    obtain ⟨m, hm, hq⟩ := qk_free hl
    refine hq (hj (m + 1) ?_ (qk m) ?_)
    · show m + 1 < ([D.str wd] ++ (rng 0 40).map qf).length
      rw [List.length_append, List.length_map, rng_len]; simp; omega
    · unfold cand
      simp [hm]
theorem let_at (r : Int) (h0 : 0 ≤ r) (h1 : r < 26) : ∃ c, atI ("abcdefghijklmnopqrstuvwxyz" : Str).cps.toList r = some c ∧ 97 ≤ c ∧ c ≤ 122 := by
  have : (List.range 26).all (fun k => match ("abcdefghijklmnopqrstuvwxyz" : Str).cps.toList[k]? with
    | some c => decide (97 ≤ c ∧ c ≤ 122)
    | none => false) = true := by decide +kernel
  obtain ⟨k, rfl⟩ := Int.eq_ofNat_of_zero_le h0
  have h := List.all_eq_true.mp this k (List.mem_range.mpr (by omega))
  split at h
  · rename_i c e
    exact ⟨c, atI_nat e, (of_decide_eq_true h).1, (of_decide_eq_true h).2⟩
  · cases h
theorem sig_at (r : Int) (h0 : 0 ≤ r) (h1 : r < 36) : ∃ c, atI (("abcdefghijklmnopqrstuvwxyz" : Str) ++ "0123456789").cps.toList r = some c ∧ Sign c := by
  have : (List.range 36).all (fun k => match (("abcdefghijklmnopqrstuvwxyz" : Str) ++ "0123456789").cps.toList[k]? with
    | some c => decide (Sign c)
    | none => false) = true := by decide +kernel
  obtain ⟨k, rfl⟩ := Int.eq_ofNat_of_zero_le h0
  have h := List.all_eq_true.mp this k (List.mem_range.mpr (by omega))
  split at h
  · rename_i c e
    exact ⟨c, atI_nat e, of_decide_eq_true h⟩
  · cases h
theorem tab_at : ∀ (k : Nat) (hk : k < [D.int 0, D.int 0, D.int 1, D.int 1, D.int 2, D.int 3, D.int 5, D.int 7].length), ∃ j : Int, [D.int 0, D.int 0, D.int 1, D.int 1, D.int 2, D.int 3, D.int 5, D.int 7][k] = .int j ∧ 0 ≤ j ∧ j ≤ 7
  | 0, _ | 1, _ | 2, _ | 3, _ | 4, _ | 5, _ | 6, _ | 7, _ => ⟨_, rfl, by decide, by decide⟩
  | k + 8, h => absurd h (by simp)
theorem hw__law_name (ds : List D) (Qd : D → List D → Prop) (Ed : DX) (h : sp__law_name ds Qd Ed) : w__law_name sp__law_draw (fun c fs xs _ => Ed c fs xs) (endD [0] Qd) (startD ["_law_pot_here", "_law_taken", "_law_letters", "_law_way", "_law_word", "_law_k", "_law_spare"] ds) := by
  obtain ⟨p, l, rfl, ⟨a, b, c, rfl⟩, hl, h⟩ := h
  unfold w__law_name
  repeat' (first | trivial | dsimp only [wMakeP, makeP, wCallP, callP, wMethP, permL_nil, permL_cons, wProp, wIxI, wLockE, wiDk, wFld, wStar, wFmt, wFs, wJs, wDn, Bool.not_true, Bool.not_false, wChain, wAndV, wOrV, wNotV, wIsT, id, wNeg, wPar, wTpo, st2, st3, wFg, wFg0, puts, wip, rst, isOw, if_ff, if_tt, List.getElem?_cons_zero, List.getElem?_cons_succ, List.getElem?_nil, wSeq, wAsg, wOp, wC, wCB, wCons, wNil, wRet, wIfS, wB, wNext, wIf, wCall, wDrop, wTup, wLst, wM, wM0, wSl, wSlS, wP, wNoP, wiR1, wiR2, wiIt, wiEn, wTru, wAnd, wOr, wNot, wFor, rd_int, rd_str, rd_bl, rd_non, rd_tup, rd_lf, rd_lt, rd_df, rd_dt, rd_if, rd_it, rd_scr, startD, fz, List.map, List.length, List.replicate, List.append, List.set_cons_zero, List.set_cons_succ, Int.reduceToNat, List.cons_append, List.nil_append, Nat.reduceAdd, Nat.reduceSub, endD])
  · rename_i r a b c hr0 hr1 hc
    refine i_ixB rfl rfl hr0 (by simpa using hc) fun k hk e => ?_
    have : k = 0 ∨ k = 1 ∨ k = 2 := by simp at hk; omega
    rcases this with rfl | rfl | rfl
    all_goals exact i_fz rfl (hw__law_name_r3 hl ⟨_, _, rfl, by decide, by decide, by decide⟩ h)
  · rename_i r1 a1 b1 c1 hr01 hr11 hc r a b c hr0 hr1
    obtain ⟨ch, ech, hch⟩ := let_at r hr0 hr1
    refine i_ixS (by decide +kernel) ech ?_
    repeat' (first | trivial | dsimp only [wMakeP, makeP, wCallP, callP, wMethP, permL_nil, permL_cons, wProp, wIxI, wLockE, wiDk, wFld, wStar, wFmt, wFs, wJs, wDn, Bool.not_true, Bool.not_false, wChain, wAndV, wOrV, wNotV, wIsT, id, wNeg, wPar, wTpo, st2, st3, wFg, wFg0, puts, wip, rst, isOw, if_ff, if_tt, List.getElem?_cons_zero, List.getElem?_cons_succ, List.getElem?_nil, wSeq, wAsg, wOp, wC, wCB, wCons, wNil, wRet, wIfS, wB, wNext, wIf, wCall, wDrop, wTup, wLst, wM, wM0, wSl, wSlS, wP, wNoP, wiR1, wiR2, wiIt, wiEn, wTru, wAnd, wOr, wNot, wFor, rd_int, rd_str, rd_bl, rd_non, rd_tup, rd_lf, rd_lt, rd_df, rd_dt, rd_if, rd_it, rd_scr, startD, fz, List.map, List.length, List.replicate, List.append, List.set_cons_zero, List.set_cons_succ, Int.reduceToNat, List.cons_append, List.nil_append, Nat.reduceAdd, Nat.reduceSub, endD])
    rename_i r3 a3 b3 c3 hr03 hr13
    refine i_ixB rfl rfl hr03 (by simpa using hr13) fun k hk e => ?_
    obtain ⟨j, ej, hj0, hj7⟩ := tab_at k hk
    rw [ej]
    refine ⟨j, rfl, by omega, by omega, fun i ρ => ∃ a b c wd, ρ = [some (.lst true [.int a, .int b, .int c] : D), some (.lst false (l.map D.str) : D), some (.str "abcdefghijklmnopqrstuvwxyz" : D), some (.int r1 : D), some (.str wd : D), none, none] ∧ (∃ c l, wd.cps.toList = c :: l ∧ l.length ≤ i ∧ (97 ≤ c ∧ c ≤ 122) ∧ ∀ d ∈ l, Sign d), ⟨_, _, _, _, rfl, ch, [], rfl, Nat.le_refl _, hch, fun d hd => nomatch hd⟩, ?_, ?_⟩
    · rintro i d ρ hd ⟨a, b, c, wd, rfl, c1, l1, e1, hl1, hc1, hs1⟩
      obtain ⟨hi, rfl⟩ := rng_at hd
      have hi7 : i < 7 := by omega
      repeat' (first | trivial | dsimp only [wMakeP, makeP, wCallP, callP, wMethP, permL_nil, permL_cons, wProp, wIxI, wLockE, wiDk, wFld, wStar, wFmt, wFs, wJs, wDn, Bool.not_true, Bool.not_false, wChain, wAndV, wOrV, wNotV, wIsT, id, wNeg, wPar, wTpo, st2, st3, wFg, wFg0, puts, wip, rst, isOw, if_ff, if_tt, List.getElem?_cons_zero, List.getElem?_cons_succ, List.getElem?_nil, wSeq, wAsg, wOp, wC, wCB, wCons, wNil, wRet, wIfS, wB, wNext, wIf, wCall, wDrop, wTup, wLst, wM, wM0, wSl, wSlS, wP, wNoP, wiR1, wiR2, wiIt, wiEn, wTru, wAnd, wOr, wNot, wFor, rd_int, rd_str, rd_bl, rd_non, rd_tup, rd_lf, rd_lt, rd_df, rd_dt, rd_if, rd_it, rd_scr, startD, fz, List.map, List.length, List.replicate, List.append, List.set_cons_zero, List.set_cons_succ, Int.reduceToNat, List.cons_append, List.nil_append, Nat.reduceAdd, Nat.reduceSub, endD])
      rename_i r4 a4 b4 c4 hr04 hr14
      obtain ⟨sg, esg, hsg⟩ := sig_at r4 hr04 hr14
      refine i_ixS (by decide +kernel) esg ?_
      have hlen : wd.length ≤ 8 := by
        show wd.cps.size ≤ 8
        rw [← Array.length_toList, e1]
        simp only [List.length_cons]; omega
      refine i_addS (Nat.le_trans (Nat.add_le_add hlen (Nat.le_refl 1)) (by decide)) ?_
      repeat' (first | trivial | dsimp only [wMakeP, makeP, wCallP, callP, wMethP, permL_nil, permL_cons, wProp, wIxI, wLockE, wiDk, wFld, wStar, wFmt, wFs, wJs, wDn, Bool.not_true, Bool.not_false, wChain, wAndV, wOrV, wNotV, wIsT, id, wNeg, wPar, wTpo, st2, st3, wFg, wFg0, puts, wip, rst, isOw, if_ff, if_tt, List.getElem?_cons_zero, List.getElem?_cons_succ, List.getElem?_nil, wSeq, wAsg, wOp, wC, wCB, wCons, wNil, wRet, wIfS, wB, wNext, wIf, wCall, wDrop, wTup, wLst, wM, wM0, wSl, wSlS, wP, wNoP, wiR1, wiR2, wiIt, wiEn, wTru, wAnd, wOr, wNot, wFor, rd_int, rd_str, rd_bl, rd_non, rd_tup, rd_lf, rd_lt, rd_df, rd_dt, rd_if, rd_it, rd_scr, startD, fz, List.map, List.length, List.replicate, List.append, List.set_cons_zero, List.set_cons_succ, Int.reduceToNat, List.cons_append, List.nil_append, Nat.reduceAdd, Nat.reduceSub, endD])
      refine ⟨_, _, _, _, rfl, c1, l1 ++ [sg], ?_, by rw [List.length_append]; exact Nat.succ_le_succ hl1, hc1, ?_⟩
      · show (wd.cps ++ #[sg]).toList = _
        rw [Array.toList_append, e1]; rfl
      · intro d hd
        rcases List.mem_append.mp hd with z | z
        · exact hs1 d z
        · rw [List.mem_singleton.mp z]; exact hsg
    · rintro ρ ⟨a, b, c, wd, rfl, c1, l1, e1, hl1, hc1, hs1⟩
      have hn : (rng 0 j.toNat).length ≤ 7 := by rw [rng_len]; omega
      exact hw__law_name_r3 hl ⟨c1, l1, e1, Nat.le_trans hl1 hn, hc1, hs1⟩ h
end L
namespace L
open PySem PySem.Spec PyProof.Rows L2 M
local macro_rules
  | `(tactic| trivial) => `(tactic| with_reducible first
    | refine i_var rfl ?_
    | refine i_addI ?_ | refine i_sub ?_ | refine i_mod (by omega) ?_ | refine i_fdiv (by omega) ?_
    | refine i_mulL (by omega) ?_ | refine i_mulR (by omega) ?_
    | refine ite_t ?_ | refine ite_nT ?_ | refine ite_nF ?_ | refine ite_nn ?_ | refine ite_f ?_ | refine ite_dt (by first | assumption | omega | (simp only [List.length_map, List.length_append, List.length_cons, List.length_nil, List.length_take, List.length_drop] at *; omega)) ?_ | refine ite_df (by first | assumption | omega | (simp only [List.length_map, List.length_append, List.length_cons, List.length_nil, List.length_take, List.length_drop] at *; omega)) ?_ | refine ite_ct (by assumption) ?_ | refine ite_cf (by assumption) ?_ | refine ite_nct (by assumption) ?_ | refine ite_ncf (by assumption) ?_ | refine iteD (fun hc => ?_) (fun hc => ?_) | refine ite_nf (by first | exact rfl | assumption | omega | (simp only [List.length_map, List.length_append, List.length_cons, List.length_nil, List.length_take, List.length_drop] at *; omega)) ?_ | refine ite_nt (by first | assumption | omega | (simp only [List.length_map, List.length_append, List.length_cons, List.length_nil, List.length_take, List.length_drop] at *; omega)) ?_ | refine iteN (fun hc => ?_) (fun hc => ?_) | refine i_b ?_
    | refine i_lt ?_ | refine i_le ?_ | refine i_gt ?_ | refine i_ge ?_ | refine i_eqI ?_ | refine i_neI ?_ | refine i_eqS ?_ | refine i_neS ?_
    | refine i_ixL rfl rfl rfl ?_
    | refine i_int ?_ | refine i_abs ?_ | refine i_max ?_ | refine i_min ?_ | refine i_dm (by omega) ?_
    | refine i_lenL rfl rfl ?_ | refine i_lenSc ?_ | refine i_list rfl rfl ?_ | refine i_tuple rfl rfl ?_
    | refine i_setl rfl rfl rfl rfl ?_
    | refine i_truB ?_ | refine i_pln rfl ?_ | refine i_isSS ?_ | refine i_isTT ?_ | refine i_isII ?_ | refine i_isIB ?_ | refine i_isSI ?_ | refine i_lockE rfl ?_ | refine i_dk rfl ?_ | refine i_gattr rfl rfl rfl rfl rfl (by decide +kernel) ?_ | refine i_star rfl rfl ?_ | refine i_isin rfl ?_ | refine i_nn ?_ | refine i_made ?_ | refine i_spc ?_ | refine i_qlen (by omega) ?_ | refine i_qstr ?_ | refine i_qbl ?_ | refine i_js (by simp only [empty_app, app_len, len_gt]; omega) ?_ | refine i_fmt (by omega) ?_ | refine i_inC ?_ | refine i_inKS rfl ?_ | refine i_notInKS rfl ?_ | refine i_lenD rfl ?_ | refine i_notIn2 ?_ | refine i_in2 ?_ | refine i_allM rfl ?_ | refine i_anyM rfl ?_ | refine i_index rfl (by assumption) ?_ | refine i_tyL rfl ?_ | refine i_tyS ?_ | refine i_popM rfl (by first | omega | (simp only [List.length_map, List.length_append, List.length_cons, List.length_nil, List.length_take, List.length_drop] at *; omega)) (fun m hm hme hle => ?_) | refine i_popB rfl (by first | omega | (simp only [List.length_map, List.length_append, List.length_cons, List.length_nil, List.length_take, List.length_drop] at *; omega)) (fun m hm hme => ?_) | refine i_par rfl rfl ?_ | refine i_tpo rfl rfl ?_ | refine i_fzE rfl ?_ | refine i_fzE (fzR_P (by assumption)) ?_ | refine i_fz rfl ?_ | refine i_fz (fzR_P (by assumption)) ?_ | refine i_app rfl rfl (by first | omega | (simp only [List.length_map, List.length_append, List.length_cons, List.length_nil, List.length_take, List.length_drop] at *; omega)) ?_ | refine i_ow rfl ?_ | refine i_unp rfl ?_ | refine i_unpO rfl ?_ | refine i_gcons ?_ | refine i_gnil ?_
    | refine i_strB (by omega) ?_ | refine i_notInS rfl rfl ?_ | refine i_inS rfl rfl ?_ | refine i_notInI rfl rfl ?_ | refine i_inI rfl rfl ?_
    | refine i_addS (by first | decide | (simp only [len_plus, len_minus, len_gt, len_places, app_len]; omega)) ?_ | refine i_addL rfl rfl (by decide) ?_ | refine i_addL rfl rfl (by first | omega | (simp only [List.length_map, List.length_append, List.length_cons, List.length_nil, List.length_take, List.length_drop] at *; omega)) ?_
    | refine i_pow (by omega) ?_ | refine i_disp rfl rfl ?_ | refine i_slL rfl ?_ | refine i_slT ?_ | refine i_scr ?_ | refine i_opt ?_ | refine i_itL rfl rfl ?_ | refine i_itS ?_ | refine i_en rfl rfl ?_ | refine i_r1 (by first | omega | (simp only [List.length_map, List.length_append, List.length_cons, List.length_nil, List.length_take, List.length_drop] at *; omega)) ?_ | refine i_r2 (by first | omega | (simp only [List.length_map, List.length_append, List.length_cons, List.length_nil, List.length_take, List.length_drop] at *; omega)) ?_ | refine i_lc0 ?_ | refine i_dc0 ?_ | refine i_kfz rfl rfl ?_ | refine i_ixSc rfl ?_
    | refine i_ret rfl rfl ?_ | refine i_fzs rfl ?_)

theorem i_name {a b c : Int} {xs : List D} (l : List Str) (e : xs = l.map D.str) {Q : D → List D → Prop} {E : DX} (h : l.length ≤ 39) (q : ∀ r a b c, NameOk r → r ∉ l → Q (.str r) [.lst true [.int a, .int b, .int c]]) : sp__law_name [.lst true [.int a, .int b, .int c], .lst false xs] Q E :=
  ⟨_, l, by rw [e], ⟨_, _, _, rfl⟩, h, fun r p' h0 h1 ⟨a, b, c, e⟩ => e ▸ q r a b c h0 h1⟩
local macro_rules
  | `(tactic| trivial) => `(tactic| with_reducible first | refine i_call rfl rfl rfl ?_ | refine i_draw (by omega) (fun r a b c hr0 hr1 => ?_))
def w__law_spread_r2 (sp__law_draw : Spd) (Ex : DXs) : WS :=
  (wRet (wVar 3))
def w__law_spread (sp__law_draw : Spd) (Ex : DXs) : WS :=
  (wSeq (wPar [true, true] (st2 2 3) 2 (wCons (wCB nList (wCons (wVar 1) wNil)) (wCons (wLst wNil) wNil)))
  (wSeq (wFg [4] (wFg0 [4] (wFor (wiR1 (wCons (wCB nLen (wCons (wVar 2) wNil)) wNil)) (gFz 4)
  (wFg [4] (wDrop (wM "list" nApp (wVar 3) (wCons (wM "list" nPopAt (wVar 2) (wCons (wCall [0] [] 2 sp__law_draw [] exF (wCons (wVar 0) (wCons (wCB nLen (wCons (wVar 2) wNil)) wNil))) wNil)) wNil)))))))
  (w__law_spread_r2 sp__law_draw Ex)))
def sp__law_spread : Spd := fun ds Q _ => ∃ (p x : D) (xs : List D), ds = [p, x] ∧ its x = some xs ∧ isOw x = false ∧ Pot p ∧ xs.length ≤ 10000 ∧ (∀ d ∈ xs, Pl d) ∧ ∀ (ys : List D) p', ys.Perm xs → Pot p' → Q (.lst true ys) [p']
theorem hw__law_spread (ds : List D) (Qd : D → List D → Prop) (Ed : DX) (h : sp__law_spread ds Qd Ed) : w__law_spread sp__law_draw (fun c fs xs _ => Ed c fs xs) (endD [0] Qd) (startD ["_law_pot_here", "_law_things", "_law_left", "_law_found", "_law_k"] ds) := by
  obtain ⟨p, x, xs, rfl, hx, ho, ⟨a, b, c, rfl⟩, hl, hp, h⟩ := h
  unfold w__law_spread
  rcases its_cases hx ho with rfl | rfl
  all_goals
    repeat' (first | trivial | dsimp only [w__law_spread_r2, wMakeP, makeP, wCallP, callP, wMethP, permL_nil, permL_cons, wProp, wIxI, wLockE, wiDk, wFld, wStar, wFmt, wFs, wJs, wDn, Bool.not_true, Bool.not_false, wChain, wAndV, wOrV, wNotV, wIsT, id, wNeg, wPar, wTpo, st2, st3, wFg, wFg0, puts, wip, rst, isOw, if_ff, if_tt, List.getElem?_cons_zero, List.getElem?_cons_succ, List.getElem?_nil, wSeq, wAsg, wOp, wC, wCB, wCons, wNil, wRet, wIfS, wB, wNext, wIf, wCall, wDrop, wTup, wLst, wM, wM0, wSl, wSlS, wP, wNoP, wiR1, wiR2, wiIt, wiEn, wTru, wAnd, wOr, wNot, wFor, rd_int, rd_str, rd_bl, rd_non, rd_tup, rd_lf, rd_lt, rd_df, rd_dt, rd_if, rd_it, rd_scr, startD, fz, List.map, List.length, List.replicate, List.append, List.set_cons_zero, List.set_cons_succ, Int.reduceToNat, List.cons_append, List.nil_append, Nat.reduceAdd, Nat.reduceSub, endD])
    refine ⟨fun i ρ => ∃ a b c left found, ρ = [some (.lst true [.int a, .int b, .int c]), some _, some (.lst true left), some (.lst true found), none] ∧ left.length + i = xs.length ∧ found.length = i ∧ (left ++ found).Perm xs, ⟨_, _, _, _, _, rfl, rfl, rfl, by simp⟩, ?_, ?_⟩
    · rintro i d ρ hd ⟨a, b, c, left, found, rfl, hl1, hl2, hpm⟩
      obtain ⟨hi, rfl⟩ := rng_at hd
      repeat' (first | trivial | dsimp only [wMakeP, makeP, wCallP, callP, wMethP, permL_nil, permL_cons, wProp, wIxI, wLockE, wiDk, wFld, wStar, wFmt, wFs, wJs, wDn, Bool.not_true, Bool.not_false, wChain, wAndV, wOrV, wNotV, wIsT, id, wNeg, wPar, wTpo, st2, st3, wFg, wFg0, puts, wip, rst, isOw, if_ff, if_tt, List.getElem?_cons_zero, List.getElem?_cons_succ, List.getElem?_nil, wSeq, wAsg, wOp, wC, wCB, wCons, wNil, wRet, wIfS, wB, wNext, wIf, wCall, wDrop, wTup, wLst, wM, wM0, wSl, wSlS, wP, wNoP, wiR1, wiR2, wiIt, wiEn, wTru, wAnd, wOr, wNot, wFor, rd_int, rd_str, rd_bl, rd_non, rd_tup, rd_lf, rd_lt, rd_df, rd_dt, rd_if, rd_it, rd_scr, startD, fz, List.map, List.length, List.replicate, List.append, List.set_cons_zero, List.set_cons_succ, Int.reduceToNat, List.cons_append, List.nil_append, Nat.reduceAdd, Nat.reduceSub, endD])
      rename_i r a b c hr0 hr1 m hm hme
      have hpl : Pl left[m] := hp _ (hpm.mem_iff.mp (List.mem_append_left _ (List.getElem_mem hm)))
      refine i_app (fzR_P hpl) rfl (by omega) ?_
      refine ⟨_, _, _, left.eraseIdx m, found ++ [left[m]], rfl, ?_, by simp [hl2], ?_⟩
      · rw [List.length_eraseIdx_of_lt hm]; omega
      · refine List.Perm.trans ?_ hpm
        have q := (perm_erase hm).append_right found
        refine List.Perm.trans ?_ q
        rw [← List.append_assoc]
        exact List.perm_append_singleton _ _
    · rintro ρ ⟨a, b, c, left, found, rfl, hl1, hl2, hpm⟩
      repeat' (first | trivial | dsimp only [wMakeP, makeP, wCallP, callP, wMethP, permL_nil, permL_cons, wProp, wIxI, wLockE, wiDk, wFld, wStar, wFmt, wFs, wJs, wDn, Bool.not_true, Bool.not_false, wChain, wAndV, wOrV, wNotV, wIsT, id, wNeg, wPar, wTpo, st2, st3, wFg, wFg0, puts, wip, rst, isOw, if_ff, if_tt, List.getElem?_cons_zero, List.getElem?_cons_succ, List.getElem?_nil, wSeq, wAsg, wOp, wC, wCB, wCons, wNil, wRet, wIfS, wB, wNext, wIf, wCall, wDrop, wTup, wLst, wM, wM0, wSl, wSlS, wP, wNoP, wiR1, wiR2, wiIt, wiEn, wTru, wAnd, wOr, wNot, wFor, rd_int, rd_str, rd_bl, rd_non, rd_tup, rd_lf, rd_lt, rd_df, rd_dt, rd_if, rd_it, rd_scr, startD, fz, List.map, List.length, List.replicate, List.append, List.set_cons_zero, List.set_cons_succ, Int.reduceToNat, List.cons_append, List.nil_append, Nat.reduceAdd, Nat.reduceSub, endD])
      rw [rng_len] at hl1
      have : left = [] := List.length_eq_zero_iff.mp (by omega)
      subst this
      exact h _ _ hpm ⟨_, _, _, rfl⟩
def w__law_names_r2 (sp__law_name : Spd) (Ex : DXs) : WS :=
  (wRet (wVar 3))
def w__law_names (sp__law_name : Spd) (Ex : DXs) : WS :=
  (wSeq (wAsg (wLst wNil) (gOw 3))
  (wSeq (wFg [4] (wFg0 [4] (wFor (wiR1 (wCons (wVar 1) wNil)) (gFz 4)
  (wFg [4] (wDrop (wM "list" nApp (wVar 3) (wCons (wCall [0] [] 2 sp__law_name [] exF (wCons (wVar 0) (wCons (wOp oAdd (wCB nList (wCons (wVar 2) wNil)) (wVar 3)) wNil))) wNil)))))))
  (w__law_names_r2 sp__law_name Ex)))
def sp__law_names : Spd := fun ds Q _ => ∃ (p x : D) (n : Nat) (tk : List Str), ds = [p, .int n, x] ∧ its x = some (tk.map D.str) ∧ isOw x = false ∧ Pot p ∧ n + tk.length ≤ 40 ∧ ∀ (l : List Str) p', l.length = n → (∀ x ∈ l, NameOk x ∧ x ∉ tk) → l.Nodup → Pot p' → Q (.lst true (l.map D.str)) [p']
theorem hw__law_names (ds : List D) (Qd : D → List D → Prop) (Ed : DX) (h : sp__law_names ds Qd Ed) : w__law_names sp__law_name (fun c fs xs _ => Ed c fs xs) (endD [0] Qd) (startD ["_law_pot_here", "_law_many", "_law_taken", "_law_found", "_law_k"] ds) := by
  obtain ⟨p, x, n, tk, rfl, hx, ho, ⟨a, b, c, rfl⟩, hn, h⟩ := h
  unfold w__law_names
  rcases its_cases hx ho with rfl | rfl
  all_goals
    repeat' (first | trivial | dsimp only [w__law_names_r2, wMakeP, makeP, wCallP, callP, wMethP, permL_nil, permL_cons, wProp, wIxI, wLockE, wiDk, wFld, wStar, wFmt, wFs, wJs, wDn, Bool.not_true, Bool.not_false, wChain, wAndV, wOrV, wNotV, wIsT, id, wNeg, wPar, wTpo, st2, st3, wFg, wFg0, puts, wip, rst, isOw, if_ff, if_tt, List.getElem?_cons_zero, List.getElem?_cons_succ, List.getElem?_nil, wSeq, wAsg, wOp, wC, wCB, wCons, wNil, wRet, wIfS, wB, wNext, wIf, wCall, wDrop, wTup, wLst, wM, wM0, wSl, wSlS, wP, wNoP, wiR1, wiR2, wiIt, wiEn, wTru, wAnd, wOr, wNot, wFor, rd_int, rd_str, rd_bl, rd_non, rd_tup, rd_lf, rd_lt, rd_df, rd_dt, rd_if, rd_it, rd_scr, startD, fz, List.map, List.length, List.replicate, List.append, List.set_cons_zero, List.set_cons_succ, Int.reduceToNat, List.cons_append, List.nil_append, Nat.reduceAdd, Nat.reduceSub, endD])
    refine ⟨fun i ρ => ∃ a b c l, ρ = [some (.lst true [.int a, .int b, .int c]), some (.int n), some _, some (.lst true (l.map D.str)), none] ∧ l.length = i ∧ (∀ x ∈ l, NameOk x ∧ x ∉ tk) ∧ l.Nodup, ⟨_, _, _, [], rfl, rfl, fun d hd => (nomatch hd), List.nodup_nil⟩, ?_, ?_⟩
    · rintro i d ρ hd ⟨a, b, c, l, rfl, hl, hk, hnd⟩
      obtain ⟨hi, rfl⟩ := rng_at hd
      repeat' (first | trivial | dsimp only [wMakeP, makeP, wCallP, callP, wMethP, permL_nil, permL_cons, wProp, wIxI, wLockE, wiDk, wFld, wStar, wFmt, wFs, wJs, wDn, Bool.not_true, Bool.not_false, wChain, wAndV, wOrV, wNotV, wIsT, id, wNeg, wPar, wTpo, st2, st3, wFg, wFg0, puts, wip, rst, isOw, if_ff, if_tt, List.getElem?_cons_zero, List.getElem?_cons_succ, List.getElem?_nil, wSeq, wAsg, wOp, wC, wCB, wCons, wNil, wRet, wIfS, wB, wNext, wIf, wCall, wDrop, wTup, wLst, wM, wM0, wSl, wSlS, wP, wNoP, wiR1, wiR2, wiIt, wiEn, wTru, wAnd, wOr, wNot, wFor, rd_int, rd_str, rd_bl, rd_non, rd_tup, rd_lf, rd_lt, rd_df, rd_dt, rd_if, rd_it, rd_scr, startD, fz, List.map, List.length, List.replicate, List.append, List.set_cons_zero, List.set_cons_succ, Int.reduceToNat, List.cons_append, List.nil_append, Nat.reduceAdd, Nat.reduceSub, endD])
      refine i_name (tk ++ l) (by simp) (by simp; omega) fun r a b c hr hr2 => ?_
      repeat' (first | trivial | dsimp only [wMakeP, makeP, wCallP, callP, wMethP, permL_nil, permL_cons, wProp, wIxI, wLockE, wiDk, wFld, wStar, wFmt, wFs, wJs, wDn, Bool.not_true, Bool.not_false, wChain, wAndV, wOrV, wNotV, wIsT, id, wNeg, wPar, wTpo, st2, st3, wFg, wFg0, puts, wip, rst, isOw, if_ff, if_tt, List.getElem?_cons_zero, List.getElem?_cons_succ, List.getElem?_nil, wSeq, wAsg, wOp, wC, wCB, wCons, wNil, wRet, wIfS, wB, wNext, wIf, wCall, wDrop, wTup, wLst, wM, wM0, wSl, wSlS, wP, wNoP, wiR1, wiR2, wiIt, wiEn, wTru, wAnd, wOr, wNot, wFor, rd_int, rd_str, rd_bl, rd_non, rd_tup, rd_lf, rd_lt, rd_df, rd_dt, rd_if, rd_it, rd_scr, startD, fz, List.map, List.length, List.replicate, List.append, List.set_cons_zero, List.set_cons_succ, Int.reduceToNat, List.cons_append, List.nil_append, Nat.reduceAdd, Nat.reduceSub, endD])
      refine ⟨_, _, _, l ++ [r], by rw [List.map_append]; rfl, by simp [hl], fun x hx => ?_, ?_⟩
      · rcases List.mem_append.mp hx with z | z
        · exact hk x z
        · rw [List.mem_singleton.mp z]; exact ⟨hr, fun y => hr2 (List.mem_append_left _ y)⟩
      · refine List.nodup_append.mpr ⟨hnd, by simp, fun x hx y hy e => ?_⟩
        rw [List.mem_singleton.mp hy] at e
        subst e
        exact hr2 (List.mem_append_right _ hx)
    · rintro ρ ⟨a, b, c, l, rfl, hl, hk, hnd⟩
      repeat' (first | trivial | dsimp only [wMakeP, makeP, wCallP, callP, wMethP, permL_nil, permL_cons, wProp, wIxI, wLockE, wiDk, wFld, wStar, wFmt, wFs, wJs, wDn, Bool.not_true, Bool.not_false, wChain, wAndV, wOrV, wNotV, wIsT, id, wNeg, wPar, wTpo, st2, st3, wFg, wFg0, puts, wip, rst, isOw, if_ff, if_tt, List.getElem?_cons_zero, List.getElem?_cons_succ, List.getElem?_nil, wSeq, wAsg, wOp, wC, wCB, wCons, wNil, wRet, wIfS, wB, wNext, wIf, wCall, wDrop, wTup, wLst, wM, wM0, wSl, wSlS, wP, wNoP, wiR1, wiR2, wiIt, wiEn, wTru, wAnd, wOr, wNot, wFor, rd_int, rd_str, rd_bl, rd_non, rd_tup, rd_lf, rd_lt, rd_df, rd_dt, rd_if, rd_it, rd_scr, startD, fz, List.map, List.length, List.replicate, List.append, List.set_cons_zero, List.set_cons_succ, Int.reduceToNat, List.cons_append, List.nil_append, Nat.reduceAdd, Nat.reduceSub, endD])
      rw [rng_len] at hl
      exact h l _ (by omega) hk hnd ⟨_, _, _, rfl⟩
end L
namespace L
open PySem PySem.Spec PyProof.Rows L2 M
local macro_rules
  | `(tactic| trivial) => `(tactic| with_reducible first
    | refine i_var rfl ?_
    | refine i_addI ?_ | refine i_sub ?_ | refine i_mod (by omega) ?_ | refine i_fdiv (by omega) ?_
    | refine i_mulL (by omega) ?_ | refine i_mulR (by omega) ?_
    | refine ite_t ?_ | refine ite_nT ?_ | refine ite_nF ?_ | refine ite_nn ?_ | refine ite_f ?_ | refine ite_dt (by first | assumption | omega | (simp only [List.length_map, List.length_append, List.length_cons, List.length_nil, List.length_take, List.length_drop] at *; omega)) ?_ | refine ite_df (by first | assumption | omega | (simp only [List.length_map, List.length_append, List.length_cons, List.length_nil, List.length_take, List.length_drop] at *; omega)) ?_ | refine ite_ct (by assumption) ?_ | refine ite_cf (by assumption) ?_ | refine ite_nct (by assumption) ?_ | refine ite_ncf (by assumption) ?_ | refine iteD (fun hc => ?_) (fun hc => ?_) | refine ite_nf (by first | exact rfl | assumption | omega | (simp only [List.length_map, List.length_append, List.length_cons, List.length_nil, List.length_take, List.length_drop] at *; omega)) ?_ | refine ite_nt (by first | assumption | omega | (simp only [List.length_map, List.length_append, List.length_cons, List.length_nil, List.length_take, List.length_drop] at *; omega)) ?_ | refine iteN (fun hc => ?_) (fun hc => ?_) | refine i_b ?_
    | refine i_lt ?_ | refine i_le ?_ | refine i_gt ?_ | refine i_ge ?_ | refine i_eqI ?_ | refine i_neI ?_ | refine i_eqS ?_ | refine i_neS ?_
    | refine i_ixL rfl rfl rfl ?_
    | refine i_int ?_ | refine i_abs ?_ | refine i_max ?_ | refine i_min ?_ | refine i_dm (by omega) ?_
    | refine i_lenL rfl rfl ?_ | refine i_lenSc ?_ | refine i_list rfl rfl ?_ | refine i_tuple rfl rfl ?_
    | refine i_setl rfl rfl rfl rfl ?_
    | refine i_truB ?_ | refine i_pln rfl ?_ | refine i_isSS ?_ | refine i_isTT ?_ | refine i_isII ?_ | refine i_isIB ?_ | refine i_isSI ?_ | refine i_lockE rfl ?_ | refine i_dk rfl ?_ | refine i_gattr rfl rfl rfl rfl rfl (by decide +kernel) ?_ | refine i_star rfl rfl ?_ | refine i_isin rfl ?_ | refine i_nn ?_ | refine i_made ?_ | refine i_spc ?_ | refine i_qlen (by omega) ?_ | refine i_qstr ?_ | refine i_qbl ?_ | refine i_js (by simp only [empty_app, app_len, len_gt]; omega) ?_ | refine i_fmt (by omega) ?_ | refine i_inC ?_ | refine i_inKS rfl ?_ | refine i_notInKS rfl ?_ | refine i_lenD rfl ?_ | refine i_notIn2 ?_ | refine i_in2 ?_ | refine i_allM rfl ?_ | refine i_anyM rfl ?_ | refine i_index rfl (by assumption) ?_ | refine i_tyL rfl ?_ | refine i_tyS ?_ | refine i_popM rfl (by first | omega | (simp only [List.length_map, List.length_append, List.length_cons, List.length_nil, List.length_take, List.length_drop] at *; omega)) (fun m hm hme hle => ?_) | refine i_popB rfl (by first | omega | (simp only [List.length_map, List.length_append, List.length_cons, List.length_nil, List.length_take, List.length_drop] at *; omega)) (fun m hm hme => ?_) | refine i_par rfl rfl ?_ | refine i_tpo rfl rfl ?_ | refine i_fzE rfl ?_ | refine i_fzE (fzR_P (by assumption)) ?_ | refine i_fz rfl ?_ | refine i_fz (fzR_P (by assumption)) ?_ | refine i_app rfl rfl (by first | omega | (simp only [List.length_map, List.length_append, List.length_cons, List.length_nil, List.length_take, List.length_drop] at *; omega)) ?_ | refine i_ow rfl ?_ | refine i_unp rfl ?_ | refine i_unpO rfl ?_ | refine i_gcons ?_ | refine i_gnil ?_
    | refine i_strB (by omega) ?_ | refine i_notInS rfl rfl ?_ | refine i_inS rfl rfl ?_ | refine i_notInI rfl rfl ?_ | refine i_inI rfl rfl ?_
    | refine i_addS (by first | decide | (simp only [len_plus, len_minus, len_gt, len_places, app_len]; omega)) ?_ | refine i_addL rfl rfl (by decide) ?_ | refine i_addL rfl rfl (by first | omega | (simp only [List.length_map, List.length_append, List.length_cons, List.length_nil, List.length_take, List.length_drop] at *; omega)) ?_
    | refine i_pow (by omega) ?_ | refine i_disp rfl rfl ?_ | refine i_slL rfl ?_ | refine i_slT ?_ | refine i_scr ?_ | refine i_opt ?_ | refine i_itL rfl rfl ?_ | refine i_itS ?_ | refine i_en rfl rfl ?_ | refine i_r1 (by first | omega | (simp only [List.length_map, List.length_append, List.length_cons, List.length_nil, List.length_take, List.length_drop] at *; omega)) ?_ | refine i_r2 (by first | omega | (simp only [List.length_map, List.length_append, List.length_cons, List.length_nil, List.length_take, List.length_drop] at *; omega)) ?_ | refine i_lc0 ?_ | refine i_dc0 ?_ | refine i_kfz rfl rfl ?_ | refine i_ixSc rfl ?_
    | refine i_ret rfl rfl ?_ | refine i_fzs rfl ?_)

local macro_rules
  | `(tactic| trivial) => `(tactic| with_reducible first | refine i_call rfl rfl rfl ?_ | refine i_draw (by first | omega | (simp only [List.length_map, List.length_append, List.length_cons, List.length_nil, List.length_take, List.length_drop] at *; omega)) (fun r a b c hr0 hr1 => ?_) | refine i_callB (by decide) rfl rfl rfl rfl ?_)
def w__law_games_r2 (sp__law_name : Spd) (sp__law_draw : Spd) (Ex : DXs) : WS :=
  (wRet (wTup (wCons (wVar 5) (wCons (wVar 3) wNil))))
def w__law_games (sp__law_name : Spd) (sp__law_draw : Spd) (Ex : DXs) : WS :=
  (wSeq (wPar [true, true, true] (st3 3 4 5) 3 (wCons (wCB nList (wCons (wVar 1) wNil)) (wCons (wCB nList (wCons (wVar 1) wNil)) (wCons (wLst wNil) wNil))))
  (wSeq (wFg [6, 7, 8, 9] (wFg0 [6, 7, 8, 9] (wFor (wiR1 (wCons (wVar 2) wNil)) (gFz 6)
  (wFg [6, 7, 8, 9] (wSeq (wAsg (wCall [0] [1] 2 sp__law_name [] exF (wCons (wVar 0) (wCons (wVar 4) wNil))) (gFz 7))
  (wSeq (wAsg (wM "list" nPopAt (wVar 3) (wCons (wCall [0] [] 2 sp__law_draw [] exF (wCons (wVar 0) (wCons (wCB nLen (wCons (wVar 3) wNil)) wNil))) wNil)) (gFz 8))
  (wSeq (wAsg (wM "list" nPopAt (wVar 3) (wCons (wCall [0] [] 2 sp__law_draw [] exF (wCons (wVar 0) (wCons (wCB nLen (wCons (wVar 3) wNil)) wNil))) wNil)) (gFz 9))
  (wSeq (wDrop (wM "list" nApp (wVar 4) (wCons (wVar 7) wNil)))
  (wSeq (wAsg (wOp oAdd (wVar 3) (wLst (wCons (wOp oAdd (wVar 7) (wC (.str "+"))) (wCons (wOp oAdd (wVar 7) (wC (.str "-"))) wNil)))) (gOw 3))
  (wDrop (wM "list" nApp (wVar 5) (wCons (wTup (wCons (wVar 7) (wCons (wVar 8) (wCons (wVar 9) wNil)))) wNil))))))))))))
  (w__law_games_r2 sp__law_name sp__law_draw Ex)))
def sp__law_games : Spd := fun ds Q _ => ∃ (p x : D) (n : Nat) (folk : List Str), ds = [p, x, .int n] ∧ its x = some (folk.map D.str) ∧ isOw x = false ∧ Pot p ∧ Folk folk ∧ n ≤ 24 ∧ ∀ (gs : List Game) p', gs.length = n → GamesOk folk folk gs → Pot p' → Q (.tup [.lst false (gs.map eG), .lst false ((endsOf folk gs).map D.str)]) [p']
theorem hw__law_games (ds : List D) (Qd : D → List D → Prop) (Ed : DX) (h : sp__law_games ds Qd Ed) : w__law_games sp__law_name sp__law_draw (fun c fs xs _ => Ed c fs xs) (endD [0] Qd) (startD ["_law_pot_here", "_law_folk", "_law_many", "_law_there", "_law_taken", "_law_found", "_law_k", "_law_own", "_law_near", "_law_far"] ds) := by
  obtain ⟨p, x, n, folk, rfl, hx, ho, ⟨a, b, c, rfl⟩, hf, hn, h⟩ := h
  have hs0 := Srcs.start hf.nm hf.nd
  have hge := hf.ge
  have hle := hf.le
  unfold w__law_games
  rcases its_cases hx ho with rfl | rfl
  all_goals
    repeat' (first | trivial | dsimp only [w__law_games_r2, wMakeP, makeP, wCallP, callP, wMethP, permL_nil, permL_cons, wProp, wIxI, wLockE, wiDk, wFld, wStar, wFmt, wFs, wJs, wDn, Bool.not_true, Bool.not_false, wChain, wAndV, wOrV, wNotV, wIsT, id, wNeg, wPar, wTpo, st2, st3, wFg, wFg0, puts, wip, rst, isOw, if_ff, if_tt, List.getElem?_cons_zero, List.getElem?_cons_succ, List.getElem?_nil, wSeq, wAsg, wOp, wC, wCB, wCons, wNil, wRet, wIfS, wB, wNext, wIf, wCall, wDrop, wTup, wLst, wM, wM0, wSl, wSlS, wP, wNoP, wiR1, wiR2, wiIt, wiEn, wTru, wAnd, wOr, wNot, wFor, rd_int, rd_str, rd_bl, rd_non, rd_tup, rd_lf, rd_lt, rd_df, rd_dt, rd_if, rd_it, rd_scr, startD, fz, List.map, List.length, List.replicate, List.append, List.set_cons_zero, List.set_cons_succ, Int.reduceToNat, List.cons_append, List.nil_append, Nat.reduceAdd, Nat.reduceSub, endD])
    refine ⟨fun i ρ => ∃ a b c y gs, ρ = [some (.lst true [.int a, .int b, .int c]), some y, some (.int n), some (.lst true ((endsOf folk gs).map D.str)), some (.lst true ((folk ++ gs.map (·.1)).map D.str)), some (.lst true (gs.map eG)), none, none, none, none] ∧ gs.length = i ∧ GamesOk folk folk gs, ⟨a, b, c, _, [], by rw [List.map_nil, List.append_nil]; rfl, rfl, trivial⟩, ?_, ?_⟩
    · rintro i d ρ hd ⟨a, b, c, y, gs, rfl, hl, hg⟩
      obtain ⟨hi, rfl⟩ := rng_at hd
      have hs := hs0.games hg
      have hel := ends_len hs0 hg
      repeat' (first | trivial | dsimp only [wMakeP, makeP, wCallP, callP, wMethP, permL_nil, permL_cons, wProp, wIxI, wLockE, wiDk, wFld, wStar, wFmt, wFs, wJs, wDn, Bool.not_true, Bool.not_false, wChain, wAndV, wOrV, wNotV, wIsT, id, wNeg, wPar, wTpo, st2, st3, wFg, wFg0, puts, wip, rst, isOw, if_ff, if_tt, List.getElem?_cons_zero, List.getElem?_cons_succ, List.getElem?_nil, wSeq, wAsg, wOp, wC, wCB, wCons, wNil, wRet, wIfS, wB, wNext, wIf, wCall, wDrop, wTup, wLst, wM, wM0, wSl, wSlS, wP, wNoP, wiR1, wiR2, wiIt, wiEn, wTru, wAnd, wOr, wNot, wFor, rd_int, rd_str, rd_bl, rd_non, rd_tup, rd_lf, rd_lt, rd_df, rd_dt, rd_if, rd_it, rd_scr, startD, fz, List.map, List.length, List.replicate, List.append, List.set_cons_zero, List.set_cons_succ, Int.reduceToNat, List.cons_append, List.nil_append, Nat.reduceAdd, Nat.reduceSub, endD])
      refine i_name (folk ++ gs.map (·.1)) rfl (by simp; omega) fun r a b c hr hr2 => i_nfz rfl rfl ?_
      have hrl := hr.len.2
      repeat' (first | trivial | dsimp only [wMakeP, makeP, wCallP, callP, wMethP, permL_nil, permL_cons, wProp, wIxI, wLockE, wiDk, wFld, wStar, wFmt, wFs, wJs, wDn, Bool.not_true, Bool.not_false, wChain, wAndV, wOrV, wNotV, wIsT, id, wNeg, wPar, wTpo, st2, st3, wFg, wFg0, puts, wip, rst, isOw, if_ff, if_tt, List.getElem?_cons_zero, List.getElem?_cons_succ, List.getElem?_nil, wSeq, wAsg, wOp, wC, wCB, wCons, wNil, wRet, wIfS, wB, wNext, wIf, wCall, wDrop, wTup, wLst, wM, wM0, wSl, wSlS, wP, wNoP, wiR1, wiR2, wiIt, wiEn, wTru, wAnd, wOr, wNot, wFor, rd_int, rd_str, rd_bl, rd_non, rd_tup, rd_lf, rd_lt, rd_df, rd_dt, rd_if, rd_it, rd_scr, startD, fz, List.map, List.length, List.replicate, List.append, List.set_cons_zero, List.set_cons_succ, Int.reduceToNat, List.cons_append, List.nil_append, Nat.reduceAdd, Nat.reduceSub, endD])
      rename_i r1 a1 b1 c1 hr10 hr11 m hm hme hem r2 a2 b2 c2 hr20 hr21 n2 hn2 hne hen
      obtain ⟨h1, h2, h3, h4⟩ := pop2 hs.nd hm hn2
      refine ⟨a2, b2, c2, y, gs ++ [(r, (endsOf folk gs)[m], ((endsOf folk gs).eraseIdx m)[n2])], ?_, by rw [List.length_append, hl]; rfl, hg.snoc hr hr2 h1 h2 h3⟩
      rw [endsOf_snoc, List.map_append, List.map_append, List.map_append]
      unfold stepG
      rw [← h4, List.map_append]
      simp only [List.map_append, List.append_assoc, List.map_cons, List.map_nil]
      all_goals rfl
    · rintro ρ ⟨a, b, c, y, gs, rfl, hl, hg⟩
      repeat' (first | trivial | dsimp only [wMakeP, makeP, wCallP, callP, wMethP, permL_nil, permL_cons, wProp, wIxI, wLockE, wiDk, wFld, wStar, wFmt, wFs, wJs, wDn, Bool.not_true, Bool.not_false, wChain, wAndV, wOrV, wNotV, wIsT, id, wNeg, wPar, wTpo, st2, st3, wFg, wFg0, puts, wip, rst, isOw, if_ff, if_tt, List.getElem?_cons_zero, List.getElem?_cons_succ, List.getElem?_nil, wSeq, wAsg, wOp, wC, wCB, wCons, wNil, wRet, wIfS, wB, wNext, wIf, wCall, wDrop, wTup, wLst, wM, wM0, wSl, wSlS, wP, wNoP, wiR1, wiR2, wiIt, wiEn, wTru, wAnd, wOr, wNot, wFor, rd_int, rd_str, rd_bl, rd_non, rd_tup, rd_lf, rd_lt, rd_df, rd_dt, rd_if, rd_it, rd_scr, startD, fz, List.map, List.length, List.replicate, List.append, List.set_cons_zero, List.set_cons_succ, Int.reduceToNat, List.cons_append, List.nil_append, Nat.reduceAdd, Nat.reduceSub, endD])
      rw [rng_len] at hl
      exact h gs _ (by omega) hg ⟨_, _, _, rfl⟩
end L
namespace L
open PySem PySem.Spec PyProof.Rows L2 M
local macro_rules
  | `(tactic| trivial) => `(tactic| with_reducible first
    | refine i_var rfl ?_
    | refine i_addI ?_ | refine i_sub ?_ | refine i_mod (by omega) ?_ | refine i_fdiv (by omega) ?_
    | refine i_mulL (by omega) ?_ | refine i_mulR (by omega) ?_
    | refine ite_t ?_ | refine ite_nT ?_ | refine ite_nF ?_ | refine ite_nn ?_ | refine ite_f ?_ | refine ite_dt (by first | assumption | omega | (simp only [List.length_map, List.length_append, List.length_cons, List.length_nil, List.length_take, List.length_drop] at *; omega)) ?_ | refine ite_df (by first | assumption | omega | (simp only [List.length_map, List.length_append, List.length_cons, List.length_nil, List.length_take, List.length_drop] at *; omega)) ?_ | refine ite_ct (by assumption) ?_ | refine ite_cf (by assumption) ?_ | refine ite_nct (by assumption) ?_ | refine ite_ncf (by assumption) ?_ | refine iteD (fun hc => ?_) (fun hc => ?_) | refine ite_nf (by first | exact rfl | assumption | omega | (simp only [List.length_map, List.length_append, List.length_cons, List.length_nil, List.length_take, List.length_drop] at *; omega)) ?_ | refine ite_nt (by first | assumption | omega | (simp only [List.length_map, List.length_append, List.length_cons, List.length_nil, List.length_take, List.length_drop] at *; omega)) ?_ | refine iteN (fun hc => ?_) (fun hc => ?_) | refine i_b ?_
    | refine i_lt ?_ | refine i_le ?_ | refine i_gt ?_ | refine i_ge ?_ | refine i_eqI ?_ | refine i_neI ?_ | refine i_eqS ?_ | refine i_neS ?_
    | refine i_ixL rfl rfl rfl ?_
    | refine i_int ?_ | refine i_abs ?_ | refine i_max ?_ | refine i_min ?_ | refine i_dm (by omega) ?_
    | refine i_lenL rfl rfl ?_ | refine i_lenSc ?_ | refine i_list rfl rfl ?_ | refine i_tuple rfl rfl ?_
    | refine i_setl rfl rfl rfl rfl ?_
    | refine i_truB ?_ | refine i_pln rfl ?_ | refine i_isSS ?_ | refine i_isTT ?_ | refine i_isII ?_ | refine i_isIB ?_ | refine i_isSI ?_ | refine i_lockE rfl ?_ | refine i_dk rfl ?_ | refine i_gattr rfl rfl rfl rfl rfl (by decide +kernel) ?_ | refine i_star rfl rfl ?_ | refine i_isin rfl ?_ | refine i_nn ?_ | refine i_made ?_ | refine i_spc ?_ | refine i_qlen (by omega) ?_ | refine i_qstr ?_ | refine i_qbl ?_ | refine i_js (by simp only [empty_app, app_len, len_gt]; omega) ?_ | refine i_fmt (by omega) ?_ | refine i_inC ?_ | refine i_inKS rfl ?_ | refine i_notInKS rfl ?_ | refine i_lenD rfl ?_ | refine i_notIn2 ?_ | refine i_in2 ?_ | refine i_allM rfl ?_ | refine i_anyM rfl ?_ | refine i_index rfl (by assumption) ?_ | refine i_tyL rfl ?_ | refine i_tyS ?_ | refine i_popM rfl (by first | omega | (simp only [List.length_map, List.length_append, List.length_cons, List.length_nil, List.length_take, List.length_drop] at *; omega)) (fun m hm hme hle => ?_) | refine i_popB rfl (by first | omega | (simp only [List.length_map, List.length_append, List.length_cons, List.length_nil, List.length_take, List.length_drop] at *; omega)) (fun m hm hme => ?_) | refine i_par rfl rfl ?_ | refine i_tpo rfl rfl ?_ | refine i_fzE rfl ?_ | refine i_fzE (fzR_P (by assumption)) ?_ | refine i_fz rfl ?_ | refine i_fz (fzR_P (by assumption)) ?_ | refine i_app rfl rfl (by first | omega | (simp only [List.length_map, List.length_append, List.length_cons, List.length_nil, List.length_take, List.length_drop] at *; omega)) ?_ | refine i_ow rfl ?_ | refine i_unp rfl ?_ | refine i_unpO rfl ?_ | refine i_gcons ?_ | refine i_gnil ?_
    | refine i_strB (by omega) ?_ | refine i_notInS rfl rfl ?_ | refine i_inS rfl rfl ?_ | refine i_notInI rfl rfl ?_ | refine i_inI rfl rfl ?_
    | refine i_addS (by first | decide | (simp only [len_plus, len_minus, len_gt, len_places, app_len]; omega)) ?_ | refine i_addL rfl rfl (by decide) ?_ | refine i_addL rfl rfl (by first | omega | (simp only [List.length_map, List.length_append, List.length_cons, List.length_nil, List.length_take, List.length_drop] at *; omega)) ?_
    | refine i_pow (by omega) ?_ | refine i_disp rfl rfl ?_ | refine i_slL rfl ?_ | refine i_slT ?_ | refine i_scr ?_ | refine i_opt ?_ | refine i_itL rfl rfl ?_ | refine i_itS ?_ | refine i_en rfl rfl ?_ | refine i_r1 (by first | omega | (simp only [List.length_map, List.length_append, List.length_cons, List.length_nil, List.length_take, List.length_drop] at *; omega)) ?_ | refine i_r2 (by first | omega | (simp only [List.length_map, List.length_append, List.length_cons, List.length_nil, List.length_take, List.length_drop] at *; omega)) ?_ | refine i_lc0 ?_ | refine i_dc0 ?_ | refine i_kfz rfl rfl ?_ | refine i_ixSc rfl ?_
    | refine i_ret rfl rfl ?_ | refine i_fzs rfl ?_)

theorem i_spread {a b c : Int} {x : D} {α : Type} (f : α → D) (l : List α) (e : its x = some (l.map f)) (ho : isOw x = false) (hl : l.length ≤ 10000) (hp : ∀ d, Pl (f d)) {Q : D → List D → Prop} {E : DX} (q : ∀ (l' : List α) a b c, l'.Perm l → Q (.lst true (l'.map f)) [.lst true [.int a, .int b, .int c]]) : sp__law_spread [.lst true [.int a, .int b, .int c], x] Q E :=
  ⟨_, x, _, rfl, e, ho, ⟨_, _, _, rfl⟩, by rw [List.length_map]; exact hl, fun d hd => by obtain ⟨a, _, rfl⟩ := List.mem_map.mp hd; exact hp a, fun ys p' h ⟨a, b, c, e⟩ => by
    obtain ⟨l', h1, rfl⟩ := perm_map_ex h l rfl
    exact e ▸ q l' a b c h1⟩
local macro_rules
  | `(tactic| trivial) => `(tactic| with_reducible first | refine i_call rfl rfl rfl ?_ | refine i_draw (by first | omega | (simp only [List.length_map, List.length_append, List.length_cons, List.length_nil, List.length_take, List.length_drop] at *; omega)) (fun r a b c hr0 hr1 => ?_) | refine i_callB (by decide) rfl rfl rfl rfl ?_)
def w__law_spots_r3 (sp__law_spread : Spd) (sp__law_draw : Spd) (Ex : DXs) : WS :=
  (wRet (wCB nTuple (wCons (wLc (wiIt (wVar 3)) (gFz 5) wYes (wCB nTuple (wCons (wVar 5) wNil)) [5]) wNil)))
def w__law_spots (sp__law_spread : Spd) (sp__law_draw : Spd) (Ex : DXs) : WS :=
  (wSeq (wAsg (wCall [0] [] 2 sp__law_spread [] exF (wCons (wVar 0) (wCons (wVar 1) wNil))) (gFz 2))
  (wSeq (wAsg (wLst (wCons (wLst (wCons (wOp oIxA (wVar 2) (wC (.int 0))) wNil)) wNil)) (gOw 3))
  (wSeq (wFg [4] (wFg0 [4] (wFor (wiIt (wSl (wVar 2) (wP (wC (.int 1))) wNoP)) (gFz 4)
  (wFg [4] (wIfS (wB (wOp oGt (wCall [0] [] 2 sp__law_draw [] exF (wCons (wVar 0) (wCons (wC (.int 3)) wNil))) (wC (.int 0)))) (wDrop (wM "list" nApp (wVar 3) (wCons (wLst (wCons (wVar 4) wNil)) wNil))) (wAsg (wOp oAdd (wOp oIxA (wVar 3) (wNeg (wC (.int 1)))) (wLst (wCons (wVar 4) wNil))) (gSetA (wVar 3) (wNeg (wC (.int 1))))))))))
  (w__law_spots_r3 sp__law_spread sp__law_draw Ex))))
def sp__law_spots : Spd := fun ds Q _ => ∃ (p x : D) (l : List Str), ds = [p, x] ∧ its x = some (l.map D.str) ∧ isOw x = false ∧ Pot p ∧ 1 ≤ l.length ∧ l.length ≤ 100 ∧ ∀ (gs : List (List Str)) p', (∀ g ∈ gs, g ≠ []) → gs.flatten.Perm l → Pot p' → Q (.tup (gs.map eP)) [p']
theorem hw__law_spots (ds : List D) (Qd : D → List D → Prop) (Ed : DX) (h : sp__law_spots ds Qd Ed) : w__law_spots sp__law_spread sp__law_draw (fun c fs xs _ => Ed c fs xs) (endD [0] Qd) (startD ["_law_pot_here", "_law_left", "_law_row", "_law_groups", "_law_each", "_law_group"] ds) := by
  obtain ⟨p, x, l, rfl, hx, ho, ⟨a, b, c, rfl⟩, hl, hl2, h⟩ := h
  unfold w__law_spots
  rcases its_cases hx ho with rfl | rfl
  all_goals
    repeat' (first | trivial | dsimp only [w__law_spots_r3, wMakeP, makeP, wCallP, callP, wMethP, permL_nil, permL_cons, wProp, wIxI, wLockE, wiDk, wFld, wStar, wFmt, wFs, wJs, wDn, Bool.not_true, Bool.not_false, wChain, wAndV, wOrV, wNotV, wIsT, id, wNeg, wPar, wTpo, st2, st3, wFg, wFg0, puts, wip, rst, isOw, if_ff, if_tt, List.getElem?_cons_zero, List.getElem?_cons_succ, List.getElem?_nil, wSeq, wAsg, wOp, wC, wCB, wCons, wNil, wRet, wIfS, wB, wNext, wIf, wCall, wDrop, wTup, wLst, wM, wM0, wSl, wSlS, wP, wNoP, wiR1, wiR2, wiIt, wiEn, wTru, wAnd, wOr, wNot, wFor, rd_int, rd_str, rd_bl, rd_non, rd_tup, rd_lf, rd_lt, rd_df, rd_dt, rd_if, rd_it, rd_scr, startD, fz, List.map, List.length, List.replicate, List.append, List.set_cons_zero, List.set_cons_succ, Int.reduceToNat, List.cons_append, List.nil_append, Nat.reduceAdd, Nat.reduceSub, endD])
    refine i_spread D.str l rfl rfl (by omega) (fun _ => pl_str) fun row a b c hrow => ?_
    repeat' (first | trivial | dsimp only [w__law_spots_r3, wMakeP, makeP, wCallP, callP, wMethP, permL_nil, permL_cons, wProp, wIxI, wLockE, wiDk, wFld, wStar, wFmt, wFs, wJs, wDn, Bool.not_true, Bool.not_false, wChain, wAndV, wOrV, wNotV, wIsT, id, wNeg, wPar, wTpo, st2, st3, wFg, wFg0, puts, wip, rst, isOw, if_ff, if_tt, List.getElem?_cons_zero, List.getElem?_cons_succ, List.getElem?_nil, wSeq, wAsg, wOp, wC, wCB, wCons, wNil, wRet, wIfS, wB, wNext, wIf, wCall, wDrop, wTup, wLst, wM, wM0, wSl, wSlS, wP, wNoP, wiR1, wiR2, wiIt, wiEn, wTru, wAnd, wOr, wNot, wFor, rd_int, rd_str, rd_bl, rd_non, rd_tup, rd_lf, rd_lt, rd_df, rd_dt, rd_if, rd_it, rd_scr, startD, fz, List.map, List.length, List.replicate, List.append, List.set_cons_zero, List.set_cons_succ, Int.reduceToNat, List.cons_append, List.nil_append, Nat.reduceAdd, Nat.reduceSub, endD])
    obtain ⟨r0, row, rfl⟩ : ∃ r0 r, row = r0 :: r := by
      cases row with
      | nil => have := hrow.length_eq; simp at this; omega
      | cons r0 r => exact ⟨r0, r, rfl⟩
    have hrl : row.length + 1 = l.length := by have := hrow.length_eq; simpa using this
    repeat' (first | trivial | dsimp only [w__law_spots_r3, wMakeP, makeP, wCallP, callP, wMethP, permL_nil, permL_cons, wProp, wIxI, wLockE, wiDk, wFld, wStar, wFmt, wFs, wJs, wDn, Bool.not_true, Bool.not_false, wChain, wAndV, wOrV, wNotV, wIsT, id, wNeg, wPar, wTpo, st2, st3, wFg, wFg0, puts, wip, rst, isOw, if_ff, if_tt, List.getElem?_cons_zero, List.getElem?_cons_succ, List.getElem?_nil, wSeq, wAsg, wOp, wC, wCB, wCons, wNil, wRet, wIfS, wB, wNext, wIf, wCall, wDrop, wTup, wLst, wM, wM0, wSl, wSlS, wP, wNoP, wiR1, wiR2, wiIt, wiEn, wTru, wAnd, wOr, wNot, wFor, rd_int, rd_str, rd_bl, rd_non, rd_tup, rd_lf, rd_lt, rd_df, rd_dt, rd_if, rd_it, rd_scr, startD, fz, List.map, List.length, List.replicate, List.append, List.set_cons_zero, List.set_cons_succ, Int.reduceToNat, List.cons_append, List.nil_append, Nat.reduceAdd, Nat.reduceSub, endD])
    refine i_ixM (l := r0 :: row) (f := D.str) rfl rfl (by simp) fun k hk e => ?_
    cases (show k = 0 by omega)
    repeat' (first | trivial | dsimp only [w__law_spots_r3, wMakeP, makeP, wCallP, callP, wMethP, permL_nil, permL_cons, wProp, wIxI, wLockE, wiDk, wFld, wStar, wFmt, wFs, wJs, wDn, Bool.not_true, Bool.not_false, wChain, wAndV, wOrV, wNotV, wIsT, id, wNeg, wPar, wTpo, st2, st3, wFg, wFg0, puts, wip, rst, isOw, if_ff, if_tt, List.getElem?_cons_zero, List.getElem?_cons_succ, List.getElem?_nil, wSeq, wAsg, wOp, wC, wCB, wCons, wNil, wRet, wIfS, wB, wNext, wIf, wCall, wDrop, wTup, wLst, wM, wM0, wSl, wSlS, wP, wNoP, wiR1, wiR2, wiIt, wiEn, wTru, wAnd, wOr, wNot, wFor, rd_int, rd_str, rd_bl, rd_non, rd_tup, rd_lf, rd_lt, rd_df, rd_dt, rd_if, rd_it, rd_scr, startD, fz, List.map, List.length, List.replicate, List.append, List.set_cons_zero, List.set_cons_succ, Int.reduceToNat, List.cons_append, List.nil_append, Nat.reduceAdd, Nat.reduceSub, endD])
    rw [show cut (D.str r0 :: List.map D.str row) (some 1) none = row.map D.str from cut_drop (k := 1)]
    refine ⟨fun i ρ => ∃ a b c y front last, ρ = [some (.lst true [.int a, .int b, .int c]), some y, some (eL (r0 :: row)), some (.lst true ((front ++ [last]).map eL)), none, none] ∧ (∀ g ∈ front ++ [last], g ≠ []) ∧ (front ++ [last]).flatten = (r0 :: row).take (i + 1), ⟨_, _, _, _, [], [r0], rfl, by simp, by simp⟩, ?_, ?_⟩
    · rintro i d ρ hd ⟨a, b, c, y, front, last, rfl, hne, hfl⟩
      rw [List.getElem?_map] at hd
      obtain ⟨s, hs, rfl⟩ := Option.map_eq_some_iff.mp hd
      have hi := (List.getElem?_eq_some_iff.mp hs).1
      have hts : (r0 :: row).take (i + 1 + 1) = (r0 :: row).take (i + 1) ++ [s] := by
        rw [List.take_add_one (i := i + 1)]
        show _ ++ row[i]?.toList = _
        rw [hs]; rfl
      have hfn := congrArg List.length hfl
      simp only [List.flatten_append, List.flatten_cons, List.flatten_nil, List.length_append, List.append_nil, List.length_take, List.length_cons, List.length_nil] at hfn
      have hfl2 := groups_len hne
      rw [hfl] at hfl2
      simp only [List.length_append, List.length_take, List.length_cons, List.length_nil] at hfl2
      repeat' (first | trivial | dsimp only [wMakeP, makeP, wCallP, callP, wMethP, permL_nil, permL_cons, wProp, wIxI, wLockE, wiDk, wFld, wStar, wFmt, wFs, wJs, wDn, Bool.not_true, Bool.not_false, wChain, wAndV, wOrV, wNotV, wIsT, id, wNeg, wPar, wTpo, st2, st3, wFg, wFg0, puts, wip, rst, isOw, if_ff, if_tt, List.getElem?_cons_zero, List.getElem?_cons_succ, List.getElem?_nil, wSeq, wAsg, wOp, wC, wCB, wCons, wNil, wRet, wIfS, wB, wNext, wIf, wCall, wDrop, wTup, wLst, wM, wM0, wSl, wSlS, wP, wNoP, wiR1, wiR2, wiIt, wiEn, wTru, wAnd, wOr, wNot, wFor, rd_int, rd_str, rd_bl, rd_non, rd_tup, rd_lf, rd_lt, rd_df, rd_dt, rd_if, rd_it, rd_scr, startD, fz, List.map, List.length, List.replicate, List.append, List.set_cons_zero, List.set_cons_succ, Int.reduceToNat, List.cons_append, List.nil_append, Nat.reduceAdd, Nat.reduceSub, endD])
      · refine ⟨_, _, _, _, front ++ [last], [s], by rw [List.map_append (l₂ := [[s]])]; rfl, ?_, ?_⟩
        · intro g hg
          rcases List.mem_append.mp hg with z | z
          · exact hne g z
          · rw [List.mem_singleton.mp z]; simp
        · rw [hts, ← hfl]; simp
      · refine i_ixL rfl rfl (show atI ((front ++ [last]).map eL) (-1) = some (eL last) by rw [List.map_append]; exact atI_last) ?_
        repeat' (first | trivial | dsimp only [wMakeP, makeP, wCallP, callP, wMethP, permL_nil, permL_cons, wProp, wIxI, wLockE, wiDk, wFld, wStar, wFmt, wFs, wJs, wDn, Bool.not_true, Bool.not_false, wChain, wAndV, wOrV, wNotV, wIsT, id, wNeg, wPar, wTpo, st2, st3, wFg, wFg0, puts, wip, rst, isOw, if_ff, if_tt, List.getElem?_cons_zero, List.getElem?_cons_succ, List.getElem?_nil, wSeq, wAsg, wOp, wC, wCB, wCons, wNil, wRet, wIfS, wB, wNext, wIf, wCall, wDrop, wTup, wLst, wM, wM0, wSl, wSlS, wP, wNoP, wiR1, wiR2, wiIt, wiEn, wTru, wAnd, wOr, wNot, wFor, rd_int, rd_str, rd_bl, rd_non, rd_tup, rd_lf, rd_lt, rd_df, rd_dt, rd_if, rd_it, rd_scr, startD, fz, List.map, List.length, List.replicate, List.append, List.set_cons_zero, List.set_cons_succ, Int.reduceToNat, List.cons_append, List.nil_append, Nat.reduceAdd, Nat.reduceSub, endD])
        refine i_setlN rfl rfl rfl (ixN_last (by simp)) ?_
        repeat' (first | trivial | dsimp only [wMakeP, makeP, wCallP, callP, wMethP, permL_nil, permL_cons, wProp, wIxI, wLockE, wiDk, wFld, wStar, wFmt, wFs, wJs, wDn, Bool.not_true, Bool.not_false, wChain, wAndV, wOrV, wNotV, wIsT, id, wNeg, wPar, wTpo, st2, st3, wFg, wFg0, puts, wip, rst, isOw, if_ff, if_tt, List.getElem?_cons_zero, List.getElem?_cons_succ, List.getElem?_nil, wSeq, wAsg, wOp, wC, wCB, wCons, wNil, wRet, wIfS, wB, wNext, wIf, wCall, wDrop, wTup, wLst, wM, wM0, wSl, wSlS, wP, wNoP, wiR1, wiR2, wiIt, wiEn, wTru, wAnd, wOr, wNot, wFor, rd_int, rd_str, rd_bl, rd_non, rd_tup, rd_lf, rd_lt, rd_df, rd_dt, rd_if, rd_it, rd_scr, startD, fz, List.map, List.length, List.replicate, List.append, List.set_cons_zero, List.set_cons_succ, Int.reduceToNat, List.cons_append, List.nil_append, Nat.reduceAdd, Nat.reduceSub, endD])
        rw [List.map_append, show [last].map eL = [eL last] from rfl, set_last]
        refine ⟨_, _, _, _, front, last ++ [s], by rw [List.map_append, show [last ++ [s]].map eL = [.lst false (last.map D.str ++ [.str s])] from by simp [eL]], ?_, ?_⟩
        · intro g hg
          rcases List.mem_append.mp hg with z | z
          · exact hne g (List.mem_append_left _ z)
          · rw [List.mem_singleton.mp z]; simp
        · rw [hts, ← hfl]; simp
    · rintro ρ ⟨a, b, c, y, front, last, rfl, hne, hfl⟩
      rw [List.length_map, List.take_of_length_le (by simp)] at hfl
      repeat' (first | trivial | dsimp only [wMakeP, makeP, wCallP, callP, wMethP, permL_nil, permL_cons, wProp, wIxI, wLockE, wiDk, wFld, wStar, wFmt, wFs, wJs, wDn, Bool.not_true, Bool.not_false, wChain, wAndV, wOrV, wNotV, wIsT, id, wNeg, wPar, wTpo, st2, st3, wFg, wFg0, puts, wip, rst, isOw, if_ff, if_tt, List.getElem?_cons_zero, List.getElem?_cons_succ, List.getElem?_nil, wSeq, wAsg, wOp, wC, wCB, wCons, wNil, wRet, wIfS, wB, wNext, wIf, wCall, wDrop, wTup, wLst, wM, wM0, wSl, wSlS, wP, wNoP, wiR1, wiR2, wiIt, wiEn, wTru, wAnd, wOr, wNot, wFor, rd_int, rd_str, rd_bl, rd_non, rd_tup, rd_lf, rd_lt, rd_df, rd_dt, rd_if, rd_it, rd_scr, startD, fz, List.map, List.length, List.replicate, List.append, List.set_cons_zero, List.set_cons_succ, Int.reduceToNat, List.cons_append, List.nil_append, Nat.reduceAdd, Nat.reduceSub, endD])
      refine i_lcM (front ++ [last]) eL eP rfl ?_ ?_ ?_
      · have hfn := groups_len hne
        rw [hfl] at hfn
        simp only [List.length_append, List.length_cons, List.length_nil] at hfn ⊢
        omega
      · intro g hg P h
        repeat' (first | trivial | dsimp only [wMakeP, makeP, wCallP, callP, wMethP, permL_nil, permL_cons, wProp, wIxI, wLockE, wiDk, wFld, wStar, wFmt, wFs, wJs, wDn, Bool.not_true, Bool.not_false, wChain, wAndV, wOrV, wNotV, wIsT, id, wNeg, wPar, wTpo, st2, st3, wFg, wFg0, puts, wip, rst, isOw, if_ff, if_tt, List.getElem?_cons_zero, List.getElem?_cons_succ, List.getElem?_nil, wSeq, wAsg, wOp, wC, wCB, wCons, wNil, wRet, wIfS, wB, wNext, wIf, wCall, wDrop, wTup, wLst, wM, wM0, wSl, wSlS, wP, wNoP, wiR1, wiR2, wiIt, wiEn, wTru, wAnd, wOr, wNot, wFor, rd_int, rd_str, rd_bl, rd_non, rd_tup, rd_lf, rd_lt, rd_df, rd_dt, rd_if, rd_it, rd_scr, startD, fz, List.map, List.length, List.replicate, List.append, List.set_cons_zero, List.set_cons_succ, Int.reduceToNat, List.cons_append, List.nil_append, Nat.reduceAdd, Nat.reduceSub, endD])
      · repeat' (first | trivial | dsimp only [wMakeP, makeP, wCallP, callP, wMethP, permL_nil, permL_cons, wProp, wIxI, wLockE, wiDk, wFld, wStar, wFmt, wFs, wJs, wDn, Bool.not_true, Bool.not_false, wChain, wAndV, wOrV, wNotV, wIsT, id, wNeg, wPar, wTpo, st2, st3, wFg, wFg0, puts, wip, rst, isOw, if_ff, if_tt, List.getElem?_cons_zero, List.getElem?_cons_succ, List.getElem?_nil, wSeq, wAsg, wOp, wC, wCB, wCons, wNil, wRet, wIfS, wB, wNext, wIf, wCall, wDrop, wTup, wLst, wM, wM0, wSl, wSlS, wP, wNoP, wiR1, wiR2, wiIt, wiEn, wTru, wAnd, wOr, wNot, wFor, rd_int, rd_str, rd_bl, rd_non, rd_tup, rd_lf, rd_lt, rd_df, rd_dt, rd_if, rd_it, rd_scr, startD, fz, List.map, List.length, List.replicate, List.append, List.set_cons_zero, List.set_cons_succ, Int.reduceToNat, List.cons_append, List.nil_append, Nat.reduceAdd, Nat.reduceSub, endD])
        exact h _ _ hne (by rw [hfl]; exact hrow) ⟨_, _, _, rfl⟩
def w__law_facts_r2 (sp__law_spread : Spd) (Ex : DXs) : WS :=
  (wRet (wSl (wCall [0] [] 2 sp__law_spread [] exF (wCons (wVar 0) (wCons (wVar 4) wNil))) wNoP (wP (wVar 2))))
def w__law_facts (sp__law_spread : Spd) (Ex : DXs) : WS :=
  (wSeq (wAsg (wTpo (wCons (wCall [0] [] 2 sp__law_spread [] exF (wCons (wVar 0) (wCons (wVar 1) wNil))) (wCons (wLst wNil) wNil))) (gUnp 2 (wgCons (gFz 3) (wgCons (gFz 4) wgNil))))
  (wSeq (wFg [5] (wFg0 [5] (wFor (wiR1 (wCons (wCB nLen (wCons (wVar 3) wNil)) wNil)) (gFz 5)
  (wFg [5] (wAsg (wOp oAdd (wVar 4) (wLc (wiIt (wSl (wVar 3) (wP (wOp oAdd (wVar 5) (wC (.int 1)))) wNoP)) (gFz 6) wYes (wTup (wCons (wOp oIxA (wVar 3) (wVar 5)) (wCons (wVar 6) wNil))) [6])) (gFz 4))))))
  (w__law_facts_r2 sp__law_spread Ex)))
def sp__law_facts : Spd := fun ds Q _ => ∃ (p x : D) (l : List Str) (n : Nat), ds = [p, x, .int n] ∧ its x = some (l.map D.str) ∧ isOw x = false ∧ Pot p ∧ l.length ≤ 90 ∧ l.Nodup ∧ ∀ (fs : List (Str × Str)) p', fs.length ≤ n → fs.Nodup → (∃ o : List Str, o.Perm l ∧ Has o fs) → Pot p' → Q (.lst true (fs.map eF)) [p']
theorem hw__law_facts (ds : List D) (Qd : D → List D → Prop) (Ed : DX) (h : sp__law_facts ds Qd Ed) : w__law_facts sp__law_spread (fun c fs xs _ => Ed c fs xs) (endD [0] Qd) (startD ["_law_pot_here", "_law_folk", "_law_many", "_law_line", "_law_found", "_law_k", "_law_low"] ds) := by
  obtain ⟨p, x, l, n, rfl, hx, ho, ⟨a, b, c, rfl⟩, hl, hl2, h⟩ := h
  unfold w__law_facts
  rcases its_cases hx ho with rfl | rfl
  all_goals
    repeat' (first | trivial | dsimp only [w__law_facts_r2, wMakeP, makeP, wCallP, callP, wMethP, permL_nil, permL_cons, wProp, wIxI, wLockE, wiDk, wFld, wStar, wFmt, wFs, wJs, wDn, Bool.not_true, Bool.not_false, wChain, wAndV, wOrV, wNotV, wIsT, id, wNeg, wPar, wTpo, st2, st3, wFg, wFg0, puts, wip, rst, isOw, if_ff, if_tt, List.getElem?_cons_zero, List.getElem?_cons_succ, List.getElem?_nil, wSeq, wAsg, wOp, wC, wCB, wCons, wNil, wRet, wIfS, wB, wNext, wIf, wCall, wDrop, wTup, wLst, wM, wM0, wSl, wSlS, wP, wNoP, wiR1, wiR2, wiIt, wiEn, wTru, wAnd, wOr, wNot, wFor, rd_int, rd_str, rd_bl, rd_non, rd_tup, rd_lf, rd_lt, rd_df, rd_dt, rd_if, rd_it, rd_scr, startD, fz, List.map, List.length, List.replicate, List.append, List.set_cons_zero, List.set_cons_succ, Int.reduceToNat, List.cons_append, List.nil_append, Nat.reduceAdd, Nat.reduceSub, endD])
    refine i_spread D.str l rfl rfl (by omega) (fun _ => pl_str) fun row a b c hrow => ?_
    have hrl := hrow.length_eq
    repeat' (first | trivial | dsimp only [w__law_facts_r2, wMakeP, makeP, wCallP, callP, wMethP, permL_nil, permL_cons, wProp, wIxI, wLockE, wiDk, wFld, wStar, wFmt, wFs, wJs, wDn, Bool.not_true, Bool.not_false, wChain, wAndV, wOrV, wNotV, wIsT, id, wNeg, wPar, wTpo, st2, st3, wFg, wFg0, puts, wip, rst, isOw, if_ff, if_tt, List.getElem?_cons_zero, List.getElem?_cons_succ, List.getElem?_nil, wSeq, wAsg, wOp, wC, wCB, wCons, wNil, wRet, wIfS, wB, wNext, wIf, wCall, wDrop, wTup, wLst, wM, wM0, wSl, wSlS, wP, wNoP, wiR1, wiR2, wiIt, wiEn, wTru, wAnd, wOr, wNot, wFor, rd_int, rd_str, rd_bl, rd_non, rd_tup, rd_lf, rd_lt, rd_df, rd_dt, rd_if, rd_it, rd_scr, startD, fz, List.map, List.length, List.replicate, List.append, List.set_cons_zero, List.set_cons_succ, Int.reduceToNat, List.cons_append, List.nil_append, Nat.reduceAdd, Nat.reduceSub, endD])
    refine ⟨fun i ρ => ∃ a b c y fs, ρ = [some (.lst true [.int a, .int b, .int c]), some y, some (.int n), some (eL row), some (.lst false (fs.map eF)), none, none] ∧ fs ++ pairsOf (row.drop i) = pairsOf row, ⟨_, _, _, _, [], rfl, rfl⟩, ?_, ?_⟩
    · rintro i d ρ hd ⟨a, b, c, y, fs, rfl, hfs⟩
      obtain ⟨hi, rfl⟩ := rng_at hd
      have hi' : i < row.length := by simp at hi; exact hi
      rw [drop_pairs hi'] at hfs
      have hpl := pairs_len row
      have hfl := congrArg List.length hfs
      simp only [List.length_append, List.length_map] at hfl
      have hpl2 : row.length * row.length ≤ 90 * 90 := Nat.mul_le_mul (by omega) (by omega)
      repeat' (first | trivial | dsimp only [wMakeP, makeP, wCallP, callP, wMethP, permL_nil, permL_cons, wProp, wIxI, wLockE, wiDk, wFld, wStar, wFmt, wFs, wJs, wDn, Bool.not_true, Bool.not_false, wChain, wAndV, wOrV, wNotV, wIsT, id, wNeg, wPar, wTpo, st2, st3, wFg, wFg0, puts, wip, rst, isOw, if_ff, if_tt, List.getElem?_cons_zero, List.getElem?_cons_succ, List.getElem?_nil, wSeq, wAsg, wOp, wC, wCB, wCons, wNil, wRet, wIfS, wB, wNext, wIf, wCall, wDrop, wTup, wLst, wM, wM0, wSl, wSlS, wP, wNoP, wiR1, wiR2, wiIt, wiEn, wTru, wAnd, wOr, wNot, wFor, rd_int, rd_str, rd_bl, rd_non, rd_tup, rd_lf, rd_lt, rd_df, rd_dt, rd_if, rd_it, rd_scr, startD, fz, List.map, List.length, List.replicate, List.append, List.set_cons_zero, List.set_cons_succ, Int.reduceToNat, List.cons_append, List.nil_append, Nat.reduceAdd, Nat.reduceSub, endD])
      refine i_lcM (row.drop (i + 1)) D.str (fun y => eF (row[i], y)) (by rw [cut_dropI (by omega), show (0 + (i : Int) + 1).toNat = i + 1 by omega, ← List.map_drop]) ?_ ?_ ?_
      · rw [List.length_drop]; omega
      · intro s hs P h
        repeat' (first | trivial | dsimp only [wMakeP, makeP, wCallP, callP, wMethP, permL_nil, permL_cons, wProp, wIxI, wLockE, wiDk, wFld, wStar, wFmt, wFs, wJs, wDn, Bool.not_true, Bool.not_false, wChain, wAndV, wOrV, wNotV, wIsT, id, wNeg, wPar, wTpo, st2, st3, wFg, wFg0, puts, wip, rst, isOw, if_ff, if_tt, List.getElem?_cons_zero, List.getElem?_cons_succ, List.getElem?_nil, wSeq, wAsg, wOp, wC, wCB, wCons, wNil, wRet, wIfS, wB, wNext, wIf, wCall, wDrop, wTup, wLst, wM, wM0, wSl, wSlS, wP, wNoP, wiR1, wiR2, wiIt, wiEn, wTru, wAnd, wOr, wNot, wFor, rd_int, rd_str, rd_bl, rd_non, rd_tup, rd_lf, rd_lt, rd_df, rd_dt, rd_if, rd_it, rd_scr, startD, fz, List.map, List.length, List.replicate, List.append, List.set_cons_zero, List.set_cons_succ, Int.reduceToNat, List.cons_append, List.nil_append, Nat.reduceAdd, Nat.reduceSub, endD])
        refine i_ixM (l := row) (f := D.str) rfl rfl (by omega) fun k hk e => ?_
        have : k = i := by omega
        subst this
        repeat' (first | trivial | dsimp only [wMakeP, makeP, wCallP, callP, wMethP, permL_nil, permL_cons, wProp, wIxI, wLockE, wiDk, wFld, wStar, wFmt, wFs, wJs, wDn, Bool.not_true, Bool.not_false, wChain, wAndV, wOrV, wNotV, wIsT, id, wNeg, wPar, wTpo, st2, st3, wFg, wFg0, puts, wip, rst, isOw, if_ff, if_tt, List.getElem?_cons_zero, List.getElem?_cons_succ, List.getElem?_nil, wSeq, wAsg, wOp, wC, wCB, wCons, wNil, wRet, wIfS, wB, wNext, wIf, wCall, wDrop, wTup, wLst, wM, wM0, wSl, wSlS, wP, wNoP, wiR1, wiR2, wiIt, wiEn, wTru, wAnd, wOr, wNot, wFor, rd_int, rd_str, rd_bl, rd_non, rd_tup, rd_lf, rd_lt, rd_df, rd_dt, rd_if, rd_it, rd_scr, startD, fz, List.map, List.length, List.replicate, List.append, List.set_cons_zero, List.set_cons_succ, Int.reduceToNat, List.cons_append, List.nil_append, Nat.reduceAdd, Nat.reduceSub, endD])
      · repeat' (first | trivial | dsimp only [wMakeP, makeP, wCallP, callP, wMethP, permL_nil, permL_cons, wProp, wIxI, wLockE, wiDk, wFld, wStar, wFmt, wFs, wJs, wDn, Bool.not_true, Bool.not_false, wChain, wAndV, wOrV, wNotV, wIsT, id, wNeg, wPar, wTpo, st2, st3, wFg, wFg0, puts, wip, rst, isOw, if_ff, if_tt, List.getElem?_cons_zero, List.getElem?_cons_succ, List.getElem?_nil, wSeq, wAsg, wOp, wC, wCB, wCons, wNil, wRet, wIfS, wB, wNext, wIf, wCall, wDrop, wTup, wLst, wM, wM0, wSl, wSlS, wP, wNoP, wiR1, wiR2, wiIt, wiEn, wTru, wAnd, wOr, wNot, wFor, rd_int, rd_str, rd_bl, rd_non, rd_tup, rd_lf, rd_lt, rd_df, rd_dt, rd_if, rd_it, rd_scr, startD, fz, List.map, List.length, List.replicate, List.append, List.set_cons_zero, List.set_cons_succ, Int.reduceToNat, List.cons_append, List.nil_append, Nat.reduceAdd, Nat.reduceSub, endD])
        exact ⟨_, _, _, _, fs ++ (row.drop (i + 1)).map (fun y => (row[i], y)), by rw [List.map_append, List.map_map]; rfl, by rw [List.append_assoc]; exact hfs⟩
    · rintro ρ ⟨a, b, c, y, fs, rfl, hfs⟩
      rw [rng_len] at hfs
      have hd : row.drop (row.map D.str).length = [] := by simp
      rw [show ((row.map D.str).length : Int).toNat = (row.map D.str).length by simp, hd] at hfs
      have hfs : fs = pairsOf row := by simpa [pairsOf] using hfs
      subst hfs
      have hpl := pairs_len row
      have hpl2 : row.length * row.length ≤ 90 * 90 := Nat.mul_le_mul (by omega) (by omega)
      repeat' (first | trivial | dsimp only [wMakeP, makeP, wCallP, callP, wMethP, permL_nil, permL_cons, wProp, wIxI, wLockE, wiDk, wFld, wStar, wFmt, wFs, wJs, wDn, Bool.not_true, Bool.not_false, wChain, wAndV, wOrV, wNotV, wIsT, id, wNeg, wPar, wTpo, st2, st3, wFg, wFg0, puts, wip, rst, isOw, if_ff, if_tt, List.getElem?_cons_zero, List.getElem?_cons_succ, List.getElem?_nil, wSeq, wAsg, wOp, wC, wCB, wCons, wNil, wRet, wIfS, wB, wNext, wIf, wCall, wDrop, wTup, wLst, wM, wM0, wSl, wSlS, wP, wNoP, wiR1, wiR2, wiIt, wiEn, wTru, wAnd, wOr, wNot, wFor, rd_int, rd_str, rd_bl, rd_non, rd_tup, rd_lf, rd_lt, rd_df, rd_dt, rd_if, rd_it, rd_scr, startD, fz, List.map, List.length, List.replicate, List.append, List.set_cons_zero, List.set_cons_succ, Int.reduceToNat, List.cons_append, List.nil_append, Nat.reduceAdd, Nat.reduceSub, endD])
      refine i_spread eF (pairsOf row) rfl rfl (by omega) (fun _ => pl_tup) fun fs a b c hfs => ?_
      repeat' (first | trivial | dsimp only [wMakeP, makeP, wCallP, callP, wMethP, permL_nil, permL_cons, wProp, wIxI, wLockE, wiDk, wFld, wStar, wFmt, wFs, wJs, wDn, Bool.not_true, Bool.not_false, wChain, wAndV, wOrV, wNotV, wIsT, id, wNeg, wPar, wTpo, st2, st3, wFg, wFg0, puts, wip, rst, isOw, if_ff, if_tt, List.getElem?_cons_zero, List.getElem?_cons_succ, List.getElem?_nil, wSeq, wAsg, wOp, wC, wCB, wCons, wNil, wRet, wIfS, wB, wNext, wIf, wCall, wDrop, wTup, wLst, wM, wM0, wSl, wSlS, wP, wNoP, wiR1, wiR2, wiIt, wiEn, wTru, wAnd, wOr, wNot, wFor, rd_int, rd_str, rd_bl, rd_non, rd_tup, rd_lf, rd_lt, rd_df, rd_dt, rd_if, rd_it, rd_scr, startD, fz, List.map, List.length, List.replicate, List.append, List.set_cons_zero, List.set_cons_succ, Int.reduceToNat, List.cons_append, List.nil_append, Nat.reduceAdd, Nat.reduceSub, endD])
      rw [cut_take, ← List.map_take]
      repeat' (first | trivial | dsimp only [wMakeP, makeP, wCallP, callP, wMethP, permL_nil, permL_cons, wProp, wIxI, wLockE, wiDk, wFld, wStar, wFmt, wFs, wJs, wDn, Bool.not_true, Bool.not_false, wChain, wAndV, wOrV, wNotV, wIsT, id, wNeg, wPar, wTpo, st2, st3, wFg, wFg0, puts, wip, rst, isOw, if_ff, if_tt, List.getElem?_cons_zero, List.getElem?_cons_succ, List.getElem?_nil, wSeq, wAsg, wOp, wC, wCB, wCons, wNil, wRet, wIfS, wB, wNext, wIf, wCall, wDrop, wTup, wLst, wM, wM0, wSl, wSlS, wP, wNoP, wiR1, wiR2, wiIt, wiEn, wTru, wAnd, wOr, wNot, wFor, rd_int, rd_str, rd_bl, rd_non, rd_tup, rd_lf, rd_lt, rd_df, rd_dt, rd_if, rd_it, rd_scr, startD, fz, List.map, List.length, List.replicate, List.append, List.set_cons_zero, List.set_cons_succ, Int.reduceToNat, List.cons_append, List.nil_append, Nat.reduceAdd, Nat.reduceSub, endD])
      exact h (fs.take n) _ (by rw [List.length_take]; omega) (((hfs.nodup_iff).mpr (pairs_nd ((hrow.nodup_iff).mpr hl2))).sublist (List.take_sublist _ _)) ⟨row, hrow, fun f hf => pairs_mem ((hfs.mem_iff).mp (List.mem_of_mem_take hf))⟩ ⟨_, _, _, rfl⟩
end L
namespace L
open PySem PySem.Spec PyProof.Rows L2 M
local macro_rules
  | `(tactic| trivial) => `(tactic| with_reducible first
    | refine i_var rfl ?_
    | refine i_addI ?_ | refine i_sub ?_ | refine i_mod (by omega) ?_ | refine i_fdiv (by omega) ?_
    | refine i_mulL (by omega) ?_ | refine i_mulR (by omega) ?_
    | refine ite_t ?_ | refine ite_nT ?_ | refine ite_nF ?_ | refine ite_nn ?_ | refine ite_f ?_ | refine ite_dt (by first | assumption | omega | (simp only [List.length_map, List.length_append, List.length_cons, List.length_nil, List.length_take, List.length_drop] at *; omega)) ?_ | refine ite_df (by first | assumption | omega | (simp only [List.length_map, List.length_append, List.length_cons, List.length_nil, List.length_take, List.length_drop] at *; omega)) ?_ | refine ite_ct (by assumption) ?_ | refine ite_cf (by assumption) ?_ | refine ite_nct (by assumption) ?_ | refine ite_ncf (by assumption) ?_ | refine iteD (fun hc => ?_) (fun hc => ?_) | refine ite_nf (by first | exact rfl | assumption | omega | (simp only [List.length_map, List.length_append, List.length_cons, List.length_nil, List.length_take, List.length_drop] at *; omega)) ?_ | refine ite_nt (by first | assumption | omega | (simp only [List.length_map, List.length_append, List.length_cons, List.length_nil, List.length_take, List.length_drop] at *; omega)) ?_ | refine iteN (fun hc => ?_) (fun hc => ?_) | refine i_b ?_
    | refine i_lt ?_ | refine i_le ?_ | refine i_gt ?_ | refine i_ge ?_ | refine i_eqI ?_ | refine i_neI ?_ | refine i_eqS ?_ | refine i_neS ?_
    | refine i_ixL rfl rfl rfl ?_
    | refine i_int ?_ | refine i_abs ?_ | refine i_max ?_ | refine i_min ?_ | refine i_dm (by omega) ?_
    | refine i_lenL rfl rfl ?_ | refine i_lenSc ?_ | refine i_list rfl rfl ?_ | refine i_tuple rfl rfl ?_
    | refine i_setl rfl rfl rfl rfl ?_
    | refine i_truB ?_ | refine i_pln rfl ?_ | refine i_isSS ?_ | refine i_isTT ?_ | refine i_isII ?_ | refine i_isIB ?_ | refine i_isSI ?_ | refine i_lockE rfl ?_ | refine i_dk rfl ?_ | refine i_gattr rfl rfl rfl rfl rfl (by decide +kernel) ?_ | refine i_star rfl rfl ?_ | refine i_isin rfl ?_ | refine i_nn ?_ | refine i_made ?_ | refine i_spc ?_ | refine i_qlen (by omega) ?_ | refine i_qstr ?_ | refine i_qbl ?_ | refine i_js (by simp only [empty_app, app_len, len_gt]; omega) ?_ | refine i_fmt (by omega) ?_ | refine i_inC ?_ | refine i_inKS rfl ?_ | refine i_notInKS rfl ?_ | refine i_lenD rfl ?_ | refine i_notIn2 ?_ | refine i_in2 ?_ | refine i_allM rfl ?_ | refine i_anyM rfl ?_ | refine i_index rfl (by assumption) ?_ | refine i_tyL rfl ?_ | refine i_tyS ?_ | refine i_popM rfl (by first | omega | (simp only [List.length_map, List.length_append, List.length_cons, List.length_nil, List.length_take, List.length_drop] at *; omega)) (fun m hm hme hle => ?_) | refine i_popB rfl (by first | omega | (simp only [List.length_map, List.length_append, List.length_cons, List.length_nil, List.length_take, List.length_drop] at *; omega)) (fun m hm hme => ?_) | refine i_par rfl rfl ?_ | refine i_tpo rfl rfl ?_ | refine i_fzE rfl ?_ | refine i_fzE (fzR_P (by assumption)) ?_ | refine i_fz rfl ?_ | refine i_fz (fzR_P (by assumption)) ?_ | refine i_app rfl rfl (by first | omega | (simp only [List.length_map, List.length_append, List.length_cons, List.length_nil, List.length_take, List.length_drop] at *; omega)) ?_ | refine i_ow rfl ?_ | refine i_unp rfl ?_ | refine i_unpO rfl ?_ | refine i_gcons ?_ | refine i_gnil ?_
    | refine i_strB (by omega) ?_ | refine i_notInS rfl rfl ?_ | refine i_inS rfl rfl ?_ | refine i_notInI rfl rfl ?_ | refine i_inI rfl rfl ?_
    | refine i_addS (by first | decide | (simp only [len_plus, len_minus, len_gt, len_places, app_len]; omega)) ?_ | refine i_addL rfl rfl (by decide) ?_ | refine i_addL rfl rfl (by first | omega | (simp only [List.length_map, List.length_append, List.length_cons, List.length_nil, List.length_take, List.length_drop] at *; omega)) ?_
    | refine i_pow (by omega) ?_ | refine i_disp rfl rfl ?_ | refine i_slL rfl ?_ | refine i_slT ?_ | refine i_scr ?_ | refine i_opt ?_ | refine i_itL rfl rfl ?_ | refine i_itS ?_ | refine i_en rfl rfl ?_ | refine i_r1 (by first | omega | (simp only [List.length_map, List.length_append, List.length_cons, List.length_nil, List.length_take, List.length_drop] at *; omega)) ?_ | refine i_r2 (by first | omega | (simp only [List.length_map, List.length_append, List.length_cons, List.length_nil, List.length_take, List.length_drop] at *; omega)) ?_ | refine i_lc0 ?_ | refine i_dc0 ?_ | refine i_kfz rfl rfl ?_ | refine i_ixSc rfl ?_
    | refine i_ret rfl rfl ?_ | refine i_fzs rfl ?_)

theorem i_names {a b c m : Int} {x : D} (tk : List Str) (e : its x = some (tk.map D.str)) (ho : isOw x = false) (hm : 0 ≤ m ∧ m + tk.length ≤ 40) {Q : D → List D → Prop} {E : DX} (q : ∀ (l : List Str) a b c, (l.length : Int) = m → (∀ x ∈ l, NameOk x ∧ x ∉ tk) → l.Nodup → Q (.lst true (l.map D.str)) [.lst true [.int a, .int b, .int c]]) : sp__law_names [.lst true [.int a, .int b, .int c], .int m, x] Q E := by
  obtain ⟨n, rfl⟩ := Int.eq_ofNat_of_zero_le hm.1
  exact ⟨_, x, n, tk, rfl, e, ho, ⟨_, _, _, rfl⟩, by omega, fun l p' h1 h2 h3 ⟨a, b, c, e⟩ => e ▸ q l a b c (by omega) h2 h3⟩
theorem i_games {a b c m : Int} {x : D} (folk : List Str) (e : its x = some (folk.map D.str)) (ho : isOw x = false) (hf : Folk folk) (hm : 0 ≤ m ∧ m ≤ 24) {Q : D → List D → Prop} {E : DX} (q : ∀ (gs : List Game) a b c, (gs.length : Int) = m → GamesOk folk folk gs → Q (.tup [.lst false (gs.map eG), .lst false ((endsOf folk gs).map D.str)]) [.lst true [.int a, .int b, .int c]]) : sp__law_games [.lst true [.int a, .int b, .int c], x, .int m] Q E := by
  obtain ⟨n, rfl⟩ := Int.eq_ofNat_of_zero_le hm.1
  exact ⟨_, x, n, folk, rfl, e, ho, ⟨_, _, _, rfl⟩, hf, by omega, fun l p' h1 h2 ⟨a, b, c, e⟩ => e ▸ q l a b c (by omega) h2⟩
theorem i_spots {a b c : Int} {x : D} (l : List Str) (e : its x = some (l.map D.str)) (ho : isOw x = false) (hl : 1 ≤ l.length ∧ l.length ≤ 100) {Q : D → List D → Prop} {E : DX} (q : ∀ (gs : List (List Str)) a b c, (∀ g ∈ gs, g ≠ []) → gs.flatten.Perm l → Q (.tup (gs.map eP)) [.lst true [.int a, .int b, .int c]]) : sp__law_spots [.lst true [.int a, .int b, .int c], x] Q E :=
  ⟨_, x, l, rfl, e, ho, ⟨_, _, _, rfl⟩, hl.1, hl.2, fun l p' h1 h2 ⟨a, b, c, e⟩ => e ▸ q l a b c h1 h2⟩
theorem i_facts {a b c m : Int} {x : D} (l : List Str) (e : its x = some (l.map D.str)) (ho : isOw x = false) (hl : l.length ≤ 90) (hn : l.Nodup) (hm : 0 ≤ m) {Q : D → List D → Prop} {E : DX} (q : ∀ (fs : List (Str × Str)) a b c, (fs.length : Int) ≤ m → fs.Nodup → (∃ o : List Str, o.Perm l ∧ Has o fs) → Q (.lst true (fs.map eF)) [.lst true [.int a, .int b, .int c]]) : sp__law_facts [.lst true [.int a, .int b, .int c], x, .int m] Q E := by
  obtain ⟨n, rfl⟩ := Int.eq_ofNat_of_zero_le hm
  exact ⟨_, x, l, n, rfl, e, ho, ⟨_, _, _, rfl⟩, hl, hn, fun l p' h1 h2 h3 ⟨a, b, c, e⟩ => e ▸ q l a b c (by omega) h2 h3⟩
local macro_rules
  | `(tactic| trivial) => `(tactic| with_reducible first | refine i_call rfl rfl rfl ?_ | refine i_draw (by first | omega | (simp only [List.length_map, List.length_append, List.length_cons, List.length_nil, List.length_take, List.length_drop] at *; omega)) (fun r a b c hr0 hr1 => ?_) | refine i_callB (by decide) rfl rfl rfl rfl ?_)
def w__law_text_r4 (Ex : DXs) : WS :=
  (wRet (wM "str" nJoin (wC (.str "\n")) (wCons (wVar 5) wNil)))
def w__law_text (Ex : DXs) : WS :=
  (wSeq (wAsg (wVar 0) (gUnp 4 (wgCons (gFz 1) (wgCons (gFz 2) (wgCons (gFz 3) (wgCons (gFz 4) wgNil))))))
  (wSeq (wAsg (wOp oAdd (wLst (wCons (wM "str" nJoin (wC (.str " ")) (wCons (wOp oAdd (wLst (wCons (wC (.str "entries")) wNil)) (wCB nList (wCons (wVar 1) wNil))) wNil)) wNil)) (wLc (wiIt (wVar 2)) (gFz 6) wYes (wM "str" nJoin (wC (.str " ")) (wCons (wCB nList (wCons (wVar 6) wNil)) wNil)) [6])) (gOw 5))
  (wSeq (wDrop (wM "list" nApp (wVar 5) (wCons (wOp oAdd (wC (.str "places ")) (wM "str" nJoin (wC (.str " / ")) (wCons (wLc (wiIt (wVar 3)) (gFz 7) wYes (wM "str" nJoin (wC (.str " ")) (wCons (wCB nList (wCons (wVar 7) wNil)) wNil)) [7]) wNil))) wNil)))
  (wSeq (wIfS (wB (wOp oGt (wCB nLen (wCons (wVar 4) wNil)) (wC (.int 0)))) (wDrop (wM "list" nApp (wVar 5) (wCons (wM "str" nJoin (wC (.str " ")) (wCons (wOp oAdd (wLst (wCons (wC (.str "known")) wNil)) (wLc (wiIt (wVar 4)) (gUnp 2 (wgCons (gFz 8) (wgCons (gFz 9) wgNil))) wYes (wOp oAdd (wOp oAdd (wVar 8) (wC (.str ">"))) (wVar 9)) [8, 9])) wNil)) wNil))) wNext)
  (w__law_text_r4 Ex)))))
def sp__law_text : Spd := fun ds Q _ => ∃ p : Pn, ds = [eParts p] ∧ PlanOk p ∧ Q (.str (textOf p)) []
theorem hw__law_text (ds : List D) (Qd : D → List D → Prop) (Ed : DX) (h : sp__law_text ds Qd Ed) : w__law_text (fun c fs xs _ => Ed c fs xs) (endD [] Qd) (startD ["_law_parts", "_law_folk", "_law_games_here", "_law_spots_here", "_law_facts_here", "_law_rows", "_law_game", "_law_spot", "_law_high", "_law_low"] ds) := by
  obtain ⟨p, rfl, hp, h⟩ := h
  have h1 := hp.gle
  have h2 := hp.fle
  have h3 := hp.folk.le
  have h4 := hp.plen.1
  unfold w__law_text eParts eP
  repeat' (first | trivial | dsimp only [w__law_text_r4, wMakeP, makeP, wCallP, callP, wMethP, permL_nil, permL_cons, wProp, wIxI, wLockE, wiDk, wFld, wStar, wFmt, wFs, wJs, wDn, Bool.not_true, Bool.not_false, wChain, wAndV, wOrV, wNotV, wIsT, id, wNeg, wPar, wTpo, st2, st3, wFg, wFg0, puts, wip, rst, isOw, if_ff, if_tt, List.getElem?_cons_zero, List.getElem?_cons_succ, List.getElem?_nil, wSeq, wAsg, wOp, wC, wCB, wCons, wNil, wRet, wIfS, wB, wNext, wIf, wCall, wDrop, wTup, wLst, wM, wM0, wSl, wSlS, wP, wNoP, wiR1, wiR2, wiIt, wiEn, wTru, wAnd, wOr, wNot, wFor, rd_int, rd_str, rd_bl, rd_non, rd_tup, rd_lf, rd_lt, rd_df, rd_dt, rd_if, rd_it, rd_scr, startD, fz, List.map, List.length, List.replicate, List.append, List.set_cons_zero, List.set_cons_succ, Int.reduceToNat, List.cons_append, List.nil_append, Nat.reduceAdd, Nat.reduceSub, endD])
  refine i_join (("entries" : Str) :: p.folk) rfl rfl rfl (Nat.le_trans hp.entries_le.1 (by omega)) ?_
  repeat' (first | trivial | dsimp only [w__law_text_r4, wMakeP, makeP, wCallP, callP, wMethP, permL_nil, permL_cons, wProp, wIxI, wLockE, wiDk, wFld, wStar, wFmt, wFs, wJs, wDn, Bool.not_true, Bool.not_false, wChain, wAndV, wOrV, wNotV, wIsT, id, wNeg, wPar, wTpo, st2, st3, wFg, wFg0, puts, wip, rst, isOw, if_ff, if_tt, List.getElem?_cons_zero, List.getElem?_cons_succ, List.getElem?_nil, wSeq, wAsg, wOp, wC, wCB, wCons, wNil, wRet, wIfS, wB, wNext, wIf, wCall, wDrop, wTup, wLst, wM, wM0, wSl, wSlS, wP, wNoP, wiR1, wiR2, wiIt, wiEn, wTru, wAnd, wOr, wNot, wFor, rd_int, rd_str, rd_bl, rd_non, rd_tup, rd_lf, rd_lt, rd_df, rd_dt, rd_if, rd_it, rd_scr, startD, fz, List.map, List.length, List.replicate, List.append, List.set_cons_zero, List.set_cons_succ, Int.reduceToNat, List.cons_append, List.nil_append, Nat.reduceAdd, Nat.reduceSub, endD])
  refine i_lcM p.games eG (fun g => .str (gameRow g)) rfl (by omega) (fun g hg P h => ?_) ?_
  · unfold eG
    repeat' (first | trivial | dsimp only [wMakeP, makeP, wCallP, callP, wMethP, permL_nil, permL_cons, wProp, wIxI, wLockE, wiDk, wFld, wStar, wFmt, wFs, wJs, wDn, Bool.not_true, Bool.not_false, wChain, wAndV, wOrV, wNotV, wIsT, id, wNeg, wPar, wTpo, st2, st3, wFg, wFg0, puts, wip, rst, isOw, if_ff, if_tt, List.getElem?_cons_zero, List.getElem?_cons_succ, List.getElem?_nil, wSeq, wAsg, wOp, wC, wCB, wCons, wNil, wRet, wIfS, wB, wNext, wIf, wCall, wDrop, wTup, wLst, wM, wM0, wSl, wSlS, wP, wNoP, wiR1, wiR2, wiIt, wiEn, wTru, wAnd, wOr, wNot, wFor, rd_int, rd_str, rd_bl, rd_non, rd_tup, rd_lf, rd_lt, rd_df, rd_dt, rd_if, rd_it, rd_scr, startD, fz, List.map, List.length, List.replicate, List.append, List.set_cons_zero, List.set_cons_succ, Int.reduceToNat, List.cons_append, List.nil_append, Nat.reduceAdd, Nat.reduceSub, endD])
    refine i_join [g.1, g.2.1, g.2.2] rfl rfl rfl (Nat.le_trans (hp.game_le hg).1 (by omega)) ?_
    repeat' (first | trivial | dsimp only [wMakeP, makeP, wCallP, callP, wMethP, permL_nil, permL_cons, wProp, wIxI, wLockE, wiDk, wFld, wStar, wFmt, wFs, wJs, wDn, Bool.not_true, Bool.not_false, wChain, wAndV, wOrV, wNotV, wIsT, id, wNeg, wPar, wTpo, st2, st3, wFg, wFg0, puts, wip, rst, isOw, if_ff, if_tt, List.getElem?_cons_zero, List.getElem?_cons_succ, List.getElem?_nil, wSeq, wAsg, wOp, wC, wCB, wCons, wNil, wRet, wIfS, wB, wNext, wIf, wCall, wDrop, wTup, wLst, wM, wM0, wSl, wSlS, wP, wNoP, wiR1, wiR2, wiIt, wiEn, wTru, wAnd, wOr, wNot, wFor, rd_int, rd_str, rd_bl, rd_non, rd_tup, rd_lf, rd_lt, rd_df, rd_dt, rd_if, rd_it, rd_scr, startD, fz, List.map, List.length, List.replicate, List.append, List.set_cons_zero, List.set_cons_succ, Int.reduceToNat, List.cons_append, List.nil_append, Nat.reduceAdd, Nat.reduceSub, endD])
  repeat' (first | trivial | dsimp only [w__law_text_r4, wMakeP, makeP, wCallP, callP, wMethP, permL_nil, permL_cons, wProp, wIxI, wLockE, wiDk, wFld, wStar, wFmt, wFs, wJs, wDn, Bool.not_true, Bool.not_false, wChain, wAndV, wOrV, wNotV, wIsT, id, wNeg, wPar, wTpo, st2, st3, wFg, wFg0, puts, wip, rst, isOw, if_ff, if_tt, List.getElem?_cons_zero, List.getElem?_cons_succ, List.getElem?_nil, wSeq, wAsg, wOp, wC, wCB, wCons, wNil, wRet, wIfS, wB, wNext, wIf, wCall, wDrop, wTup, wLst, wM, wM0, wSl, wSlS, wP, wNoP, wiR1, wiR2, wiIt, wiEn, wTru, wAnd, wOr, wNot, wFor, rd_int, rd_str, rd_bl, rd_non, rd_tup, rd_lf, rd_lt, rd_df, rd_dt, rd_if, rd_it, rd_scr, startD, fz, List.map, List.length, List.replicate, List.append, List.set_cons_zero, List.set_cons_succ, Int.reduceToNat, List.cons_append, List.nil_append, Nat.reduceAdd, Nat.reduceSub, endD])
  refine i_lcM p.places eP (fun g => .str (jn " " g)) rfl (by omega) (fun g hg P h => ?_) ?_
  · unfold eP
    repeat' (first | trivial | dsimp only [wMakeP, makeP, wCallP, callP, wMethP, permL_nil, permL_cons, wProp, wIxI, wLockE, wiDk, wFld, wStar, wFmt, wFs, wJs, wDn, Bool.not_true, Bool.not_false, wChain, wAndV, wOrV, wNotV, wIsT, id, wNeg, wPar, wTpo, st2, st3, wFg, wFg0, puts, wip, rst, isOw, if_ff, if_tt, List.getElem?_cons_zero, List.getElem?_cons_succ, List.getElem?_nil, wSeq, wAsg, wOp, wC, wCB, wCons, wNil, wRet, wIfS, wB, wNext, wIf, wCall, wDrop, wTup, wLst, wM, wM0, wSl, wSlS, wP, wNoP, wiR1, wiR2, wiIt, wiEn, wTru, wAnd, wOr, wNot, wFor, rd_int, rd_str, rd_bl, rd_non, rd_tup, rd_lf, rd_lt, rd_df, rd_dt, rd_if, rd_it, rd_scr, startD, fz, List.map, List.length, List.replicate, List.append, List.set_cons_zero, List.set_cons_succ, Int.reduceToNat, List.cons_append, List.nil_append, Nat.reduceAdd, Nat.reduceSub, endD])
    refine i_join g rfl rfl rfl (Nat.le_trans (hp.group_le hg).1 (by omega)) ?_
    repeat' (first | trivial | dsimp only [wMakeP, makeP, wCallP, callP, wMethP, permL_nil, permL_cons, wProp, wIxI, wLockE, wiDk, wFld, wStar, wFmt, wFs, wJs, wDn, Bool.not_true, Bool.not_false, wChain, wAndV, wOrV, wNotV, wIsT, id, wNeg, wPar, wTpo, st2, st3, wFg, wFg0, puts, wip, rst, isOw, if_ff, if_tt, List.getElem?_cons_zero, List.getElem?_cons_succ, List.getElem?_nil, wSeq, wAsg, wOp, wC, wCB, wCons, wNil, wRet, wIfS, wB, wNext, wIf, wCall, wDrop, wTup, wLst, wM, wM0, wSl, wSlS, wP, wNoP, wiR1, wiR2, wiIt, wiEn, wTru, wAnd, wOr, wNot, wFor, rd_int, rd_str, rd_bl, rd_non, rd_tup, rd_lf, rd_lt, rd_df, rd_dt, rd_if, rd_it, rd_scr, startD, fz, List.map, List.length, List.replicate, List.append, List.set_cons_zero, List.set_cons_succ, Int.reduceToNat, List.cons_append, List.nil_append, Nat.reduceAdd, Nat.reduceSub, endD])
  repeat' (first | trivial | dsimp only [w__law_text_r4, wMakeP, makeP, wCallP, callP, wMethP, permL_nil, permL_cons, wProp, wIxI, wLockE, wiDk, wFld, wStar, wFmt, wFs, wJs, wDn, Bool.not_true, Bool.not_false, wChain, wAndV, wOrV, wNotV, wIsT, id, wNeg, wPar, wTpo, st2, st3, wFg, wFg0, puts, wip, rst, isOw, if_ff, if_tt, List.getElem?_cons_zero, List.getElem?_cons_succ, List.getElem?_nil, wSeq, wAsg, wOp, wC, wCB, wCons, wNil, wRet, wIfS, wB, wNext, wIf, wCall, wDrop, wTup, wLst, wM, wM0, wSl, wSlS, wP, wNoP, wiR1, wiR2, wiIt, wiEn, wTru, wAnd, wOr, wNot, wFor, rd_int, rd_str, rd_bl, rd_non, rd_tup, rd_lf, rd_lt, rd_df, rd_dt, rd_if, rd_it, rd_scr, startD, fz, List.map, List.length, List.replicate, List.append, List.set_cons_zero, List.set_cons_succ, Int.reduceToNat, List.cons_append, List.nil_append, Nat.reduceAdd, Nat.reduceSub, endD])
  refine i_join (p.places.map (jn " ")) rfl rfl (by rw [List.map_map]; rfl) (Nat.le_trans hp.places_le.1 (by omega)) ?_
  have h5 : (Str.join " / " (p.places.map (jn " "))).length ≤ 800 := hp.places_le.2
  repeat' (first | trivial | dsimp only [w__law_text_r4, wMakeP, makeP, wCallP, callP, wMethP, permL_nil, permL_cons, wProp, wIxI, wLockE, wiDk, wFld, wStar, wFmt, wFs, wJs, wDn, Bool.not_true, Bool.not_false, wChain, wAndV, wOrV, wNotV, wIsT, id, wNeg, wPar, wTpo, st2, st3, wFg, wFg0, puts, wip, rst, isOw, if_ff, if_tt, List.getElem?_cons_zero, List.getElem?_cons_succ, List.getElem?_nil, wSeq, wAsg, wOp, wC, wCB, wCons, wNil, wRet, wIfS, wB, wNext, wIf, wCall, wDrop, wTup, wLst, wM, wM0, wSl, wSlS, wP, wNoP, wiR1, wiR2, wiIt, wiEn, wTru, wAnd, wOr, wNot, wFor, rd_int, rd_str, rd_bl, rd_non, rd_tup, rd_lf, rd_lt, rd_df, rd_dt, rd_if, rd_it, rd_scr, startD, fz, List.map, List.length, List.replicate, List.append, List.set_cons_zero, List.set_cons_succ, Int.reduceToNat, List.cons_append, List.nil_append, Nat.reduceAdd, Nat.reduceSub, endD])
  · rename_i hc
    have hc : p.facts ≠ [] := fun e => by rw [e] at hc; simp at hc
    refine i_lcM p.facts eF (fun f => .str (factW f)) rfl (by omega) (fun f hf P h => ?_) ?_
    · have h6 := hp.fact_le hf
      unfold eF
      repeat' (first | trivial | dsimp only [wMakeP, makeP, wCallP, callP, wMethP, permL_nil, permL_cons, wProp, wIxI, wLockE, wiDk, wFld, wStar, wFmt, wFs, wJs, wDn, Bool.not_true, Bool.not_false, wChain, wAndV, wOrV, wNotV, wIsT, id, wNeg, wPar, wTpo, st2, st3, wFg, wFg0, puts, wip, rst, isOw, if_ff, if_tt, List.getElem?_cons_zero, List.getElem?_cons_succ, List.getElem?_nil, wSeq, wAsg, wOp, wC, wCB, wCons, wNil, wRet, wIfS, wB, wNext, wIf, wCall, wDrop, wTup, wLst, wM, wM0, wSl, wSlS, wP, wNoP, wiR1, wiR2, wiIt, wiEn, wTru, wAnd, wOr, wNot, wFor, rd_int, rd_str, rd_bl, rd_non, rd_tup, rd_lf, rd_lt, rd_df, rd_dt, rd_if, rd_it, rd_scr, startD, fz, List.map, List.length, List.replicate, List.append, List.set_cons_zero, List.set_cons_succ, Int.reduceToNat, List.cons_append, List.nil_append, Nat.reduceAdd, Nat.reduceSub, endD])
    repeat' (first | trivial | dsimp only [w__law_text_r4, wMakeP, makeP, wCallP, callP, wMethP, permL_nil, permL_cons, wProp, wIxI, wLockE, wiDk, wFld, wStar, wFmt, wFs, wJs, wDn, Bool.not_true, Bool.not_false, wChain, wAndV, wOrV, wNotV, wIsT, id, wNeg, wPar, wTpo, st2, st3, wFg, wFg0, puts, wip, rst, isOw, if_ff, if_tt, List.getElem?_cons_zero, List.getElem?_cons_succ, List.getElem?_nil, wSeq, wAsg, wOp, wC, wCB, wCons, wNil, wRet, wIfS, wB, wNext, wIf, wCall, wDrop, wTup, wLst, wM, wM0, wSl, wSlS, wP, wNoP, wiR1, wiR2, wiIt, wiEn, wTru, wAnd, wOr, wNot, wFor, rd_int, rd_str, rd_bl, rd_non, rd_tup, rd_lf, rd_lt, rd_df, rd_dt, rd_if, rd_it, rd_scr, startD, fz, List.map, List.length, List.replicate, List.append, List.set_cons_zero, List.set_cons_succ, Int.reduceToNat, List.cons_append, List.nil_append, Nat.reduceAdd, Nat.reduceSub, endD])
    refine i_join (("known" : Str) :: p.facts.map factW) rfl rfl (by rw [List.map_cons, List.map_map]; rfl) (Nat.le_trans hp.known_le.1 (by omega)) ?_
    repeat' (first | trivial | dsimp only [w__law_text_r4, wMakeP, makeP, wCallP, callP, wMethP, permL_nil, permL_cons, wProp, wIxI, wLockE, wiDk, wFld, wStar, wFmt, wFs, wJs, wDn, Bool.not_true, Bool.not_false, wChain, wAndV, wOrV, wNotV, wIsT, id, wNeg, wPar, wTpo, st2, st3, wFg, wFg0, puts, wip, rst, isOw, if_ff, if_tt, List.getElem?_cons_zero, List.getElem?_cons_succ, List.getElem?_nil, wSeq, wAsg, wOp, wC, wCB, wCons, wNil, wRet, wIfS, wB, wNext, wIf, wCall, wDrop, wTup, wLst, wM, wM0, wSl, wSlS, wP, wNoP, wiR1, wiR2, wiIt, wiEn, wTru, wAnd, wOr, wNot, wFor, rd_int, rd_str, rd_bl, rd_non, rd_tup, rd_lf, rd_lt, rd_df, rd_dt, rd_if, rd_it, rd_scr, startD, fz, List.map, List.length, List.replicate, List.append, List.set_cons_zero, List.set_cons_succ, Int.reduceToNat, List.cons_append, List.nil_append, Nat.reduceAdd, Nat.reduceSub, endD])
    refine i_join (rowsOf p) rfl rfl (by unfold rowsOf; rw [if_neg hc]; simp [entriesRow, placesRow, knownRow]) (Nat.le_trans hp.text_le.1 (by omega)) ?_
    repeat' (first | trivial | dsimp only [w__law_text_r4, wMakeP, makeP, wCallP, callP, wMethP, permL_nil, permL_cons, wProp, wIxI, wLockE, wiDk, wFld, wStar, wFmt, wFs, wJs, wDn, Bool.not_true, Bool.not_false, wChain, wAndV, wOrV, wNotV, wIsT, id, wNeg, wPar, wTpo, st2, st3, wFg, wFg0, puts, wip, rst, isOw, if_ff, if_tt, List.getElem?_cons_zero, List.getElem?_cons_succ, List.getElem?_nil, wSeq, wAsg, wOp, wC, wCB, wCons, wNil, wRet, wIfS, wB, wNext, wIf, wCall, wDrop, wTup, wLst, wM, wM0, wSl, wSlS, wP, wNoP, wiR1, wiR2, wiIt, wiEn, wTru, wAnd, wOr, wNot, wFor, rd_int, rd_str, rd_bl, rd_non, rd_tup, rd_lf, rd_lt, rd_df, rd_dt, rd_if, rd_it, rd_scr, startD, fz, List.map, List.length, List.replicate, List.append, List.set_cons_zero, List.set_cons_succ, Int.reduceToNat, List.cons_append, List.nil_append, Nat.reduceAdd, Nat.reduceSub, endD])
  · rename_i hc
    have hc : p.facts = [] := List.length_eq_zero_iff.mp (by rw [List.length_map] at hc; omega)
    refine i_join (rowsOf p) rfl rfl (by unfold rowsOf; rw [if_pos hc]; simp [entriesRow, placesRow]) (Nat.le_trans hp.text_le.1 (by omega)) ?_
    repeat' (first | trivial | dsimp only [w__law_text_r4, wMakeP, makeP, wCallP, callP, wMethP, permL_nil, permL_cons, wProp, wIxI, wLockE, wiDk, wFld, wStar, wFmt, wFs, wJs, wDn, Bool.not_true, Bool.not_false, wChain, wAndV, wOrV, wNotV, wIsT, id, wNeg, wPar, wTpo, st2, st3, wFg, wFg0, puts, wip, rst, isOw, if_ff, if_tt, List.getElem?_cons_zero, List.getElem?_cons_succ, List.getElem?_nil, wSeq, wAsg, wOp, wC, wCB, wCons, wNil, wRet, wIfS, wB, wNext, wIf, wCall, wDrop, wTup, wLst, wM, wM0, wSl, wSlS, wP, wNoP, wiR1, wiR2, wiIt, wiEn, wTru, wAnd, wOr, wNot, wFor, rd_int, rd_str, rd_bl, rd_non, rd_tup, rd_lf, rd_lt, rd_df, rd_dt, rd_if, rd_it, rd_scr, startD, fz, List.map, List.length, List.replicate, List.append, List.set_cons_zero, List.set_cons_succ, Int.reduceToNat, List.cons_append, List.nil_append, Nat.reduceAdd, Nat.reduceSub, endD])
def w__law_drawn (sp__law_names : Spd) (sp__law_draw : Spd) (sp__law_games : Spd) (sp__law_spots : Spd) (sp__law_facts : Spd) (Ex : DXs) : WS :=
  (wSeq (wAsg (wCall [0] [] 3 sp__law_names [] exF (wCons (wVar 0) (wCons (wIf (wB (wOp oEq (wVar 1) (wC (.int 0)))) (wC (.int 8)) (wOp oAdd (wC (.int 2)) (wCall [0] [] 2 sp__law_draw [] exF (wCons (wVar 0) (wCons (wC (.int 7)) wNil))))) (wCons (wLst wNil) wNil)))) (gFz 2))
  (wSeq (wAsg (wIf (wB (wOp oEq (wVar 1) (wC (.int 0)))) (wC (.int 24)) (wOp oAdd (wC (.int 1)) (wCall [0] [] 2 sp__law_draw [] exF (wCons (wVar 0) (wCons (wIf (wB (wOp oEq (wVar 1) (wC (.int 1)))) (wC (.int 24)) (wC (.int 7))) wNil))))) (gFz 3))
  (wSeq (wAsg (wCall [0] [] 3 sp__law_games [] exF (wCons (wVar 0) (wCons (wVar 2) (wCons (wVar 3) wNil)))) (gUnp 2 (wgCons (gFz 4) (wgCons (gFz 5) wgNil))))
  (wSeq (wAsg (wCall [0] [] 2 sp__law_spots [] exF (wCons (wVar 0) (wCons (wVar 5) wNil))) (gFz 6))
  (wSeq (wAsg (wOp oIxA (wLst (wCons (wC (.int 0)) (wCons (wC (.int 0)) (wCons (wC (.int 1)) (wCons (wC (.int 2)) (wCons (wC (.int 4)) (wCons (wC (.int 12)) wNil))))))) (wCall [0] [] 2 sp__law_draw [] exF (wCons (wVar 0) (wCons (wC (.int 6)) wNil)))) (gFz 3))
  (wRet (wTup (wCons (wCB nTuple (wCons (wVar 2) wNil)) (wCons (wCB nTuple (wCons (wVar 4) wNil)) (wCons (wVar 6) (wCons (wCB nTuple (wCons (wCall [0] [] 3 sp__law_facts [] exF (wCons (wVar 0) (wCons (wVar 2) (wCons (wVar 3) wNil)))) wNil)) wNil)))))))))))
def sp__law_drawn : Spd := fun ds Q _ => ∃ (p : D) (way : Int), ds = [p, .int way] ∧ Pot p ∧ ∀ (q : Pn) p', PlanOk q → Pot p' → Q (eParts q) [p']
theorem hw__law_drawn (ds : List D) (Qd : D → List D → Prop) (Ed : DX) (h : sp__law_drawn ds Qd Ed) : w__law_drawn sp__law_names sp__law_draw sp__law_games sp__law_spots sp__law_facts (fun c fs xs _ => Ed c fs xs) (endD [0] Qd) (startD ["_law_pot_here", "_law_way", "_law_folk", "_law_many", "_law_games_here", "_law_left", "_law_spots_here"] ds) := by
  obtain ⟨p, way, rfl, ⟨a, b, c, rfl⟩, h⟩ := h
  unfold w__law_drawn
  repeat' (first | trivial | dsimp only [wMakeP, makeP, wCallP, callP, wMethP, permL_nil, permL_cons, wProp, wIxI, wLockE, wiDk, wFld, wStar, wFmt, wFs, wJs, wDn, Bool.not_true, Bool.not_false, wChain, wAndV, wOrV, wNotV, wIsT, id, wNeg, wPar, wTpo, st2, st3, wFg, wFg0, puts, wip, rst, isOw, if_ff, if_tt, List.getElem?_cons_zero, List.getElem?_cons_succ, List.getElem?_nil, wSeq, wAsg, wOp, wC, wCB, wCons, wNil, wRet, wIfS, wB, wNext, wIf, wCall, wDrop, wTup, wLst, wM, wM0, wSl, wSlS, wP, wNoP, wiR1, wiR2, wiIt, wiEn, wTru, wAnd, wOr, wNot, wFor, rd_int, rd_str, rd_bl, rd_non, rd_tup, rd_lf, rd_lt, rd_df, rd_dt, rd_if, rd_it, rd_scr, startD, fz, List.map, List.length, List.replicate, List.append, List.set_cons_zero, List.set_cons_succ, Int.reduceToNat, List.cons_append, List.nil_append, Nat.reduceAdd, Nat.reduceSub, endD])
  all_goals
    refine i_names [] rfl rfl (by simp; try omega) fun folk a b c hl hk hnd => ?_
    repeat' (first | trivial | dsimp only [wMakeP, makeP, wCallP, callP, wMethP, permL_nil, permL_cons, wProp, wIxI, wLockE, wiDk, wFld, wStar, wFmt, wFs, wJs, wDn, Bool.not_true, Bool.not_false, wChain, wAndV, wOrV, wNotV, wIsT, id, wNeg, wPar, wTpo, st2, st3, wFg, wFg0, puts, wip, rst, isOw, if_ff, if_tt, List.getElem?_cons_zero, List.getElem?_cons_succ, List.getElem?_nil, wSeq, wAsg, wOp, wC, wCB, wCons, wNil, wRet, wIfS, wB, wNext, wIf, wCall, wDrop, wTup, wLst, wM, wM0, wSl, wSlS, wP, wNoP, wiR1, wiR2, wiIt, wiEn, wTru, wAnd, wOr, wNot, wFor, rd_int, rd_str, rd_bl, rd_non, rd_tup, rd_lf, rd_lt, rd_df, rd_dt, rd_if, rd_it, rd_scr, startD, fz, List.map, List.length, List.replicate, List.append, List.set_cons_zero, List.set_cons_succ, Int.reduceToNat, List.cons_append, List.nil_append, Nat.reduceAdd, Nat.reduceSub, endD])
    all_goals
      have hf : Folk folk := ⟨by omega, by omega, fun x hx => (hk x hx).1, hnd⟩
      have hle := hf.le
      have hge := hf.ge
      refine i_games folk rfl rfl hf (by omega) fun gs a b c hgl hgs => ?_
      have hel := ends_len (Srcs.start hf.nm hf.nd) hgs
      repeat' (first | trivial | dsimp only [wMakeP, makeP, wCallP, callP, wMethP, permL_nil, permL_cons, wProp, wIxI, wLockE, wiDk, wFld, wStar, wFmt, wFs, wJs, wDn, Bool.not_true, Bool.not_false, wChain, wAndV, wOrV, wNotV, wIsT, id, wNeg, wPar, wTpo, st2, st3, wFg, wFg0, puts, wip, rst, isOw, if_ff, if_tt, List.getElem?_cons_zero, List.getElem?_cons_succ, List.getElem?_nil, wSeq, wAsg, wOp, wC, wCB, wCons, wNil, wRet, wIfS, wB, wNext, wIf, wCall, wDrop, wTup, wLst, wM, wM0, wSl, wSlS, wP, wNoP, wiR1, wiR2, wiIt, wiEn, wTru, wAnd, wOr, wNot, wFor, rd_int, rd_str, rd_bl, rd_non, rd_tup, rd_lf, rd_lt, rd_df, rd_dt, rd_if, rd_it, rd_scr, startD, fz, List.map, List.length, List.replicate, List.append, List.set_cons_zero, List.set_cons_succ, Int.reduceToNat, List.cons_append, List.nil_append, Nat.reduceAdd, Nat.reduceSub, endD])
      refine i_spots (endsOf folk gs) rfl rfl (by omega) fun places a b c hpne hplc => ?_
      repeat' (first | trivial | dsimp only [wMakeP, makeP, wCallP, callP, wMethP, permL_nil, permL_cons, wProp, wIxI, wLockE, wiDk, wFld, wStar, wFmt, wFs, wJs, wDn, Bool.not_true, Bool.not_false, wChain, wAndV, wOrV, wNotV, wIsT, id, wNeg, wPar, wTpo, st2, st3, wFg, wFg0, puts, wip, rst, isOw, if_ff, if_tt, List.getElem?_cons_zero, List.getElem?_cons_succ, List.getElem?_nil, wSeq, wAsg, wOp, wC, wCB, wCons, wNil, wRet, wIfS, wB, wNext, wIf, wCall, wDrop, wTup, wLst, wM, wM0, wSl, wSlS, wP, wNoP, wiR1, wiR2, wiIt, wiEn, wTru, wAnd, wOr, wNot, wFor, rd_int, rd_str, rd_bl, rd_non, rd_tup, rd_lf, rd_lt, rd_df, rd_dt, rd_if, rd_it, rd_scr, startD, fz, List.map, List.length, List.replicate, List.append, List.set_cons_zero, List.set_cons_succ, Int.reduceToNat, List.cons_append, List.nil_append, Nat.reduceAdd, Nat.reduceSub, endD])
      rename_i r a b c hr0 hr1
      refine i_ixB rfl rfl hr0 (by simpa using hr1) fun k hk2 e => ?_
      have hk6 : k < 6 := by simpa using hk2
      obtain ⟨m, em, hm0, hm1⟩ : ∃ m : Int, [D.int 0, D.int 0, D.int 1, D.int 2, D.int 4, D.int 12][k] = .int m ∧ 0 ≤ m ∧ m ≤ 12 := by
        match k, hk6 with
        | 0, _ | 1, _ | 2, _ | 3, _ | 4, _ | 5, _ => exact ⟨_, rfl, by decide, by decide⟩
      rw [em]
      repeat' (first | trivial | dsimp only [wMakeP, makeP, wCallP, callP, wMethP, permL_nil, permL_cons, wProp, wIxI, wLockE, wiDk, wFld, wStar, wFmt, wFs, wJs, wDn, Bool.not_true, Bool.not_false, wChain, wAndV, wOrV, wNotV, wIsT, id, wNeg, wPar, wTpo, st2, st3, wFg, wFg0, puts, wip, rst, isOw, if_ff, if_tt, List.getElem?_cons_zero, List.getElem?_cons_succ, List.getElem?_nil, wSeq, wAsg, wOp, wC, wCB, wCons, wNil, wRet, wIfS, wB, wNext, wIf, wCall, wDrop, wTup, wLst, wM, wM0, wSl, wSlS, wP, wNoP, wiR1, wiR2, wiIt, wiEn, wTru, wAnd, wOr, wNot, wFor, rd_int, rd_str, rd_bl, rd_non, rd_tup, rd_lf, rd_lt, rd_df, rd_dt, rd_if, rd_it, rd_scr, startD, fz, List.map, List.length, List.replicate, List.append, List.set_cons_zero, List.set_cons_succ, Int.reduceToNat, List.cons_append, List.nil_append, Nat.reduceAdd, Nat.reduceSub, endD])
      refine i_facts folk rfl rfl (by omega) hf.nd hm0 fun facts a b c hfl hfn hfo => ?_
      repeat' (first | trivial | dsimp only [wMakeP, makeP, wCallP, callP, wMethP, permL_nil, permL_cons, wProp, wIxI, wLockE, wiDk, wFld, wStar, wFmt, wFs, wJs, wDn, Bool.not_true, Bool.not_false, wChain, wAndV, wOrV, wNotV, wIsT, id, wNeg, wPar, wTpo, st2, st3, wFg, wFg0, puts, wip, rst, isOw, if_ff, if_tt, List.getElem?_cons_zero, List.getElem?_cons_succ, List.getElem?_nil, wSeq, wAsg, wOp, wC, wCB, wCons, wNil, wRet, wIfS, wB, wNext, wIf, wCall, wDrop, wTup, wLst, wM, wM0, wSl, wSlS, wP, wNoP, wiR1, wiR2, wiIt, wiEn, wTru, wAnd, wOr, wNot, wFor, rd_int, rd_str, rd_bl, rd_non, rd_tup, rd_lf, rd_lt, rd_df, rd_dt, rd_if, rd_it, rd_scr, startD, fz, List.map, List.length, List.replicate, List.append, List.set_cons_zero, List.set_cons_succ, Int.reduceToNat, List.cons_append, List.nil_append, Nat.reduceAdd, Nat.reduceSub, endD])
      exact h ⟨folk, gs, places, facts⟩ _ ⟨hf, hgs, by show 1 ≤ gs.length; omega, by show gs.length ≤ 24; omega, hpne, hplc, by show facts.length ≤ 12; omega, hfn, hfo⟩ ⟨_, _, _, rfl⟩
end L
namespace L
open PySem PySem.Spec PyProof.Rows L2 M
local macro_rules
  | `(tactic| trivial) => `(tactic| with_reducible first
    | refine i_var rfl ?_
    | refine i_addI ?_ | refine i_sub ?_ | refine i_mod (by omega) ?_ | refine i_fdiv (by omega) ?_
    | refine i_mulL (by omega) ?_ | refine i_mulR (by omega) ?_
    | refine ite_t ?_ | refine ite_nT ?_ | refine ite_nF ?_ | refine ite_nn ?_ | refine ite_f ?_ | refine ite_dt (by first | assumption | omega | (simp only [List.length_map, List.length_append, List.length_cons, List.length_nil, List.length_take, List.length_drop] at *; omega)) ?_ | refine ite_df (by first | assumption | omega | (simp only [List.length_map, List.length_append, List.length_cons, List.length_nil, List.length_take, List.length_drop] at *; omega)) ?_ | refine ite_ct (by assumption) ?_ | refine ite_cf (by assumption) ?_ | refine ite_nct (by assumption) ?_ | refine ite_ncf (by assumption) ?_ | refine iteD (fun hc => ?_) (fun hc => ?_) | refine ite_nf (by first | exact rfl | assumption | omega | (simp only [List.length_map, List.length_append, List.length_cons, List.length_nil, List.length_take, List.length_drop] at *; omega)) ?_ | refine ite_nt (by first | assumption | omega | (simp only [List.length_map, List.length_append, List.length_cons, List.length_nil, List.length_take, List.length_drop] at *; omega)) ?_ | refine iteN (fun hc => ?_) (fun hc => ?_) | refine i_b ?_
    | refine i_lt ?_ | refine i_le ?_ | refine i_gt ?_ | refine i_ge ?_ | refine i_eqI ?_ | refine i_neI ?_ | refine i_eqS ?_ | refine i_neS ?_
    | refine i_ixL rfl rfl rfl ?_
    | refine i_int ?_ | refine i_abs ?_ | refine i_max ?_ | refine i_min ?_ | refine i_dm (by omega) ?_
    | refine i_lenL rfl rfl ?_ | refine i_lenSc ?_ | refine i_list rfl rfl ?_ | refine i_tuple rfl rfl ?_
    | refine i_setl rfl rfl rfl rfl ?_
    | refine i_truB ?_ | refine i_pln rfl ?_ | refine i_isSS ?_ | refine i_isTT ?_ | refine i_isII ?_ | refine i_isIB ?_ | refine i_isSI ?_ | refine i_lockE rfl ?_ | refine i_dk rfl ?_ | refine i_gattr rfl rfl rfl rfl rfl (by decide +kernel) ?_ | refine i_star rfl rfl ?_ | refine i_isin rfl ?_ | refine i_nn ?_ | refine i_made ?_ | refine i_spc ?_ | refine i_qlen (by omega) ?_ | refine i_qstr ?_ | refine i_qbl ?_ | refine i_js (by simp only [empty_app, app_len, len_gt]; omega) ?_ | refine i_fmt (by omega) ?_ | refine i_inC ?_ | refine i_inKS rfl ?_ | refine i_notInKS rfl ?_ | refine i_lenD rfl ?_ | refine i_notIn2 ?_ | refine i_in2 ?_ | refine i_allM rfl ?_ | refine i_anyM rfl ?_ | refine i_index rfl (by assumption) ?_ | refine i_tyL rfl ?_ | refine i_tyS ?_ | refine i_popM rfl (by first | omega | (simp only [List.length_map, List.length_append, List.length_cons, List.length_nil, List.length_take, List.length_drop] at *; omega)) (fun m hm hme hle => ?_) | refine i_popB rfl (by first | omega | (simp only [List.length_map, List.length_append, List.length_cons, List.length_nil, List.length_take, List.length_drop] at *; omega)) (fun m hm hme => ?_) | refine i_par rfl rfl ?_ | refine i_tpo rfl rfl ?_ | refine i_fzE rfl ?_ | refine i_fzE (fzR_P (by assumption)) ?_ | refine i_fz rfl ?_ | refine i_fz (fzR_P (by assumption)) ?_ | refine i_app rfl rfl (by first | omega | (simp only [List.length_map, List.length_append, List.length_cons, List.length_nil, List.length_take, List.length_drop] at *; omega)) ?_ | refine i_ow rfl ?_ | refine i_unp rfl ?_ | refine i_unpO rfl ?_ | refine i_gcons ?_ | refine i_gnil ?_
    | refine i_strB (by omega) ?_ | refine i_notInS rfl rfl ?_ | refine i_inS rfl rfl ?_ | refine i_notInI rfl rfl ?_ | refine i_inI rfl rfl ?_
    | refine i_addS (by first | decide | (simp only [len_plus, len_minus, len_gt, len_places, app_len]; omega)) ?_ | refine i_addL rfl rfl (by decide) ?_ | refine i_addL rfl rfl (by first | omega | (simp only [List.length_map, List.length_append, List.length_cons, List.length_nil, List.length_take, List.length_drop] at *; omega)) ?_
    | refine i_pow (by omega) ?_ | refine i_disp rfl rfl ?_ | refine i_slL rfl ?_ | refine i_slT ?_ | refine i_scr ?_ | refine i_opt ?_ | refine i_itL rfl rfl ?_ | refine i_itS ?_ | refine i_en rfl rfl ?_ | refine i_r1 (by first | omega | (simp only [List.length_map, List.length_append, List.length_cons, List.length_nil, List.length_take, List.length_drop] at *; omega)) ?_ | refine i_r2 (by first | omega | (simp only [List.length_map, List.length_append, List.length_cons, List.length_nil, List.length_take, List.length_drop] at *; omega)) ?_ | refine i_lc0 ?_ | refine i_dc0 ?_ | refine i_kfz rfl rfl ?_ | refine i_ixSc rfl ?_
    | refine i_ret rfl rfl ?_ | refine i_fzs rfl ?_)

theorem lett_mem : ∀ c : Nat, 97 ≤ c → c ≤ 122 → c ∈ ("abcdefghijklmnopqrstuvwxyz" : Str).cps.toList := by
  have : ∀ c < 123, 97 ≤ c → c ∈ ("abcdefghijklmnopqrstuvwxyz" : Str).cps.toList := by decide +kernel
  intro c h1 h2
  exact this c (by omega) h1
theorem sign_mem (c : Nat) (h : Sign c) : c ∈ (("abcdefghijklmnopqrstuvwxyz" : Str) ++ "0123456789").cps.toList := by
  have : ∀ c < 123, Sign c → c ∈ (("abcdefghijklmnopqrstuvwxyz" : Str) ++ "0123456789").cps.toList := by decide +kernel
  exact this c (by rcases h with h | h <;> omega) h
def w_is_name_r1 (Ex : DXs) : WS :=
  (wRet (wAndV (wOp oInB (wOp oIxA (wVar 0) (wC (.int 0))) (wC (.str "abcdefghijklmnopqrstuvwxyz"))) (wCB nAll (wCons (wLc (wiIt (wVar 0)) (gFz 1) wYes (wOp oInB (wVar 1) (wOp oAdd (wC (.str "abcdefghijklmnopqrstuvwxyz")) (wC (.str "0123456789")))) [1]) wNil))))
def w_is_name (Ex : DXs) : WS :=
  (wSeq (wIfS (wOr (wNot (wTru (wIsT "str" (wVar 0)))) (wNot (wB (wChain oLe oLe (wC (.int 1)) (wCB nLen (wCons (wVar 0) wNil)) (wC (.int 8)))))) (wRet (wC (.bl false))) wNext)
  (w_is_name_r1 Ex))
def sp_is_name : Spd := fun ds Q _ => ∃ x, ds = [.str x] ∧ NameOk x ∧ Q (.bl true) []
theorem hw_is_name (ds : List D) (Qd : D → List D → Prop) (Ed : DX) (h : sp_is_name ds Qd Ed) : w_is_name (fun c fs xs _ => Ed c fs xs) (endD [] Qd) (startD ["value", "sign"] ds) := by
  obtain ⟨x, rfl, hx, h⟩ := h
  have hl := hx.len
  have hs := hx.signs
  obtain ⟨c, l, e, _, hc, _⟩ := hx
  have hm := lett_mem c hc.1 hc.2
  have hsz : x.length ≤ sizeLine := Nat.le_trans hl.2 (by decide)
  unfold w_is_name
  repeat' (first | trivial | dsimp only [w_is_name_r1, wMakeP, makeP, wCallP, callP, wMethP, permL_nil, permL_cons, wProp, wIxI, wLockE, wiDk, wFld, wStar, wFmt, wFs, wJs, wDn, Bool.not_true, Bool.not_false, wChain, wAndV, wOrV, wNotV, wIsT, id, wNeg, wPar, wTpo, st2, st3, wFg, wFg0, puts, wip, rst, isOw, if_ff, if_tt, List.getElem?_cons_zero, List.getElem?_cons_succ, List.getElem?_nil, wSeq, wAsg, wOp, wC, wCB, wCons, wNil, wRet, wIfS, wB, wNext, wIf, wCall, wDrop, wTup, wLst, wM, wM0, wSl, wSlS, wP, wNoP, wiR1, wiR2, wiIt, wiEn, wTru, wAnd, wOr, wNot, wFor, rd_int, rd_str, rd_bl, rd_non, rd_tup, rd_lf, rd_lt, rd_df, rd_dt, rd_if, rd_it, rd_scr, startD, fz, List.map, List.length, List.replicate, List.append, List.set_cons_zero, List.set_cons_succ, Int.reduceToNat, List.cons_append, List.nil_append, Nat.reduceAdd, Nat.reduceSub, endD])
  refine i_lenS hsz ?_
  repeat' (first | trivial | dsimp only [w_is_name_r1, wMakeP, makeP, wCallP, callP, wMethP, permL_nil, permL_cons, wProp, wIxI, wLockE, wiDk, wFld, wStar, wFmt, wFs, wJs, wDn, Bool.not_true, Bool.not_false, wChain, wAndV, wOrV, wNotV, wIsT, id, wNeg, wPar, wTpo, st2, st3, wFg, wFg0, puts, wip, rst, isOw, if_ff, if_tt, List.getElem?_cons_zero, List.getElem?_cons_succ, List.getElem?_nil, wSeq, wAsg, wOp, wC, wCB, wCons, wNil, wRet, wIfS, wB, wNext, wIf, wCall, wDrop, wTup, wLst, wM, wM0, wSl, wSlS, wP, wNoP, wiR1, wiR2, wiIt, wiEn, wTru, wAnd, wOr, wNot, wFor, rd_int, rd_str, rd_bl, rd_non, rd_tup, rd_lf, rd_lt, rd_df, rd_dt, rd_if, rd_it, rd_scr, startD, fz, List.map, List.length, List.replicate, List.append, List.set_cons_zero, List.set_cons_succ, Int.reduceToNat, List.cons_append, List.nil_append, Nat.reduceAdd, Nat.reduceSub, endD])
  refine i_ixS hsz (show atI x.cps.toList ((0 : Nat) : Int) = some c from atI_nat (by rw [e]; rfl)) ?_
  repeat' (first | trivial | dsimp only [w_is_name_r1, wMakeP, makeP, wCallP, callP, wMethP, permL_nil, permL_cons, wProp, wIxI, wLockE, wiDk, wFld, wStar, wFmt, wFs, wJs, wDn, Bool.not_true, Bool.not_false, wChain, wAndV, wOrV, wNotV, wIsT, id, wNeg, wPar, wTpo, st2, st3, wFg, wFg0, puts, wip, rst, isOw, if_ff, if_tt, List.getElem?_cons_zero, List.getElem?_cons_succ, List.getElem?_nil, wSeq, wAsg, wOp, wC, wCB, wCons, wNil, wRet, wIfS, wB, wNext, wIf, wCall, wDrop, wTup, wLst, wM, wM0, wSl, wSlS, wP, wNoP, wiR1, wiR2, wiIt, wiEn, wTru, wAnd, wOr, wNot, wFor, rd_int, rd_str, rd_bl, rd_non, rd_tup, rd_lf, rd_lt, rd_df, rd_dt, rd_if, rd_it, rd_scr, startD, fz, List.map, List.length, List.replicate, List.append, List.set_cons_zero, List.set_cons_succ, Int.reduceToNat, List.cons_append, List.nil_append, Nat.reduceAdd, Nat.reduceSub, endD])
  refine i_lcM x.cps.toList (fun c => .str ⟨#[c]⟩) (fun c => .bl (decide (Sign c))) rfl (Nat.le_trans (show x.cps.toList.length ≤ 8 by rw [Array.length_toList]; exact hl.2) (by omega)) (fun d hd P h => ?_) ?_
  · have h1 := sign_mem d (hs d hd)
    rw [decide_eq_true (hs d hd)] at h
    repeat' (first | trivial | dsimp only [w_is_name_r1, wMakeP, makeP, wCallP, callP, wMethP, permL_nil, permL_cons, wProp, wIxI, wLockE, wiDk, wFld, wStar, wFmt, wFs, wJs, wDn, Bool.not_true, Bool.not_false, wChain, wAndV, wOrV, wNotV, wIsT, id, wNeg, wPar, wTpo, st2, st3, wFg, wFg0, puts, wip, rst, isOw, if_ff, if_tt, List.getElem?_cons_zero, List.getElem?_cons_succ, List.getElem?_nil, wSeq, wAsg, wOp, wC, wCB, wCons, wNil, wRet, wIfS, wB, wNext, wIf, wCall, wDrop, wTup, wLst, wM, wM0, wSl, wSlS, wP, wNoP, wiR1, wiR2, wiIt, wiEn, wTru, wAnd, wOr, wNot, wFor, rd_int, rd_str, rd_bl, rd_non, rd_tup, rd_lf, rd_lt, rd_df, rd_dt, rd_if, rd_it, rd_scr, startD, fz, List.map, List.length, List.replicate, List.append, List.set_cons_zero, List.set_cons_succ, Int.reduceToNat, List.cons_append, List.nil_append, Nat.reduceAdd, Nat.reduceSub, endD])
    rw [decide_eq_true h1]
    repeat' (first | trivial | dsimp only [wMakeP, makeP, wCallP, callP, wMethP, permL_nil, permL_cons, wProp, wIxI, wLockE, wiDk, wFld, wStar, wFmt, wFs, wJs, wDn, Bool.not_true, Bool.not_false, wChain, wAndV, wOrV, wNotV, wIsT, id, wNeg, wPar, wTpo, st2, st3, wFg, wFg0, puts, wip, rst, isOw, if_ff, if_tt, List.getElem?_cons_zero, List.getElem?_cons_succ, List.getElem?_nil, wSeq, wAsg, wOp, wC, wCB, wCons, wNil, wRet, wIfS, wB, wNext, wIf, wCall, wDrop, wTup, wLst, wM, wM0, wSl, wSlS, wP, wNoP, wiR1, wiR2, wiIt, wiEn, wTru, wAnd, wOr, wNot, wFor, rd_int, rd_str, rd_bl, rd_non, rd_tup, rd_lf, rd_lt, rd_df, rd_dt, rd_if, rd_it, rd_scr, startD, fz, List.map, List.length, List.replicate, List.append, List.set_cons_zero, List.set_cons_succ, Int.reduceToNat, List.cons_append, List.nil_append, Nat.reduceAdd, Nat.reduceSub, endD])
  repeat' (first | trivial | dsimp only [w_is_name_r1, wMakeP, makeP, wCallP, callP, wMethP, permL_nil, permL_cons, wProp, wIxI, wLockE, wiDk, wFld, wStar, wFmt, wFs, wJs, wDn, Bool.not_true, Bool.not_false, wChain, wAndV, wOrV, wNotV, wIsT, id, wNeg, wPar, wTpo, st2, st3, wFg, wFg0, puts, wip, rst, isOw, if_ff, if_tt, List.getElem?_cons_zero, List.getElem?_cons_succ, List.getElem?_nil, wSeq, wAsg, wOp, wC, wCB, wCons, wNil, wRet, wIfS, wB, wNext, wIf, wCall, wDrop, wTup, wLst, wM, wM0, wSl, wSlS, wP, wNoP, wiR1, wiR2, wiIt, wiEn, wTru, wAnd, wOr, wNot, wFor, rd_int, rd_str, rd_bl, rd_non, rd_tup, rd_lf, rd_lt, rd_df, rd_dt, rd_if, rd_it, rd_scr, startD, fz, List.map, List.length, List.replicate, List.append, List.set_cons_zero, List.set_cons_succ, Int.reduceToNat, List.cons_append, List.nil_append, Nat.reduceAdd, Nat.reduceSub, endD])
  rw [List.all_eq_true.mpr fun d hd => decide_eq_true (hs d hd)]
  exact h
theorem i_isname {x : Str} {Q : D → List D → Prop} {E : DX} (h : NameOk x) (q : Q (.bl true) []) : sp_is_name [.str x] Q E := ⟨x, rfl, h, q⟩
local macro_rules
  | `(tactic| trivial) => `(tactic| with_reducible first | refine i_call rfl rfl rfl ?_ | refine i_callB (by decide) rfl rfl rfl rfl ?_ | refine i_isname (by assumption) ?_)
def w_check_entries_r1 (sp_is_name : Spd) (Ex : DXs) : WS :=
  (wFg [1, 2] (wFg0 [1, 2] (wFor (wiEn (wVar 0)) (gUnp 2 (wgCons (gFz 1) (wgCons (gFz 2) wgNil)))
  (wFg [1, 2] (wIfS (wOr (wB (wOp oEq (wVar 1) (wC (.int 8)))) (wOr (wNot (wTru (wCall [] [] 1 sp_is_name [] exF (wCons (wVar 2) wNil)))) (wB (wOp oInB (wVar 2) (wSl (wVar 0) wNoP (wP (wVar 1))))))) wNever wNext)))))
def w_check_entries (sp_is_name : Spd) (Ex : DXs) : WS :=
  (wSeq (wIfS (wOr (wNot (wTru (wIsT "tuple" (wVar 0)))) (wB (wOp oLt (wCB nLen (wCons (wVar 0) wNil)) (wC (.int 2))))) wNever wNext)
  (w_check_entries_r1 sp_is_name Ex))
def sp_check_entries : Spd := fun ds Q _ => ∃ l, ds = [eP l] ∧ Folk l ∧ Q .non []
theorem hw_check_entries (ds : List D) (Qd : D → List D → Prop) (Ed : DX) (h : sp_check_entries ds Qd Ed) : w_check_entries sp_is_name (fun c fs xs _ => Ed c fs xs) (endD [] Qd) (startD ["value", "index", "entry"] ds) := by
  obtain ⟨l, rfl, hf, h⟩ := h
  have hge := hf.ge
  have hle := hf.le
  unfold w_check_entries eP
  repeat' (first | trivial | dsimp only [w_check_entries_r1, wMakeP, makeP, wCallP, callP, wMethP, permL_nil, permL_cons, wProp, wIxI, wLockE, wiDk, wFld, wStar, wFmt, wFs, wJs, wDn, Bool.not_true, Bool.not_false, wChain, wAndV, wOrV, wNotV, wIsT, id, wNeg, wPar, wTpo, st2, st3, wFg, wFg0, puts, wip, rst, isOw, if_ff, if_tt, List.getElem?_cons_zero, List.getElem?_cons_succ, List.getElem?_nil, wSeq, wAsg, wOp, wC, wCB, wCons, wNil, wRet, wIfS, wB, wNext, wIf, wCall, wDrop, wTup, wLst, wM, wM0, wSl, wSlS, wP, wNoP, wiR1, wiR2, wiIt, wiEn, wTru, wAnd, wOr, wNot, wFor, rd_int, rd_str, rd_bl, rd_non, rd_tup, rd_lf, rd_lt, rd_df, rd_dt, rd_if, rd_it, rd_scr, startD, fz, List.map, List.length, List.replicate, List.append, List.set_cons_zero, List.set_cons_succ, Int.reduceToNat, List.cons_append, List.nil_append, Nat.reduceAdd, Nat.reduceSub, endD])
  refine ⟨fun i ρ => ρ = [some (.tup (l.map D.str)), none, none], rfl, ?_, ?_⟩
  · rintro i d ρ hd rfl
    obtain ⟨x, hx, rfl⟩ := en_at hd
    obtain ⟨hi, ex⟩ := List.getElem?_eq_some_iff.mp hx
    have hn : NameOk x := hf.nm x (List.mem_of_getElem? hx)
    have hnt : ¬ x ∈ l.take i := fun z => by
      have := (List.take_append_drop i l) ▸ hf.nd
      refine (List.nodup_append.mp this).2.2 x z x ?_ rfl
      rw [List.drop_eq_getElem_cons hi, ex]
      exact List.mem_cons_self
    repeat' (first | trivial | dsimp only [w_check_entries_r1, wMakeP, makeP, wCallP, callP, wMethP, permL_nil, permL_cons, wProp, wIxI, wLockE, wiDk, wFld, wStar, wFmt, wFs, wJs, wDn, Bool.not_true, Bool.not_false, wChain, wAndV, wOrV, wNotV, wIsT, id, wNeg, wPar, wTpo, st2, st3, wFg, wFg0, puts, wip, rst, isOw, if_ff, if_tt, List.getElem?_cons_zero, List.getElem?_cons_succ, List.getElem?_nil, wSeq, wAsg, wOp, wC, wCB, wCons, wNil, wRet, wIfS, wB, wNext, wIf, wCall, wDrop, wTup, wLst, wM, wM0, wSl, wSlS, wP, wNoP, wiR1, wiR2, wiIt, wiEn, wTru, wAnd, wOr, wNot, wFor, rd_int, rd_str, rd_bl, rd_non, rd_tup, rd_lf, rd_lt, rd_df, rd_dt, rd_if, rd_it, rd_scr, startD, fz, List.map, List.length, List.replicate, List.append, List.set_cons_zero, List.set_cons_succ, Int.reduceToNat, List.cons_append, List.nil_append, Nat.reduceAdd, Nat.reduceSub, endD])
    rw [cut_take, ← List.map_take]
    repeat' (first | trivial | dsimp only [w_check_entries_r1, wMakeP, makeP, wCallP, callP, wMethP, permL_nil, permL_cons, wProp, wIxI, wLockE, wiDk, wFld, wStar, wFmt, wFs, wJs, wDn, Bool.not_true, Bool.not_false, wChain, wAndV, wOrV, wNotV, wIsT, id, wNeg, wPar, wTpo, st2, st3, wFg, wFg0, puts, wip, rst, isOw, if_ff, if_tt, List.getElem?_cons_zero, List.getElem?_cons_succ, List.getElem?_nil, wSeq, wAsg, wOp, wC, wCB, wCons, wNil, wRet, wIfS, wB, wNext, wIf, wCall, wDrop, wTup, wLst, wM, wM0, wSl, wSlS, wP, wNoP, wiR1, wiR2, wiIt, wiEn, wTru, wAnd, wOr, wNot, wFor, rd_int, rd_str, rd_bl, rd_non, rd_tup, rd_lf, rd_lt, rd_df, rd_dt, rd_if, rd_it, rd_scr, startD, fz, List.map, List.length, List.replicate, List.append, List.set_cons_zero, List.set_cons_succ, Int.reduceToNat, List.cons_append, List.nil_append, Nat.reduceAdd, Nat.reduceSub, endD])
  · rintro ρ rfl
    repeat' (first | trivial | dsimp only [w_check_entries_r1, wMakeP, makeP, wCallP, callP, wMethP, permL_nil, permL_cons, wProp, wIxI, wLockE, wiDk, wFld, wStar, wFmt, wFs, wJs, wDn, Bool.not_true, Bool.not_false, wChain, wAndV, wOrV, wNotV, wIsT, id, wNeg, wPar, wTpo, st2, st3, wFg, wFg0, puts, wip, rst, isOw, if_ff, if_tt, List.getElem?_cons_zero, List.getElem?_cons_succ, List.getElem?_nil, wSeq, wAsg, wOp, wC, wCB, wCons, wNil, wRet, wIfS, wB, wNext, wIf, wCall, wDrop, wTup, wLst, wM, wM0, wSl, wSlS, wP, wNoP, wiR1, wiR2, wiIt, wiEn, wTru, wAnd, wOr, wNot, wFor, rd_int, rd_str, rd_bl, rd_non, rd_tup, rd_lf, rd_lt, rd_df, rd_dt, rd_if, rd_it, rd_scr, startD, fz, List.map, List.length, List.replicate, List.append, List.set_cons_zero, List.set_cons_succ, Int.reduceToNat, List.cons_append, List.nil_append, Nat.reduceAdd, Nat.reduceSub, endD])
    exact ⟨[], rfl, h⟩
def w_is_match_r1 (sp_is_name : Spd) (Ex : DXs) : WS :=
  (wSeq (wAsg (wVar 0) (gUnp 3 (wgCons (gFz 4) (wgCons (gFz 5) (wgCons (gFz 6) wgNil)))))
  (wRet (wAndV (wCall [] [] 1 sp_is_name [] exF (wCons (wVar 4) wNil)) (wAndV (wOp oNotInB (wVar 4) (wVar 1)) (wAndV (wOp oInB (wVar 5) (wVar 2)) (wAndV (wOp oInB (wVar 6) (wVar 2)) (wOp oNe (wVar 5) (wVar 6))))))))
def w_is_match (sp_is_name : Spd) (Ex : DXs) : WS :=
  (wSeq (wIfS (wOr (wNot (wTru (wIsT "tuple" (wVar 0)))) (wOr (wB (wOp oNe (wCB nLen (wCons (wVar 0) wNil)) (wC (.int 3)))) (wNot (wTru (wCB nAll (wCons (wLc (wiIt (wVar 0)) (gFz 3) wYes (wIsT "str" (wVar 3)) [3]) wNil)))))) (wRet (wC (.bl false))) wNext)
  (w_is_match_r1 sp_is_name Ex))
def sp_is_match : Spd := fun ds Q _ => ∃ (g : Game) (ns th : List Str), ds = [eG g, eL ns, eL th] ∧ NameOk g.1 ∧ g.1 ∉ ns ∧ g.2.1 ∈ th ∧ g.2.2 ∈ th ∧ g.2.1 ≠ g.2.2 ∧ Q (.bl true) []
theorem hw_is_match (ds : List D) (Qd : D → List D → Prop) (Ed : DX) (h : sp_is_match ds Qd Ed) : w_is_match sp_is_name (fun c fs xs _ => Ed c fs xs) (endD [] Qd) (startD ["value", "names", "there", "part", "name", "one", "other"] ds) := by
  obtain ⟨⟨a, b, c⟩, ns, th, rfl, h1, h2, h3, h4, h5, h⟩ := h
  simp only at h1 h2 h3 h4 h5
  unfold w_is_match eG
  repeat' (first | trivial | dsimp only [w_is_match_r1, wMakeP, makeP, wCallP, callP, wMethP, permL_nil, permL_cons, wProp, wIxI, wLockE, wiDk, wFld, wStar, wFmt, wFs, wJs, wDn, Bool.not_true, Bool.not_false, wChain, wAndV, wOrV, wNotV, wIsT, id, wNeg, wPar, wTpo, st2, st3, wFg, wFg0, puts, wip, rst, isOw, if_ff, if_tt, List.getElem?_cons_zero, List.getElem?_cons_succ, List.getElem?_nil, wSeq, wAsg, wOp, wC, wCB, wCons, wNil, wRet, wIfS, wB, wNext, wIf, wCall, wDrop, wTup, wLst, wM, wM0, wSl, wSlS, wP, wNoP, wiR1, wiR2, wiIt, wiEn, wTru, wAnd, wOr, wNot, wFor, rd_int, rd_str, rd_bl, rd_non, rd_tup, rd_lf, rd_lt, rd_df, rd_dt, rd_if, rd_it, rd_scr, startD, fz, List.map, List.length, List.replicate, List.append, List.set_cons_zero, List.set_cons_succ, Int.reduceToNat, List.cons_append, List.nil_append, Nat.reduceAdd, Nat.reduceSub, endD])
  refine i_lcM [a, b, c] D.str (fun _ => .bl true) rfl (by simp) (fun d hd P h => ?_) ?_
  · repeat' (first | trivial | dsimp only [w_is_match_r1, wMakeP, makeP, wCallP, callP, wMethP, permL_nil, permL_cons, wProp, wIxI, wLockE, wiDk, wFld, wStar, wFmt, wFs, wJs, wDn, Bool.not_true, Bool.not_false, wChain, wAndV, wOrV, wNotV, wIsT, id, wNeg, wPar, wTpo, st2, st3, wFg, wFg0, puts, wip, rst, isOw, if_ff, if_tt, List.getElem?_cons_zero, List.getElem?_cons_succ, List.getElem?_nil, wSeq, wAsg, wOp, wC, wCB, wCons, wNil, wRet, wIfS, wB, wNext, wIf, wCall, wDrop, wTup, wLst, wM, wM0, wSl, wSlS, wP, wNoP, wiR1, wiR2, wiIt, wiEn, wTru, wAnd, wOr, wNot, wFor, rd_int, rd_str, rd_bl, rd_non, rd_tup, rd_lf, rd_lt, rd_df, rd_dt, rd_if, rd_it, rd_scr, startD, fz, List.map, List.length, List.replicate, List.append, List.set_cons_zero, List.set_cons_succ, Int.reduceToNat, List.cons_append, List.nil_append, Nat.reduceAdd, Nat.reduceSub, endD])
  repeat' (first | trivial | dsimp only [w_is_match_r1, wMakeP, makeP, wCallP, callP, wMethP, permL_nil, permL_cons, wProp, wIxI, wLockE, wiDk, wFld, wStar, wFmt, wFs, wJs, wDn, Bool.not_true, Bool.not_false, wChain, wAndV, wOrV, wNotV, wIsT, id, wNeg, wPar, wTpo, st2, st3, wFg, wFg0, puts, wip, rst, isOw, if_ff, if_tt, List.getElem?_cons_zero, List.getElem?_cons_succ, List.getElem?_nil, wSeq, wAsg, wOp, wC, wCB, wCons, wNil, wRet, wIfS, wB, wNext, wIf, wCall, wDrop, wTup, wLst, wM, wM0, wSl, wSlS, wP, wNoP, wiR1, wiR2, wiIt, wiEn, wTru, wAnd, wOr, wNot, wFor, rd_int, rd_str, rd_bl, rd_non, rd_tup, rd_lf, rd_lt, rd_df, rd_dt, rd_if, rd_it, rd_scr, startD, fz, List.map, List.length, List.replicate, List.append, List.set_cons_zero, List.set_cons_succ, Int.reduceToNat, List.cons_append, List.nil_append, Nat.reduceAdd, Nat.reduceSub, endD])
  refine ite_nct rfl ?_
  repeat' (first | trivial | dsimp only [w_is_match_r1, wMakeP, makeP, wCallP, callP, wMethP, permL_nil, permL_cons, wProp, wIxI, wLockE, wiDk, wFld, wStar, wFmt, wFs, wJs, wDn, Bool.not_true, Bool.not_false, wChain, wAndV, wOrV, wNotV, wIsT, id, wNeg, wPar, wTpo, st2, st3, wFg, wFg0, puts, wip, rst, isOw, if_ff, if_tt, List.getElem?_cons_zero, List.getElem?_cons_succ, List.getElem?_nil, wSeq, wAsg, wOp, wC, wCB, wCons, wNil, wRet, wIfS, wB, wNext, wIf, wCall, wDrop, wTup, wLst, wM, wM0, wSl, wSlS, wP, wNoP, wiR1, wiR2, wiIt, wiEn, wTru, wAnd, wOr, wNot, wFor, rd_int, rd_str, rd_bl, rd_non, rd_tup, rd_lf, rd_lt, rd_df, rd_dt, rd_if, rd_it, rd_scr, startD, fz, List.map, List.length, List.replicate, List.append, List.set_cons_zero, List.set_cons_succ, Int.reduceToNat, List.cons_append, List.nil_append, Nat.reduceAdd, Nat.reduceSub, endD])
  rw [decide_eq_false h5]
  exact h
theorem i_ismatch {g : Game} {ns th : List Str} {x y z : D} (ex : x = eG g) (ey : y = eL ns) (ez : z = eL th) (h : NameOk g.1 ∧ g.1 ∉ ns ∧ g.2.1 ∈ th ∧ g.2.2 ∈ th ∧ g.2.1 ≠ g.2.2) {Q : D → List D → Prop} {E : DX} (q : Q (.bl true) []) : sp_is_match [x, y, z] Q E := by
  subst ex ey ez
  exact ⟨g, ns, th, rfl, h.1, h.2.1, h.2.2.1, h.2.2.2.1, h.2.2.2.2, q⟩
end L
namespace L
open PySem PySem.Spec PyProof.Rows L2 M
local macro_rules
  | `(tactic| trivial) => `(tactic| with_reducible first
    | refine i_var rfl ?_
    | refine i_addI ?_ | refine i_sub ?_ | refine i_mod (by omega) ?_ | refine i_fdiv (by omega) ?_
    | refine i_mulL (by omega) ?_ | refine i_mulR (by omega) ?_
    | refine ite_t ?_ | refine ite_nT ?_ | refine ite_nF ?_ | refine ite_nn ?_ | refine ite_f ?_ | refine ite_dt (by first | assumption | omega | (simp only [List.length_map, List.length_append, List.length_cons, List.length_nil, List.length_take, List.length_drop] at *; omega)) ?_ | refine ite_df (by first | assumption | omega | (simp only [List.length_map, List.length_append, List.length_cons, List.length_nil, List.length_take, List.length_drop] at *; omega)) ?_ | refine ite_ct (by assumption) ?_ | refine ite_cf (by assumption) ?_ | refine ite_nct (by assumption) ?_ | refine ite_ncf (by assumption) ?_ | refine iteD (fun hc => ?_) (fun hc => ?_) | refine ite_nf (by first | exact rfl | assumption | omega | (simp only [List.length_map, List.length_append, List.length_cons, List.length_nil, List.length_take, List.length_drop] at *; omega)) ?_ | refine ite_nt (by first | assumption | omega | (simp only [List.length_map, List.length_append, List.length_cons, List.length_nil, List.length_take, List.length_drop] at *; omega)) ?_ | refine iteN (fun hc => ?_) (fun hc => ?_) | refine i_b ?_
    | refine i_lt ?_ | refine i_le ?_ | refine i_gt ?_ | refine i_ge ?_ | refine i_eqI ?_ | refine i_neI ?_ | refine i_eqS ?_ | refine i_neS ?_
    | refine i_ixL rfl rfl rfl ?_
    | refine i_int ?_ | refine i_abs ?_ | refine i_max ?_ | refine i_min ?_ | refine i_dm (by omega) ?_
    | refine i_lenL rfl rfl ?_ | refine i_lenSc ?_ | refine i_list rfl rfl ?_ | refine i_tuple rfl rfl ?_
    | refine i_setl rfl rfl rfl rfl ?_
    | refine i_truB ?_ | refine i_pln rfl ?_ | refine i_isSS ?_ | refine i_isTT ?_ | refine i_isII ?_ | refine i_isIB ?_ | refine i_isSI ?_ | refine i_lockE rfl ?_ | refine i_dk rfl ?_ | refine i_gattr rfl rfl rfl rfl rfl (by decide +kernel) ?_ | refine i_star rfl rfl ?_ | refine i_isin rfl ?_ | refine i_nn ?_ | refine i_made ?_ | refine i_spc ?_ | refine i_qlen (by omega) ?_ | refine i_qstr ?_ | refine i_qbl ?_ | refine i_js (by simp only [empty_app, app_len, len_gt]; omega) ?_ | refine i_fmt (by omega) ?_ | refine i_inC ?_ | refine i_inKS rfl ?_ | refine i_notInKS rfl ?_ | refine i_lenD rfl ?_ | refine i_notIn2 ?_ | refine i_in2 ?_ | refine i_allM rfl ?_ | refine i_anyM rfl ?_ | refine i_index rfl (by assumption) ?_ | refine i_tyL rfl ?_ | refine i_tyS ?_ | refine i_popM rfl (by first | omega | (simp only [List.length_map, List.length_append, List.length_cons, List.length_nil, List.length_take, List.length_drop] at *; omega)) (fun m hm hme hle => ?_) | refine i_popB rfl (by first | omega | (simp only [List.length_map, List.length_append, List.length_cons, List.length_nil, List.length_take, List.length_drop] at *; omega)) (fun m hm hme => ?_) | refine i_par rfl rfl ?_ | refine i_tpo rfl rfl ?_ | refine i_fzE rfl ?_ | refine i_fzE (fzR_P (by assumption)) ?_ | refine i_fz rfl ?_ | refine i_fz (fzR_P (by assumption)) ?_ | refine i_app rfl rfl (by first | omega | (simp only [List.length_map, List.length_append, List.length_cons, List.length_nil, List.length_take, List.length_drop] at *; omega)) ?_ | refine i_ow rfl ?_ | refine i_unp rfl ?_ | refine i_unpO rfl ?_ | refine i_gcons ?_ | refine i_gnil ?_
    | refine i_strB (by omega) ?_ | refine i_notInS rfl rfl ?_ | refine i_inS rfl rfl ?_ | refine i_notInI rfl rfl ?_ | refine i_inI rfl rfl ?_
    | refine i_addS (by first | decide | (simp only [len_plus, len_minus, len_gt, len_places, app_len]; omega)) ?_ | refine i_addL rfl rfl (by decide) ?_ | refine i_addL rfl rfl (by first | omega | (simp only [List.length_map, List.length_append, List.length_cons, List.length_nil, List.length_take, List.length_drop] at *; omega)) ?_
    | refine i_pow (by omega) ?_ | refine i_disp rfl rfl ?_ | refine i_slL rfl ?_ | refine i_slT ?_ | refine i_scr ?_ | refine i_opt ?_ | refine i_itL rfl rfl ?_ | refine i_itS ?_ | refine i_en rfl rfl ?_ | refine i_r1 (by first | omega | (simp only [List.length_map, List.length_append, List.length_cons, List.length_nil, List.length_take, List.length_drop] at *; omega)) ?_ | refine i_r2 (by first | omega | (simp only [List.length_map, List.length_append, List.length_cons, List.length_nil, List.length_take, List.length_drop] at *; omega)) ?_ | refine i_lc0 ?_ | refine i_dc0 ?_ | refine i_kfz rfl rfl ?_ | refine i_ixSc rfl ?_
    | refine i_ret rfl rfl ?_ | refine i_fzs rfl ?_)

local macro_rules
  | `(tactic| trivial) => `(tactic| with_reducible first | refine i_call rfl rfl rfl ?_ | refine i_callB (by decide) rfl rfl rfl rfl ?_)
def w_check_matches_r3 (sp_is_match : Spd) (Ex : DXs) : WS :=
  (wRet (wTup (wCons (wCB nTuple (wCons (wVar 4) wNil)) (wCons (wVar 2) wNil))))
def w_check_matches_r1 (sp_is_match : Spd) (Ex : DXs) : WS :=
  (wSeq (wPar [false, true, true] (st3 2 3 4) 3 (wCons (wCB nList (wCons (wVar 0) wNil)) (wCons (wCB nList (wCons (wVar 0) wNil)) (wCons (wLst wNil) wNil))))
  (wSeq (wFg [5, 6, 7, 8, 9] (wFg0 [5, 6, 7, 8, 9] (wFor (wiEn (wVar 1)) (gUnp 2 (wgCons (gFz 5) (wgCons (gFz 6) wgNil)))
  (wFg [5, 6, 7, 8, 9] (wSeq (wIfS (wOr (wB (wOp oEq (wVar 5) (wC (.int 24)))) (wNot (wTru (wCall [] [1] 3 sp_is_match [] exF (wCons (wVar 6) (wCons (wVar 3) (wCons (wVar 2) wNil))))))) wNever wNext)
  (wSeq (wAsg (wVar 6) (gUnp 3 (wgCons (gFz 7) (wgCons (gFz 8) (wgCons (gFz 9) wgNil)))))
  (wSeq (wDrop (wM "list" nApp (wVar 3) (wCons (wVar 7) wNil)))
  (wSeq (wDrop (wM "list" nApp (wVar 4) (wCons (wTup (wCons (wM "list" nIndex (wVar 2) (wCons (wVar 8) wNil)) (wCons (wM "list" nIndex (wVar 2) (wCons (wVar 9) wNil)) wNil))) wNil)))
  (wAsg (wOp oAdd (wLc (wiIt (wVar 2)) (gFz 10) (wB (wOp oNotInB (wVar 10) (wTup (wCons (wVar 8) (wCons (wVar 9) wNil))))) (wVar 10) [10]) (wLst (wCons (wOp oAdd (wVar 7) (wC (.str "+"))) (wCons (wOp oAdd (wVar 7) (wC (.str "-"))) wNil)))) (gFz 2))))))))))
  (w_check_matches_r3 sp_is_match Ex)))
def w_check_matches (sp_is_match : Spd) (Ex : DXs) : WS :=
  (wSeq (wIfS (wOr (wNot (wTru (wIsT "tuple" (wVar 1)))) (wB (wOp oEq (wCB nLen (wCons (wVar 1) wNil)) (wC (.int 0))))) wNever wNext)
  (w_check_matches_r1 sp_is_match Ex))
def sp_check_matches : Spd := fun ds Q _ => ∃ (folk : List Str) (gs : List Game), ds = [eP folk, .tup (gs.map eG)] ∧ Folk folk ∧ GamesOk folk folk gs ∧ 1 ≤ gs.length ∧ gs.length ≤ 24 ∧ Q (.tup [.tup ((sitesOf folk gs).map eI), .lst false ((endsOf folk gs).map D.str)]) []
theorem hw_check_matches (ds : List D) (Qd : D → List D → Prop) (Ed : DX) (h : sp_check_matches ds Qd Ed) : w_check_matches sp_is_match (fun c fs xs _ => Ed c fs xs) (endD [] Qd) (startD ["entries", "value", "there", "names", "sites", "index", "match", "name", "one", "other", "source"] ds) := by
  obtain ⟨folk, gs, rfl, hf, hg, hg1, hg2, h⟩ := h
  have hs0 := Srcs.start hf.nm hf.nd
  have hle := hf.le
  unfold w_check_matches eP
  repeat' (first | trivial | dsimp only [w_check_matches_r3, w_check_matches_r1, wMakeP, makeP, wCallP, callP, wMethP, permL_nil, permL_cons, wProp, wIxI, wLockE, wiDk, wFld, wStar, wFmt, wFs, wJs, wDn, Bool.not_true, Bool.not_false, wChain, wAndV, wOrV, wNotV, wIsT, id, wNeg, wPar, wTpo, st2, st3, wFg, wFg0, puts, wip, rst, isOw, if_ff, if_tt, List.getElem?_cons_zero, List.getElem?_cons_succ, List.getElem?_nil, wSeq, wAsg, wOp, wC, wCB, wCons, wNil, wRet, wIfS, wB, wNext, wIf, wCall, wDrop, wTup, wLst, wM, wM0, wSl, wSlS, wP, wNoP, wiR1, wiR2, wiIt, wiEn, wTru, wAnd, wOr, wNot, wFor, rd_int, rd_str, rd_bl, rd_non, rd_tup, rd_lf, rd_lt, rd_df, rd_dt, rd_if, rd_it, rd_scr, startD, fz, List.map, List.length, List.replicate, List.append, List.set_cons_zero, List.set_cons_succ, Int.reduceToNat, List.cons_append, List.nil_append, Nat.reduceAdd, Nat.reduceSub, endD])
  refine ⟨fun i ρ => ρ = [some (.tup (folk.map D.str) : D), some (.tup (gs.map eG) : D), some (.lst false ((endsOf folk (gs.take i)).map D.str) : D), some (.lst true ((folk ++ (gs.take i).map (·.1)).map D.str) : D), some (.lst true ((sitesOf folk (gs.take i)).map eI) : D), none, none, none, none, none, none], by simp [endsOf, sitesOf], ?_, ?_⟩
  · rintro i d ρ hd rfl
    obtain ⟨g, hgi, rfl⟩ := en_at hd
    obtain ⟨hi, _⟩ := List.getElem?_eq_some_iff.mp hgi
    have ha := hg.at_ hgi
    have tk := take_snoc hgi
    obtain ⟨h1, h2, h3, h4, h5⟩ := ha
    have h6 := h1.len
    have h7 : (endsOf folk (gs.take i)).length ≤ 8 := by
      rw [ends_len hs0 (hg.take i)]; exact hle
    have h8 : (sitesOf folk (gs.take i)).length ≤ 24 := by rw [sitesOf_len, List.length_take]; omega
    repeat' (first | trivial | dsimp only [w_check_matches_r3, w_check_matches_r1, wMakeP, makeP, wCallP, callP, wMethP, permL_nil, permL_cons, wProp, wIxI, wLockE, wiDk, wFld, wStar, wFmt, wFs, wJs, wDn, Bool.not_true, Bool.not_false, wChain, wAndV, wOrV, wNotV, wIsT, id, wNeg, wPar, wTpo, st2, st3, wFg, wFg0, puts, wip, rst, isOw, if_ff, if_tt, List.getElem?_cons_zero, List.getElem?_cons_succ, List.getElem?_nil, wSeq, wAsg, wOp, wC, wCB, wCons, wNil, wRet, wIfS, wB, wNext, wIf, wCall, wDrop, wTup, wLst, wM, wM0, wSl, wSlS, wP, wNoP, wiR1, wiR2, wiIt, wiEn, wTru, wAnd, wOr, wNot, wFor, rd_int, rd_str, rd_bl, rd_non, rd_tup, rd_lf, rd_lt, rd_df, rd_dt, rd_if, rd_it, rd_scr, startD, fz, List.map, List.length, List.replicate, List.append, List.set_cons_zero, List.set_cons_succ, Int.reduceToNat, List.cons_append, List.nil_append, Nat.reduceAdd, Nat.reduceSub, endD])
    refine i_ismatch (g := g) (ns := folk ++ (gs.take i).map (·.1)) (th := endsOf folk (gs.take i)) rfl rfl rfl ⟨h1, h2, h3, h4, h5⟩ (i_nfz rfl rfl ?_)
    unfold eG
    repeat' (first | trivial | dsimp only [w_check_matches_r3, w_check_matches_r1, wMakeP, makeP, wCallP, callP, wMethP, permL_nil, permL_cons, wProp, wIxI, wLockE, wiDk, wFld, wStar, wFmt, wFs, wJs, wDn, Bool.not_true, Bool.not_false, wChain, wAndV, wOrV, wNotV, wIsT, id, wNeg, wPar, wTpo, st2, st3, wFg, wFg0, puts, wip, rst, isOw, if_ff, if_tt, List.getElem?_cons_zero, List.getElem?_cons_succ, List.getElem?_nil, wSeq, wAsg, wOp, wC, wCB, wCons, wNil, wRet, wIfS, wB, wNext, wIf, wCall, wDrop, wTup, wLst, wM, wM0, wSl, wSlS, wP, wNoP, wiR1, wiR2, wiIt, wiEn, wTru, wAnd, wOr, wNot, wFor, rd_int, rd_str, rd_bl, rd_non, rd_tup, rd_lf, rd_lt, rd_df, rd_dt, rd_if, rd_it, rd_scr, startD, fz, List.map, List.length, List.replicate, List.append, List.set_cons_zero, List.set_cons_succ, Int.reduceToNat, List.cons_append, List.nil_append, Nat.reduceAdd, Nat.reduceSub, endD])
    refine i_lcF (endsOf folk (gs.take i)) D.str (fun s => decide (¬ (s = g.2.1 ∨ s = g.2.2))) D.str rfl (by omega) (fun s hs P N hP hN => ?_) ?_
    · repeat' (first | trivial | dsimp only [w_check_matches_r3, w_check_matches_r1, wMakeP, makeP, wCallP, callP, wMethP, permL_nil, permL_cons, wProp, wIxI, wLockE, wiDk, wFld, wStar, wFmt, wFs, wJs, wDn, Bool.not_true, Bool.not_false, wChain, wAndV, wOrV, wNotV, wIsT, id, wNeg, wPar, wTpo, st2, st3, wFg, wFg0, puts, wip, rst, isOw, if_ff, if_tt, List.getElem?_cons_zero, List.getElem?_cons_succ, List.getElem?_nil, wSeq, wAsg, wOp, wC, wCB, wCons, wNil, wRet, wIfS, wB, wNext, wIf, wCall, wDrop, wTup, wLst, wM, wM0, wSl, wSlS, wP, wNoP, wiR1, wiR2, wiIt, wiEn, wTru, wAnd, wOr, wNot, wFor, rd_int, rd_str, rd_bl, rd_non, rd_tup, rd_lf, rd_lt, rd_df, rd_dt, rd_if, rd_it, rd_scr, startD, fz, List.map, List.length, List.replicate, List.append, List.set_cons_zero, List.set_cons_succ, Int.reduceToNat, List.cons_append, List.nil_append, Nat.reduceAdd, Nat.reduceSub, endD])
      · rename_i hc; exact hP (decide_eq_true (by simpa using hc))
      · rename_i hc; exact hN (decide_eq_false fun z => z (by simpa using hc))
    have h9 := List.length_filter_le (fun s => decide (¬ (s = g.2.1 ∨ s = g.2.2))) (endsOf folk (gs.take i))
    repeat' (first | trivial | dsimp only [w_check_matches_r3, w_check_matches_r1, wMakeP, makeP, wCallP, callP, wMethP, permL_nil, permL_cons, wProp, wIxI, wLockE, wiDk, wFld, wStar, wFmt, wFs, wJs, wDn, Bool.not_true, Bool.not_false, wChain, wAndV, wOrV, wNotV, wIsT, id, wNeg, wPar, wTpo, st2, st3, wFg, wFg0, puts, wip, rst, isOw, if_ff, if_tt, List.getElem?_cons_zero, List.getElem?_cons_succ, List.getElem?_nil, wSeq, wAsg, wOp, wC, wCB, wCons, wNil, wRet, wIfS, wB, wNext, wIf, wCall, wDrop, wTup, wLst, wM, wM0, wSl, wSlS, wP, wNoP, wiR1, wiR2, wiIt, wiEn, wTru, wAnd, wOr, wNot, wFor, rd_int, rd_str, rd_bl, rd_non, rd_tup, rd_lf, rd_lt, rd_df, rd_dt, rd_if, rd_it, rd_scr, startD, fz, List.map, List.length, List.replicate, List.append, List.set_cons_zero, List.set_cons_succ, Int.reduceToNat, List.cons_append, List.nil_append, Nat.reduceAdd, Nat.reduceSub, endD])
    rw [tk, endsOf_snoc, sitesOf_snoc]
    unfold stepG
    simp only [List.map_append, List.append_assoc, List.map_cons, List.map_nil]
    all_goals rfl
  · rintro ρ rfl
    rw [en_len, List.length_map, List.take_length]
    repeat' (first | trivial | dsimp only [w_check_matches_r3, w_check_matches_r1, wMakeP, makeP, wCallP, callP, wMethP, permL_nil, permL_cons, wProp, wIxI, wLockE, wiDk, wFld, wStar, wFmt, wFs, wJs, wDn, Bool.not_true, Bool.not_false, wChain, wAndV, wOrV, wNotV, wIsT, id, wNeg, wPar, wTpo, st2, st3, wFg, wFg0, puts, wip, rst, isOw, if_ff, if_tt, List.getElem?_cons_zero, List.getElem?_cons_succ, List.getElem?_nil, wSeq, wAsg, wOp, wC, wCB, wCons, wNil, wRet, wIfS, wB, wNext, wIf, wCall, wDrop, wTup, wLst, wM, wM0, wSl, wSlS, wP, wNoP, wiR1, wiR2, wiIt, wiEn, wTru, wAnd, wOr, wNot, wFor, rd_int, rd_str, rd_bl, rd_non, rd_tup, rd_lf, rd_lt, rd_df, rd_dt, rd_if, rd_it, rd_scr, startD, fz, List.map, List.length, List.replicate, List.append, List.set_cons_zero, List.set_cons_succ, Int.reduceToNat, List.cons_append, List.nil_append, Nat.reduceAdd, Nat.reduceSub, endD])
def w_check_places_r4 (Ex : DXs) : WS :=
  (wRet (wCB nTuple (wCons (wLc (wiIt (wVar 0)) (gFz 5) wYes (wOp oIxA (wVar 2) (wVar 5)) [5]) wNil)))
def w_check_places_r3 (Ex : DXs) : WS :=
  (wSeq (wIfS (wB (wOp oNe (wCB nLen (wCons (wVar 2) wNil)) (wCB nLen (wCons (wVar 0) wNil)))) wNever wNext)
  (w_check_places_r4 Ex))
def w_check_places_r1 (Ex : DXs) : WS :=
  (wSeq (wAsg wDn (gOw 2))
  (wSeq (wFg [3, 4, 5] (wFg0 [3, 4, 5] (wFor (wiEn (wVar 1)) (gUnp 2 (wgCons (gFz 3) (wgCons (gFz 4) wgNil)))
  (wFg [3, 4, 5] (wSeq (wIfS (wOr (wNot (wTru (wIsT "tuple" (wVar 4)))) (wB (wOp oEq (wCB nLen (wCons (wVar 4) wNil)) (wC (.int 0))))) wNever wNext)
  (wFg [5] (wFg0 [5] (wFor (wiIt (wVar 4)) (gFz 5)
  (wFg [5] (wSeq (wIfS (wOr (wNot (wTru (wIsT "str" (wVar 5)))) (wOr (wB (wOp oNotInB (wVar 5) (wVar 0))) (wB (wOp oInB (wVar 5) (wVar 2))))) wNever wNext)
  (wAsg (wVar 3) (gSetA (wVar 2) (wVar 5)))))))))))))
  (w_check_places_r3 Ex)))
def w_check_places (Ex : DXs) : WS :=
  (wSeq (wIfS (wOr (wNot (wTru (wIsT "tuple" (wVar 1)))) (wB (wOp oEq (wCB nLen (wCons (wVar 1) wNil)) (wC (.int 0))))) wNever wNext)
  (w_check_places_r1 Ex))
def sp_check_places : Spd := fun ds Q _ => ∃ (ends : List Str) (ps : List (List Str)), ds = [eL ends, .tup (ps.map eP)] ∧ ps ≠ [] ∧ (∀ g ∈ ps, g ≠ []) ∧ ps.flatten.Perm ends ∧ ends.Nodup ∧ ends.length ≤ 100 ∧ Q (.tup (ends.map fun e => .int (placeIx ps e : Nat))) []
theorem hw_check_places (ds : List D) (Qd : D → List D → Prop) (Ed : DX) (h : sp_check_places ds Qd Ed) : w_check_places (fun c fs xs _ => Ed c fs xs) (endD [] Qd) (startD ["ends", "value", "found", "index", "group", "end"] ds) := by
  obtain ⟨ends, ps, rfl, hp0, hp1, hp2, hnd, hl, h⟩ := h
  have hpl : 1 ≤ ps.length := List.length_pos_iff.mpr hp0
  have hpl2 := groups_len hp1
  have hfl := hp2.length_eq
  have hfn : ps.flatten.Nodup := hp2.nodup_iff.mpr hnd
  unfold w_check_places
  repeat' (first | trivial | dsimp only [w_check_places_r4, w_check_places_r3, w_check_places_r1, wMakeP, makeP, wCallP, callP, wMethP, permL_nil, permL_cons, wProp, wIxI, wLockE, wiDk, wFld, wStar, wFmt, wFs, wJs, wDn, Bool.not_true, Bool.not_false, wChain, wAndV, wOrV, wNotV, wIsT, id, wNeg, wPar, wTpo, st2, st3, wFg, wFg0, puts, wip, rst, isOw, if_ff, if_tt, List.getElem?_cons_zero, List.getElem?_cons_succ, List.getElem?_nil, wSeq, wAsg, wOp, wC, wCB, wCons, wNil, wRet, wIfS, wB, wNext, wIf, wCall, wDrop, wTup, wLst, wM, wM0, wSl, wSlS, wP, wNoP, wiR1, wiR2, wiIt, wiEn, wTru, wAnd, wOr, wNot, wFor, rd_int, rd_str, rd_bl, rd_non, rd_tup, rd_lf, rd_lt, rd_df, rd_dt, rd_if, rd_it, rd_scr, startD, fz, List.map, List.length, List.replicate, List.append, List.set_cons_zero, List.set_cons_succ, Int.reduceToNat, List.cons_append, List.nil_append, Nat.reduceAdd, Nat.reduceSub, endD])
  refine ⟨fun i ρ => ρ = [some (eL ends : D), some (.tup (ps.map eP) : D), some (.dct true (kS (ps.take i).flatten) ((ps.take i).flatten.map fun e => .int (placeIx ps e : Nat)) : D), none, none, none], rfl, ?_, ?_⟩
  · rintro i d ρ hd rfl
    obtain ⟨g, hgi, rfl⟩ := en_at hd
    obtain ⟨hi, _⟩ := List.getElem?_eq_some_iff.mp hgi
    have hg := hp1 g (List.mem_of_getElem? hgi)
    have hgl : 1 ≤ g.length := List.length_pos_iff.mpr hg
    have tk := take_snoc hgi
    have hsub := take_nd (i + 1) hfn
    rw [tk, List.flatten_append, List.flatten_cons, List.flatten_nil, List.append_nil] at hsub
    unfold eP
    repeat' (first | trivial | dsimp only [w_check_places_r4, w_check_places_r3, w_check_places_r1, wMakeP, makeP, wCallP, callP, wMethP, permL_nil, permL_cons, wProp, wIxI, wLockE, wiDk, wFld, wStar, wFmt, wFs, wJs, wDn, Bool.not_true, Bool.not_false, wChain, wAndV, wOrV, wNotV, wIsT, id, wNeg, wPar, wTpo, st2, st3, wFg, wFg0, puts, wip, rst, isOw, if_ff, if_tt, List.getElem?_cons_zero, List.getElem?_cons_succ, List.getElem?_nil, wSeq, wAsg, wOp, wC, wCB, wCons, wNil, wRet, wIfS, wB, wNext, wIf, wCall, wDrop, wTup, wLst, wM, wM0, wSl, wSlS, wP, wNoP, wiR1, wiR2, wiIt, wiEn, wTru, wAnd, wOr, wNot, wFor, rd_int, rd_str, rd_bl, rd_non, rd_tup, rd_lf, rd_lt, rd_df, rd_dt, rd_if, rd_it, rd_scr, startD, fz, List.map, List.length, List.replicate, List.append, List.set_cons_zero, List.set_cons_succ, Int.reduceToNat, List.cons_append, List.nil_append, Nat.reduceAdd, Nat.reduceSub, endD])
    refine ⟨fun j ρ => ρ = [some (eL ends : D), some (.tup (ps.map eP) : D), some (.dct true (kS ((ps.take i).flatten ++ g.take j)) (((ps.take i).flatten ++ g.take j).map fun e => .int (placeIx ps e : Nat)) : D), some (.int i : D), some (.tup (g.map D.str) : D), none], by show _ = _; rw [List.take_zero, List.append_nil], ?_, ?_⟩
    · rintro j d ρ hd rfl
      rw [List.getElem?_map] at hd
      obtain ⟨x, hx, rfl⟩ := Option.map_eq_some_iff.mp hd
      have hxg := List.mem_of_getElem? hx
      have tg := take_snoc hx
      have hxe : x ∈ ends := hp2.subset (List.mem_flatten.mpr ⟨g, List.mem_of_getElem? hgi, hxg⟩)
      have hxn := fresh_at hsub hx
      have hxi := placeIx_at hgi hxg fun z => hxn (List.mem_append_left _ z)
      have hgl2 : g.length ≤ 100 := by
        have := (List.sublist_flatten_of_mem (List.mem_of_getElem? hgi)).length_le
        omega
      have hkl : ((ps.take i).flatten ++ g.take j).length < 16000000 := by
        have e : ps.flatten = (ps.take i).flatten ++ (ps.drop i).flatten := by rw [← List.flatten_append, List.take_append_drop]
        rw [e] at hfl
        rw [List.length_append] at hfl ⊢
        rw [List.length_take]
        omega
      repeat' (first | trivial | dsimp only [w_check_places_r4, w_check_places_r3, w_check_places_r1, wMakeP, makeP, wCallP, callP, wMethP, permL_nil, permL_cons, wProp, wIxI, wLockE, wiDk, wFld, wStar, wFmt, wFs, wJs, wDn, Bool.not_true, Bool.not_false, wChain, wAndV, wOrV, wNotV, wIsT, id, wNeg, wPar, wTpo, st2, st3, wFg, wFg0, puts, wip, rst, isOw, if_ff, if_tt, List.getElem?_cons_zero, List.getElem?_cons_succ, List.getElem?_nil, wSeq, wAsg, wOp, wC, wCB, wCons, wNil, wRet, wIfS, wB, wNext, wIf, wCall, wDrop, wTup, wLst, wM, wM0, wSl, wSlS, wP, wNoP, wiR1, wiR2, wiIt, wiEn, wTru, wAnd, wOr, wNot, wFor, rd_int, rd_str, rd_bl, rd_non, rd_tup, rd_lf, rd_lt, rd_df, rd_dt, rd_if, rd_it, rd_scr, startD, fz, List.map, List.length, List.replicate, List.append, List.set_cons_zero, List.set_cons_succ, Int.reduceToNat, List.cons_append, List.nil_append, Nat.reduceAdd, Nat.reduceSub, endD])
      refine i_setKN rfl rfl hxn (show D.int (placeIx ps x : Nat) = D.int (i : Nat) by rw [hxi]) rfl hkl ?_
      repeat' (first | trivial | dsimp only [w_check_places_r4, w_check_places_r3, w_check_places_r1, wMakeP, makeP, wCallP, callP, wMethP, permL_nil, permL_cons, wProp, wIxI, wLockE, wiDk, wFld, wStar, wFmt, wFs, wJs, wDn, Bool.not_true, Bool.not_false, wChain, wAndV, wOrV, wNotV, wIsT, id, wNeg, wPar, wTpo, st2, st3, wFg, wFg0, puts, wip, rst, isOw, if_ff, if_tt, List.getElem?_cons_zero, List.getElem?_cons_succ, List.getElem?_nil, wSeq, wAsg, wOp, wC, wCB, wCons, wNil, wRet, wIfS, wB, wNext, wIf, wCall, wDrop, wTup, wLst, wM, wM0, wSl, wSlS, wP, wNoP, wiR1, wiR2, wiIt, wiEn, wTru, wAnd, wOr, wNot, wFor, rd_int, rd_str, rd_bl, rd_non, rd_tup, rd_lf, rd_lt, rd_df, rd_dt, rd_if, rd_it, rd_scr, startD, fz, List.map, List.length, List.replicate, List.append, List.set_cons_zero, List.set_cons_succ, Int.reduceToNat, List.cons_append, List.nil_append, Nat.reduceAdd, Nat.reduceSub, endD])
      rw [tg, ← List.append_assoc]
    · rintro ρ rfl
      rw [List.length_map, List.take_length]
      repeat' (first | trivial | dsimp only [w_check_places_r4, w_check_places_r3, w_check_places_r1, wMakeP, makeP, wCallP, callP, wMethP, permL_nil, permL_cons, wProp, wIxI, wLockE, wiDk, wFld, wStar, wFmt, wFs, wJs, wDn, Bool.not_true, Bool.not_false, wChain, wAndV, wOrV, wNotV, wIsT, id, wNeg, wPar, wTpo, st2, st3, wFg, wFg0, puts, wip, rst, isOw, if_ff, if_tt, List.getElem?_cons_zero, List.getElem?_cons_succ, List.getElem?_nil, wSeq, wAsg, wOp, wC, wCB, wCons, wNil, wRet, wIfS, wB, wNext, wIf, wCall, wDrop, wTup, wLst, wM, wM0, wSl, wSlS, wP, wNoP, wiR1, wiR2, wiIt, wiEn, wTru, wAnd, wOr, wNot, wFor, rd_int, rd_str, rd_bl, rd_non, rd_tup, rd_lf, rd_lt, rd_df, rd_dt, rd_if, rd_it, rd_scr, startD, fz, List.map, List.length, List.replicate, List.append, List.set_cons_zero, List.set_cons_succ, Int.reduceToNat, List.cons_append, List.nil_append, Nat.reduceAdd, Nat.reduceSub, endD])
      rw [tk, List.flatten_append, List.flatten_cons, List.flatten_nil, List.append_nil]
  · rintro ρ rfl
    rw [en_len, List.length_map, List.take_length]
    repeat' (first | trivial | dsimp only [w_check_places_r4, w_check_places_r3, w_check_places_r1, wMakeP, makeP, wCallP, callP, wMethP, permL_nil, permL_cons, wProp, wIxI, wLockE, wiDk, wFld, wStar, wFmt, wFs, wJs, wDn, Bool.not_true, Bool.not_false, wChain, wAndV, wOrV, wNotV, wIsT, id, wNeg, wPar, wTpo, st2, st3, wFg, wFg0, puts, wip, rst, isOw, if_ff, if_tt, List.getElem?_cons_zero, List.getElem?_cons_succ, List.getElem?_nil, wSeq, wAsg, wOp, wC, wCB, wCons, wNil, wRet, wIfS, wB, wNext, wIf, wCall, wDrop, wTup, wLst, wM, wM0, wSl, wSlS, wP, wNoP, wiR1, wiR2, wiIt, wiEn, wTru, wAnd, wOr, wNot, wFor, rd_int, rd_str, rd_bl, rd_non, rd_tup, rd_lf, rd_lt, rd_df, rd_dt, rd_if, rd_it, rd_scr, startD, fz, List.map, List.length, List.replicate, List.append, List.set_cons_zero, List.set_cons_succ, Int.reduceToNat, List.cons_append, List.nil_append, Nat.reduceAdd, Nat.reduceSub, endD])
    refine i_lcM ends D.str (fun e => .int (placeIx ps e : Nat)) rfl (by omega) (fun e he P h => ?_) ?_
    · repeat' (first | trivial | dsimp only [w_check_places_r4, w_check_places_r3, w_check_places_r1, wMakeP, makeP, wCallP, callP, wMethP, permL_nil, permL_cons, wProp, wIxI, wLockE, wiDk, wFld, wStar, wFmt, wFs, wJs, wDn, Bool.not_true, Bool.not_false, wChain, wAndV, wOrV, wNotV, wIsT, id, wNeg, wPar, wTpo, st2, st3, wFg, wFg0, puts, wip, rst, isOw, if_ff, if_tt, List.getElem?_cons_zero, List.getElem?_cons_succ, List.getElem?_nil, wSeq, wAsg, wOp, wC, wCB, wCons, wNil, wRet, wIfS, wB, wNext, wIf, wCall, wDrop, wTup, wLst, wM, wM0, wSl, wSlS, wP, wNoP, wiR1, wiR2, wiIt, wiEn, wTru, wAnd, wOr, wNot, wFor, rd_int, rd_str, rd_bl, rd_non, rd_tup, rd_lf, rd_lt, rd_df, rd_dt, rd_if, rd_it, rd_scr, startD, fz, List.map, List.length, List.replicate, List.append, List.set_cons_zero, List.set_cons_succ, Int.reduceToNat, List.cons_append, List.nil_append, Nat.reduceAdd, Nat.reduceSub, endD])
      refine i_ixKS rfl (hp2.symm.subset he) ?_
      repeat' (first | trivial | dsimp only [w_check_places_r4, w_check_places_r3, w_check_places_r1, wMakeP, makeP, wCallP, callP, wMethP, permL_nil, permL_cons, wProp, wIxI, wLockE, wiDk, wFld, wStar, wFmt, wFs, wJs, wDn, Bool.not_true, Bool.not_false, wChain, wAndV, wOrV, wNotV, wIsT, id, wNeg, wPar, wTpo, st2, st3, wFg, wFg0, puts, wip, rst, isOw, if_ff, if_tt, List.getElem?_cons_zero, List.getElem?_cons_succ, List.getElem?_nil, wSeq, wAsg, wOp, wC, wCB, wCons, wNil, wRet, wIfS, wB, wNext, wIf, wCall, wDrop, wTup, wLst, wM, wM0, wSl, wSlS, wP, wNoP, wiR1, wiR2, wiIt, wiEn, wTru, wAnd, wOr, wNot, wFor, rd_int, rd_str, rd_bl, rd_non, rd_tup, rd_lf, rd_lt, rd_df, rd_dt, rd_if, rd_it, rd_scr, startD, fz, List.map, List.length, List.replicate, List.append, List.set_cons_zero, List.set_cons_succ, Int.reduceToNat, List.cons_append, List.nil_append, Nat.reduceAdd, Nat.reduceSub, endD])
    repeat' (first | trivial | dsimp only [w_check_places_r4, w_check_places_r3, w_check_places_r1, wMakeP, makeP, wCallP, callP, wMethP, permL_nil, permL_cons, wProp, wIxI, wLockE, wiDk, wFld, wStar, wFmt, wFs, wJs, wDn, Bool.not_true, Bool.not_false, wChain, wAndV, wOrV, wNotV, wIsT, id, wNeg, wPar, wTpo, st2, st3, wFg, wFg0, puts, wip, rst, isOw, if_ff, if_tt, List.getElem?_cons_zero, List.getElem?_cons_succ, List.getElem?_nil, wSeq, wAsg, wOp, wC, wCB, wCons, wNil, wRet, wIfS, wB, wNext, wIf, wCall, wDrop, wTup, wLst, wM, wM0, wSl, wSlS, wP, wNoP, wiR1, wiR2, wiIt, wiEn, wTru, wAnd, wOr, wNot, wFor, rd_int, rd_str, rd_bl, rd_non, rd_tup, rd_lf, rd_lt, rd_df, rd_dt, rd_if, rd_it, rd_scr, startD, fz, List.map, List.length, List.replicate, List.append, List.set_cons_zero, List.set_cons_succ, Int.reduceToNat, List.cons_append, List.nil_append, Nat.reduceAdd, Nat.reduceSub, endD])
end L
namespace L
open PySem PySem.Spec PyProof.Rows L2 M
local macro_rules
  | `(tactic| trivial) => `(tactic| with_reducible first
    | refine i_var rfl ?_
    | refine i_addI ?_ | refine i_sub ?_ | refine i_mod (by omega) ?_ | refine i_fdiv (by omega) ?_
    | refine i_mulL (by omega) ?_ | refine i_mulR (by omega) ?_
    | refine ite_t ?_ | refine ite_nT ?_ | refine ite_nF ?_ | refine ite_nn ?_ | refine ite_f ?_ | refine ite_dt (by first | assumption | omega | (simp only [List.length_map, List.length_append, List.length_cons, List.length_nil, List.length_take, List.length_drop] at *; omega)) ?_ | refine ite_df (by first | assumption | omega | (simp only [List.length_map, List.length_append, List.length_cons, List.length_nil, List.length_take, List.length_drop] at *; omega)) ?_ | refine ite_ct (by assumption) ?_ | refine ite_cf (by assumption) ?_ | refine ite_nct (by assumption) ?_ | refine ite_ncf (by assumption) ?_ | refine iteD (fun hc => ?_) (fun hc => ?_) | refine ite_nf (by first | exact rfl | assumption | omega | (simp only [List.length_map, List.length_append, List.length_cons, List.length_nil, List.length_take, List.length_drop] at *; omega)) ?_ | refine ite_nt (by first | assumption | omega | (simp only [List.length_map, List.length_append, List.length_cons, List.length_nil, List.length_take, List.length_drop] at *; omega)) ?_ | refine iteN (fun hc => ?_) (fun hc => ?_) | refine i_b ?_
    | refine i_lt ?_ | refine i_le ?_ | refine i_gt ?_ | refine i_ge ?_ | refine i_eqI ?_ | refine i_neI ?_ | refine i_eqS ?_ | refine i_neS ?_
    | refine i_ixL rfl rfl rfl ?_
    | refine i_int ?_ | refine i_abs ?_ | refine i_max ?_ | refine i_min ?_ | refine i_dm (by omega) ?_
    | refine i_lenL rfl rfl ?_ | refine i_lenSc ?_ | refine i_list rfl rfl ?_ | refine i_tuple rfl rfl ?_
    | refine i_setl rfl rfl rfl rfl ?_
    | refine i_truB ?_ | refine i_pln rfl ?_ | refine i_isSS ?_ | refine i_isTT ?_ | refine i_isII ?_ | refine i_isIB ?_ | refine i_isSI ?_ | refine i_lockE rfl ?_ | refine i_dk rfl ?_ | refine i_gattr rfl rfl rfl rfl rfl (by decide +kernel) ?_ | refine i_star rfl rfl ?_ | refine i_isin rfl ?_ | refine i_nn ?_ | refine i_made ?_ | refine i_spc ?_ | refine i_qlen (by omega) ?_ | refine i_qstr ?_ | refine i_qbl ?_ | refine i_js (by simp only [empty_app, app_len, len_gt]; omega) ?_ | refine i_fmt (by omega) ?_ | refine i_inC ?_ | refine i_inKS rfl ?_ | refine i_notInKS rfl ?_ | refine i_lenD rfl ?_ | refine i_notIn2 ?_ | refine i_in2 ?_ | refine i_allM rfl ?_ | refine i_anyM rfl ?_ | refine i_index rfl (by assumption) ?_ | refine i_tyL rfl ?_ | refine i_tyS ?_ | refine i_popM rfl (by first | omega | (simp only [List.length_map, List.length_append, List.length_cons, List.length_nil, List.length_take, List.length_drop] at *; omega)) (fun m hm hme hle => ?_) | refine i_popB rfl (by first | omega | (simp only [List.length_map, List.length_append, List.length_cons, List.length_nil, List.length_take, List.length_drop] at *; omega)) (fun m hm hme => ?_) | refine i_par rfl rfl ?_ | refine i_tpo rfl rfl ?_ | refine i_fzE rfl ?_ | refine i_fzE (fzR_P (by assumption)) ?_ | refine i_fz rfl ?_ | refine i_fz (fzR_P (by assumption)) ?_ | refine i_app rfl rfl (by first | omega | (simp only [List.length_map, List.length_append, List.length_cons, List.length_nil, List.length_take, List.length_drop] at *; omega)) ?_ | refine i_ow rfl ?_ | refine i_unp rfl ?_ | refine i_unpO rfl ?_ | refine i_gcons ?_ | refine i_gnil ?_
    | refine i_strB (by omega) ?_ | refine i_notInS rfl rfl ?_ | refine i_inS rfl rfl ?_ | refine i_notInI rfl rfl ?_ | refine i_inI rfl rfl ?_
    | refine i_addS (by first | decide | (simp only [len_plus, len_minus, len_gt, len_places, app_len]; omega)) ?_ | refine i_addL rfl rfl (by decide) ?_ | refine i_addL rfl rfl (by first | omega | (simp only [List.length_map, List.length_append, List.length_cons, List.length_nil, List.length_take, List.length_drop] at *; omega)) ?_
    | refine i_pow (by omega) ?_ | refine i_disp rfl rfl ?_ | refine i_slL rfl ?_ | refine i_slT ?_ | refine i_scr ?_ | refine i_opt ?_ | refine i_itL rfl rfl ?_ | refine i_itS ?_ | refine i_en rfl rfl ?_ | refine i_r1 (by first | omega | (simp only [List.length_map, List.length_append, List.length_cons, List.length_nil, List.length_take, List.length_drop] at *; omega)) ?_ | refine i_r2 (by first | omega | (simp only [List.length_map, List.length_append, List.length_cons, List.length_nil, List.length_take, List.length_drop] at *; omega)) ?_ | refine i_lc0 ?_ | refine i_dc0 ?_ | refine i_kfz rfl rfl ?_ | refine i_ixSc rfl ?_
    | refine i_ret rfl rfl ?_ | refine i_fzs rfl ?_)

local macro_rules
  | `(tactic| trivial) => `(tactic| with_reducible first | refine i_call rfl rfl rfl ?_ | refine i_callB (by decide) rfl rfl rfl rfl ?_)
def w_all_facts_r2 (Ex : DXs) : WS :=
  (wRet (wVar 2))
def w_all_facts (Ex : DXs) : WS :=
  (wSeq (wAsg (wDc (wiIt (wVar 0)) (gFz 4) wYes (wVar 4) (wLc (wiIt (wVar 0)) (gFz 3) (wB (wOp oInB (wTup (wCons (wVar 4) (wCons (wVar 3) wNil))) (wVar 1))) (wVar 3) [3]) [4]) (gOw 2))
  (wSeq (wFg [4, 5] (wFg0 [4, 5] (wFor (wiIt (wVar 0)) (gFz 5)
  (wFg [4, 5] (wFg [4] (wFg0 [4] (wFor (wiIt (wVar 0)) (gFz 4)
  (wFg [4] (wIfS (wB (wOp oInB (wVar 5) (wOp oIxA (wVar 2) (wVar 4)))) (wAsg (wLc (wiIt (wVar 0)) (gFz 3) (wOr (wB (wOp oInB (wVar 3) (wOp oIxA (wVar 2) (wVar 4)))) (wB (wOp oInB (wVar 3) (wOp oIxA (wVar 2) (wVar 5))))) (wVar 3) [3]) (gSetA (wVar 2) (wVar 4))) wNext)))))))))
  (w_all_facts_r2 Ex)))
def sp_all_facts : Spd := fun ds Q _ => ∃ (folk : List Str) (fs : List (Str × Str)), ds = [eP folk, .tup (fs.map eF)] ∧ folk.Nodup ∧ folk.length ≤ 100 ∧ Gd 2 100000 (.tup (fs.map eF)) ∧ (∀ x ∈ folk, SOk x ∧ x.length ≤ 100) ∧ Q (eW true folk (weakerOf folk fs)) []
theorem hw_all_facts (ds : List D) (Qd : D → List D → Prop) (Ed : DX) (h : sp_all_facts ds Qd Ed) : w_all_facts (fun c fs xs _ => Ed c fs xs) (endD [] Qd) (startD ["entries", "known", "weaker", "low", "entry", "middle"] ds) := by
  obtain ⟨folk, fs, rfl, hnd, hl, hgd, hfo, h⟩ := h
  unfold w_all_facts eP
  repeat' (first | trivial | dsimp only [w_all_facts_r2, wMakeP, makeP, wCallP, callP, wMethP, permL_nil, permL_cons, wProp, wIxI, wLockE, wiDk, wFld, wStar, wFmt, wFs, wJs, wDn, Bool.not_true, Bool.not_false, wChain, wAndV, wOrV, wNotV, wIsT, id, wNeg, wPar, wTpo, st2, st3, wFg, wFg0, puts, wip, rst, isOw, if_ff, if_tt, List.getElem?_cons_zero, List.getElem?_cons_succ, List.getElem?_nil, wSeq, wAsg, wOp, wC, wCB, wCons, wNil, wRet, wIfS, wB, wNext, wIf, wCall, wDrop, wTup, wLst, wM, wM0, wSl, wSlS, wP, wNoP, wiR1, wiR2, wiIt, wiEn, wTru, wAnd, wOr, wNot, wFor, rd_int, rd_str, rd_bl, rd_non, rd_tup, rd_lf, rd_lt, rd_df, rd_dt, rd_if, rd_it, rd_scr, startD, fz, List.map, List.length, List.replicate, List.append, List.set_cons_zero, List.set_cons_succ, Int.reduceToNat, List.cons_append, List.nil_append, Nat.reduceAdd, Nat.reduceSub, endD])
  refine i_dcS folk (fun e => eL (wk0 folk fs e)) rfl hnd (by omega) (fun e he P h => ?_) ?_
  · repeat' (first | trivial | dsimp only [w_all_facts_r2, wMakeP, makeP, wCallP, callP, wMethP, permL_nil, permL_cons, wProp, wIxI, wLockE, wiDk, wFld, wStar, wFmt, wFs, wJs, wDn, Bool.not_true, Bool.not_false, wChain, wAndV, wOrV, wNotV, wIsT, id, wNeg, wPar, wTpo, st2, st3, wFg, wFg0, puts, wip, rst, isOw, if_ff, if_tt, List.getElem?_cons_zero, List.getElem?_cons_succ, List.getElem?_nil, wSeq, wAsg, wOp, wC, wCB, wCons, wNil, wRet, wIfS, wB, wNext, wIf, wCall, wDrop, wTup, wLst, wM, wM0, wSl, wSlS, wP, wNoP, wiR1, wiR2, wiIt, wiEn, wTru, wAnd, wOr, wNot, wFor, rd_int, rd_str, rd_bl, rd_non, rd_tup, rd_lf, rd_lt, rd_df, rd_dt, rd_if, rd_it, rd_scr, startD, fz, List.map, List.length, List.replicate, List.append, List.set_cons_zero, List.set_cons_succ, Int.reduceToNat, List.cons_append, List.nil_append, Nat.reduceAdd, Nat.reduceSub, endD])
    refine i_lcF folk D.str (fun l => decide ((e, l) ∈ fs)) D.str rfl (by omega) (fun l hl' P' N hP hN => ?_) ?_
    · repeat' (first | trivial | dsimp only [w_all_facts_r2, wMakeP, makeP, wCallP, callP, wMethP, permL_nil, permL_cons, wProp, wIxI, wLockE, wiDk, wFld, wStar, wFmt, wFs, wJs, wDn, Bool.not_true, Bool.not_false, wChain, wAndV, wOrV, wNotV, wIsT, id, wNeg, wPar, wTpo, st2, st3, wFg, wFg0, puts, wip, rst, isOw, if_ff, if_tt, List.getElem?_cons_zero, List.getElem?_cons_succ, List.getElem?_nil, wSeq, wAsg, wOp, wC, wCB, wCons, wNil, wRet, wIfS, wB, wNext, wIf, wCall, wDrop, wTup, wLst, wM, wM0, wSl, wSlS, wP, wNoP, wiR1, wiR2, wiIt, wiEn, wTru, wAnd, wOr, wNot, wFor, rd_int, rd_str, rd_bl, rd_non, rd_tup, rd_lf, rd_lt, rd_df, rd_dt, rd_if, rd_it, rd_scr, startD, fz, List.map, List.length, List.replicate, List.append, List.set_cons_zero, List.set_cons_succ, Int.reduceToNat, List.cons_append, List.nil_append, Nat.reduceAdd, Nat.reduceSub, endD])
      have g1 : Gd 1 1000 (eF (e, l)) := (Gd.tup (GdL.cons (n := 0) (Gd.str (hfo e he).1 (hfo e he).2) (GdL.cons (Gd.str (hfo l hl').1 (hfo l hl').2) GdL.nil))).mono (Nat.le_refl _) (by omega)
      refine i_inT (d := eF (e, l)) rfl rfl (g1.shp (by omega)) (hgd.shp (by omega)) ?_
      rw [any_F]
      repeat' (first | trivial | dsimp only [w_all_facts_r2, wMakeP, makeP, wCallP, callP, wMethP, permL_nil, permL_cons, wProp, wIxI, wLockE, wiDk, wFld, wStar, wFmt, wFs, wJs, wDn, Bool.not_true, Bool.not_false, wChain, wAndV, wOrV, wNotV, wIsT, id, wNeg, wPar, wTpo, st2, st3, wFg, wFg0, puts, wip, rst, isOw, if_ff, if_tt, List.getElem?_cons_zero, List.getElem?_cons_succ, List.getElem?_nil, wSeq, wAsg, wOp, wC, wCB, wCons, wNil, wRet, wIfS, wB, wNext, wIf, wCall, wDrop, wTup, wLst, wM, wM0, wSl, wSlS, wP, wNoP, wiR1, wiR2, wiIt, wiEn, wTru, wAnd, wOr, wNot, wFor, rd_int, rd_str, rd_bl, rd_non, rd_tup, rd_lf, rd_lt, rd_df, rd_dt, rd_if, rd_it, rd_scr, startD, fz, List.map, List.length, List.replicate, List.append, List.set_cons_zero, List.set_cons_succ, Int.reduceToNat, List.cons_append, List.nil_append, Nat.reduceAdd, Nat.reduceSub, endD])
      · exact hP (decide_eq_true (by assumption))
      · exact hN (decide_eq_false (by assumption))
    repeat' (first | trivial | dsimp only [w_all_facts_r2, wMakeP, makeP, wCallP, callP, wMethP, permL_nil, permL_cons, wProp, wIxI, wLockE, wiDk, wFld, wStar, wFmt, wFs, wJs, wDn, Bool.not_true, Bool.not_false, wChain, wAndV, wOrV, wNotV, wIsT, id, wNeg, wPar, wTpo, st2, st3, wFg, wFg0, puts, wip, rst, isOw, if_ff, if_tt, List.getElem?_cons_zero, List.getElem?_cons_succ, List.getElem?_nil, wSeq, wAsg, wOp, wC, wCB, wCons, wNil, wRet, wIfS, wB, wNext, wIf, wCall, wDrop, wTup, wLst, wM, wM0, wSl, wSlS, wP, wNoP, wiR1, wiR2, wiIt, wiEn, wTru, wAnd, wOr, wNot, wFor, rd_int, rd_str, rd_bl, rd_non, rd_tup, rd_lf, rd_lt, rd_df, rd_dt, rd_if, rd_it, rd_scr, startD, fz, List.map, List.length, List.replicate, List.append, List.set_cons_zero, List.set_cons_succ, Int.reduceToNat, List.cons_append, List.nil_append, Nat.reduceAdd, Nat.reduceSub, endD])
  repeat' (first | trivial | dsimp only [w_all_facts_r2, wMakeP, makeP, wCallP, callP, wMethP, permL_nil, permL_cons, wProp, wIxI, wLockE, wiDk, wFld, wStar, wFmt, wFs, wJs, wDn, Bool.not_true, Bool.not_false, wChain, wAndV, wOrV, wNotV, wIsT, id, wNeg, wPar, wTpo, st2, st3, wFg, wFg0, puts, wip, rst, isOw, if_ff, if_tt, List.getElem?_cons_zero, List.getElem?_cons_succ, List.getElem?_nil, wSeq, wAsg, wOp, wC, wCB, wCons, wNil, wRet, wIfS, wB, wNext, wIf, wCall, wDrop, wTup, wLst, wM, wM0, wSl, wSlS, wP, wNoP, wiR1, wiR2, wiIt, wiEn, wTru, wAnd, wOr, wNot, wFor, rd_int, rd_str, rd_bl, rd_non, rd_tup, rd_lf, rd_lt, rd_df, rd_dt, rd_if, rd_it, rd_scr, startD, fz, List.map, List.length, List.replicate, List.append, List.set_cons_zero, List.set_cons_succ, Int.reduceToNat, List.cons_append, List.nil_append, Nat.reduceAdd, Nat.reduceSub, endD])
  refine ⟨fun i ρ => ρ = [some (.tup (folk.map D.str) : D), some (.tup (fs.map eF) : D), some (eW true folk ((folk.take i).foldl (wkS folk) (wk0 folk fs)) : D), none, none, none], rfl, ?_, ?_⟩
  · rintro i d ρ hd rfl
    rw [List.getElem?_map] at hd
    obtain ⟨m, hm, rfl⟩ := Option.map_eq_some_iff.mp hd
    have hmf := List.mem_of_getElem? hm
    have tk := take_snoc hm
    have hN : Nrm folk ((folk.take i).foldl (wkS folk) (wk0 folk fs)) := fold_ind (P := Nrm folk) (fun _ _ h => nrmS h) _ _ nrm0
    have e1 : (folk.take (i + 1)).foldl (wkS folk) (wk0 folk fs) = wkS folk ((folk.take i).foldl (wkS folk) (wk0 folk fs)) m := by rw [tk, List.foldl_append]; rfl
    repeat' (first | trivial | dsimp only [w_all_facts_r2, wMakeP, makeP, wCallP, callP, wMethP, permL_nil, permL_cons, wProp, wIxI, wLockE, wiDk, wFld, wStar, wFmt, wFs, wJs, wDn, Bool.not_true, Bool.not_false, wChain, wAndV, wOrV, wNotV, wIsT, id, wNeg, wPar, wTpo, st2, st3, wFg, wFg0, puts, wip, rst, isOw, if_ff, if_tt, List.getElem?_cons_zero, List.getElem?_cons_succ, List.getElem?_nil, wSeq, wAsg, wOp, wC, wCB, wCons, wNil, wRet, wIfS, wB, wNext, wIf, wCall, wDrop, wTup, wLst, wM, wM0, wSl, wSlS, wP, wNoP, wiR1, wiR2, wiIt, wiEn, wTru, wAnd, wOr, wNot, wFor, rd_int, rd_str, rd_bl, rd_non, rd_tup, rd_lf, rd_lt, rd_df, rd_dt, rd_if, rd_it, rd_scr, startD, fz, List.map, List.length, List.replicate, List.append, List.set_cons_zero, List.set_cons_succ, Int.reduceToNat, List.cons_append, List.nil_append, Nat.reduceAdd, Nat.reduceSub, endD])
    rw [e1]
    clear e1
    generalize (folk.take i).foldl (wkS folk) (wk0 folk fs) = W at hN ⊢
    refine ⟨fun j ρ => ρ = [some (.tup (folk.map D.str) : D), some (.tup (fs.map eF) : D), some (eW true folk (wkJ folk W m j) : D), none, none, some (.str m : D)], by show _ = _; rw [wkJ_zero], ?_, ?_⟩
    · rintro j d ρ hd rfl
      rw [List.getElem?_map] at hd
      obtain ⟨e, he, rfl⟩ := Option.map_eq_some_iff.mp hd
      have hef := List.mem_of_getElem? he
      have te := take_snoc he
      have hen : e ∉ folk.take j := by
        have := fresh_at (a := []) (by simpa using hnd) he
        simpa using this
      have hWe : wkJ folk W m j e = W e := wkJ_no hen
      have hWm : wkJ folk W m j m = W m := wkJ_m hN
      repeat' (first | trivial | dsimp only [w_all_facts_r2, wMakeP, makeP, wCallP, callP, wMethP, permL_nil, permL_cons, wProp, wIxI, wLockE, wiDk, wFld, wStar, wFmt, wFs, wJs, wDn, Bool.not_true, Bool.not_false, wChain, wAndV, wOrV, wNotV, wIsT, id, wNeg, wPar, wTpo, st2, st3, wFg, wFg0, puts, wip, rst, isOw, if_ff, if_tt, List.getElem?_cons_zero, List.getElem?_cons_succ, List.getElem?_nil, wSeq, wAsg, wOp, wC, wCB, wCons, wNil, wRet, wIfS, wB, wNext, wIf, wCall, wDrop, wTup, wLst, wM, wM0, wSl, wSlS, wP, wNoP, wiR1, wiR2, wiIt, wiEn, wTru, wAnd, wOr, wNot, wFor, rd_int, rd_str, rd_bl, rd_non, rd_tup, rd_lf, rd_lt, rd_df, rd_dt, rd_if, rd_it, rd_scr, startD, fz, List.map, List.length, List.replicate, List.append, List.set_cons_zero, List.set_cons_succ, Int.reduceToNat, List.cons_append, List.nil_append, Nat.reduceAdd, Nat.reduceSub, endD])
      refine i_ixKS rfl hef ?_
      rw [hWe]
      repeat' (first | trivial | dsimp only [w_all_facts_r2, wMakeP, makeP, wCallP, callP, wMethP, permL_nil, permL_cons, wProp, wIxI, wLockE, wiDk, wFld, wStar, wFmt, wFs, wJs, wDn, Bool.not_true, Bool.not_false, wChain, wAndV, wOrV, wNotV, wIsT, id, wNeg, wPar, wTpo, st2, st3, wFg, wFg0, puts, wip, rst, isOw, if_ff, if_tt, List.getElem?_cons_zero, List.getElem?_cons_succ, List.getElem?_nil, wSeq, wAsg, wOp, wC, wCB, wCons, wNil, wRet, wIfS, wB, wNext, wIf, wCall, wDrop, wTup, wLst, wM, wM0, wSl, wSlS, wP, wNoP, wiR1, wiR2, wiIt, wiEn, wTru, wAnd, wOr, wNot, wFor, rd_int, rd_str, rd_bl, rd_non, rd_tup, rd_lf, rd_lt, rd_df, rd_dt, rd_if, rd_it, rd_scr, startD, fz, List.map, List.length, List.replicate, List.append, List.set_cons_zero, List.set_cons_succ, Int.reduceToNat, List.cons_append, List.nil_append, Nat.reduceAdd, Nat.reduceSub, endD])
      · rename_i hc
        refine i_lcF folk D.str (fun l => decide (l ∈ W e) || decide (l ∈ W m)) D.str rfl (by omega) (fun l hl' P' N hP hN => ?_) ?_
        · repeat' (first | trivial | dsimp only [w_all_facts_r2, wMakeP, makeP, wCallP, callP, wMethP, permL_nil, permL_cons, wProp, wIxI, wLockE, wiDk, wFld, wStar, wFmt, wFs, wJs, wDn, Bool.not_true, Bool.not_false, wChain, wAndV, wOrV, wNotV, wIsT, id, wNeg, wPar, wTpo, st2, st3, wFg, wFg0, puts, wip, rst, isOw, if_ff, if_tt, List.getElem?_cons_zero, List.getElem?_cons_succ, List.getElem?_nil, wSeq, wAsg, wOp, wC, wCB, wCons, wNil, wRet, wIfS, wB, wNext, wIf, wCall, wDrop, wTup, wLst, wM, wM0, wSl, wSlS, wP, wNoP, wiR1, wiR2, wiIt, wiEn, wTru, wAnd, wOr, wNot, wFor, rd_int, rd_str, rd_bl, rd_non, rd_tup, rd_lf, rd_lt, rd_df, rd_dt, rd_if, rd_it, rd_scr, startD, fz, List.map, List.length, List.replicate, List.append, List.set_cons_zero, List.set_cons_succ, Int.reduceToNat, List.cons_append, List.nil_append, Nat.reduceAdd, Nat.reduceSub, endD])
          refine i_ixKS rfl hef ?_
          rw [hWe]
          repeat' (first | trivial | dsimp only [w_all_facts_r2, wMakeP, makeP, wCallP, callP, wMethP, permL_nil, permL_cons, wProp, wIxI, wLockE, wiDk, wFld, wStar, wFmt, wFs, wJs, wDn, Bool.not_true, Bool.not_false, wChain, wAndV, wOrV, wNotV, wIsT, id, wNeg, wPar, wTpo, st2, st3, wFg, wFg0, puts, wip, rst, isOw, if_ff, if_tt, List.getElem?_cons_zero, List.getElem?_cons_succ, List.getElem?_nil, wSeq, wAsg, wOp, wC, wCB, wCons, wNil, wRet, wIfS, wB, wNext, wIf, wCall, wDrop, wTup, wLst, wM, wM0, wSl, wSlS, wP, wNoP, wiR1, wiR2, wiIt, wiEn, wTru, wAnd, wOr, wNot, wFor, rd_int, rd_str, rd_bl, rd_non, rd_tup, rd_lf, rd_lt, rd_df, rd_dt, rd_if, rd_it, rd_scr, startD, fz, List.map, List.length, List.replicate, List.append, List.set_cons_zero, List.set_cons_succ, Int.reduceToNat, List.cons_append, List.nil_append, Nat.reduceAdd, Nat.reduceSub, endD])
          · rename_i h1
            exact hP (by rw [decide_eq_true h1]; rfl)
          · rename_i h1
            refine i_ixKS rfl hmf ?_
            rw [hWm]
            repeat' (first | trivial | dsimp only [w_all_facts_r2, wMakeP, makeP, wCallP, callP, wMethP, permL_nil, permL_cons, wProp, wIxI, wLockE, wiDk, wFld, wStar, wFmt, wFs, wJs, wDn, Bool.not_true, Bool.not_false, wChain, wAndV, wOrV, wNotV, wIsT, id, wNeg, wPar, wTpo, st2, st3, wFg, wFg0, puts, wip, rst, isOw, if_ff, if_tt, List.getElem?_cons_zero, List.getElem?_cons_succ, List.getElem?_nil, wSeq, wAsg, wOp, wC, wCB, wCons, wNil, wRet, wIfS, wB, wNext, wIf, wCall, wDrop, wTup, wLst, wM, wM0, wSl, wSlS, wP, wNoP, wiR1, wiR2, wiIt, wiEn, wTru, wAnd, wOr, wNot, wFor, rd_int, rd_str, rd_bl, rd_non, rd_tup, rd_lf, rd_lt, rd_df, rd_dt, rd_if, rd_it, rd_scr, startD, fz, List.map, List.length, List.replicate, List.append, List.set_cons_zero, List.set_cons_succ, Int.reduceToNat, List.cons_append, List.nil_append, Nat.reduceAdd, Nat.reduceSub, endD])
            · rename_i h2
              exact hP (by rw [decide_eq_true h2, Bool.or_true])
            · rename_i h2
              exact hN (by rw [decide_eq_false h1, decide_eq_false h2]; rfl)
        repeat' (first | trivial | dsimp only [w_all_facts_r2, wMakeP, makeP, wCallP, callP, wMethP, permL_nil, permL_cons, wProp, wIxI, wLockE, wiDk, wFld, wStar, wFmt, wFs, wJs, wDn, Bool.not_true, Bool.not_false, wChain, wAndV, wOrV, wNotV, wIsT, id, wNeg, wPar, wTpo, st2, st3, wFg, wFg0, puts, wip, rst, isOw, if_ff, if_tt, List.getElem?_cons_zero, List.getElem?_cons_succ, List.getElem?_nil, wSeq, wAsg, wOp, wC, wCB, wCons, wNil, wRet, wIfS, wB, wNext, wIf, wCall, wDrop, wTup, wLst, wM, wM0, wSl, wSlS, wP, wNoP, wiR1, wiR2, wiIt, wiEn, wTru, wAnd, wOr, wNot, wFor, rd_int, rd_str, rd_bl, rd_non, rd_tup, rd_lf, rd_lt, rd_df, rd_dt, rd_if, rd_it, rd_scr, startD, fz, List.map, List.length, List.replicate, List.append, List.set_cons_zero, List.set_cons_succ, Int.reduceToNat, List.cons_append, List.nil_append, Nat.reduceAdd, Nat.reduceSub, endD])
        refine i_setKO rfl rfl hef rfl (by omega) ?_
        repeat' (first | trivial | dsimp only [w_all_facts_r2, wMakeP, makeP, wCallP, callP, wMethP, permL_nil, permL_cons, wProp, wIxI, wLockE, wiDk, wFld, wStar, wFmt, wFs, wJs, wDn, Bool.not_true, Bool.not_false, wChain, wAndV, wOrV, wNotV, wIsT, id, wNeg, wPar, wTpo, st2, st3, wFg, wFg0, puts, wip, rst, isOw, if_ff, if_tt, List.getElem?_cons_zero, List.getElem?_cons_succ, List.getElem?_nil, wSeq, wAsg, wOp, wC, wCB, wCons, wNil, wRet, wIfS, wB, wNext, wIf, wCall, wDrop, wTup, wLst, wM, wM0, wSl, wSlS, wP, wNoP, wiR1, wiR2, wiIt, wiEn, wTru, wAnd, wOr, wNot, wFor, rd_int, rd_str, rd_bl, rd_non, rd_tup, rd_lf, rd_lt, rd_df, rd_dt, rd_if, rd_it, rd_scr, startD, fz, List.map, List.length, List.replicate, List.append, List.set_cons_zero, List.set_cons_succ, Int.reduceToNat, List.cons_append, List.nil_append, Nat.reduceAdd, Nat.reduceSub, endD])
        have e2 : (folk.map fun y => if y = e then D.lst false ((folk.filter fun l => decide (l ∈ W e) || decide (l ∈ W m)).map D.str) else eL (wkJ folk W m j y)) = folk.map fun y => eL (wkJ folk W m (j + 1) y) := by
          refine List.map_congr_left fun y hy => ?_
          rw [wkJ_step te]
          split
          · unfold wkS; rw [if_pos hc]
          · rfl
        rw [e2]
      · rename_i hc
        rw [show eW true folk (wkJ folk W m (j + 1)) = eW true folk (wkJ folk W m j) from eW_congr fun y hy => by
          rw [wkJ_step te]
          split
          · rename_i z; subst z; rw [hWe]; unfold wkS; rw [if_neg hc]
          · rfl]
    · rintro ρ rfl
      rw [List.length_map]
      repeat' (first | trivial | dsimp only [w_all_facts_r2, wMakeP, makeP, wCallP, callP, wMethP, permL_nil, permL_cons, wProp, wIxI, wLockE, wiDk, wFld, wStar, wFmt, wFs, wJs, wDn, Bool.not_true, Bool.not_false, wChain, wAndV, wOrV, wNotV, wIsT, id, wNeg, wPar, wTpo, st2, st3, wFg, wFg0, puts, wip, rst, isOw, if_ff, if_tt, List.getElem?_cons_zero, List.getElem?_cons_succ, List.getElem?_nil, wSeq, wAsg, wOp, wC, wCB, wCons, wNil, wRet, wIfS, wB, wNext, wIf, wCall, wDrop, wTup, wLst, wM, wM0, wSl, wSlS, wP, wNoP, wiR1, wiR2, wiIt, wiEn, wTru, wAnd, wOr, wNot, wFor, rd_int, rd_str, rd_bl, rd_non, rd_tup, rd_lf, rd_lt, rd_df, rd_dt, rd_if, rd_it, rd_scr, startD, fz, List.map, List.length, List.replicate, List.append, List.set_cons_zero, List.set_cons_succ, Int.reduceToNat, List.cons_append, List.nil_append, Nat.reduceAdd, Nat.reduceSub, endD])
      rw [wkJ_all]
  · rintro ρ rfl
    rw [List.length_map, List.take_length]
    repeat' (first | trivial | dsimp only [w_all_facts_r2, wMakeP, makeP, wCallP, callP, wMethP, permL_nil, permL_cons, wProp, wIxI, wLockE, wiDk, wFld, wStar, wFmt, wFs, wJs, wDn, Bool.not_true, Bool.not_false, wChain, wAndV, wOrV, wNotV, wIsT, id, wNeg, wPar, wTpo, st2, st3, wFg, wFg0, puts, wip, rst, isOw, if_ff, if_tt, List.getElem?_cons_zero, List.getElem?_cons_succ, List.getElem?_nil, wSeq, wAsg, wOp, wC, wCB, wCons, wNil, wRet, wIfS, wB, wNext, wIf, wCall, wDrop, wTup, wLst, wM, wM0, wSl, wSlS, wP, wNoP, wiR1, wiR2, wiIt, wiEn, wTru, wAnd, wOr, wNot, wFor, rd_int, rd_str, rd_bl, rd_non, rd_tup, rd_lf, rd_lt, rd_df, rd_dt, rd_if, rd_it, rd_scr, startD, fz, List.map, List.length, List.replicate, List.append, List.set_cons_zero, List.set_cons_succ, Int.reduceToNat, List.cons_append, List.nil_append, Nat.reduceAdd, Nat.reduceSub, endD])
end L
namespace L
open PySem PySem.Spec PyProof.Rows L2 M
local macro_rules
  | `(tactic| trivial) => `(tactic| with_reducible first
    | refine i_var rfl ?_
    | refine i_addI ?_ | refine i_sub ?_ | refine i_mod (by omega) ?_ | refine i_fdiv (by omega) ?_
    | refine i_mulL (by omega) ?_ | refine i_mulR (by omega) ?_
    | refine ite_t ?_ | refine ite_nT ?_ | refine ite_nF ?_ | refine ite_nn ?_ | refine ite_f ?_ | refine ite_dt (by first | assumption | omega | (simp only [List.length_map, List.length_append, List.length_cons, List.length_nil, List.length_take, List.length_drop] at *; omega)) ?_ | refine ite_df (by first | assumption | omega | (simp only [List.length_map, List.length_append, List.length_cons, List.length_nil, List.length_take, List.length_drop] at *; omega)) ?_ | refine ite_ct (by assumption) ?_ | refine ite_cf (by assumption) ?_ | refine ite_nct (by assumption) ?_ | refine ite_ncf (by assumption) ?_ | refine iteD (fun hc => ?_) (fun hc => ?_) | refine ite_nf (by first | exact rfl | assumption | omega | (simp only [List.length_map, List.length_append, List.length_cons, List.length_nil, List.length_take, List.length_drop] at *; omega)) ?_ | refine ite_nt (by first | assumption | omega | (simp only [List.length_map, List.length_append, List.length_cons, List.length_nil, List.length_take, List.length_drop] at *; omega)) ?_ | refine iteN (fun hc => ?_) (fun hc => ?_) | refine i_b ?_
    | refine i_lt ?_ | refine i_le ?_ | refine i_gt ?_ | refine i_ge ?_ | refine i_eqI ?_ | refine i_neI ?_ | refine i_eqS ?_ | refine i_neS ?_
    | refine i_ixL rfl rfl rfl ?_
    | refine i_int ?_ | refine i_abs ?_ | refine i_max ?_ | refine i_min ?_ | refine i_dm (by omega) ?_
    | refine i_lenL rfl rfl ?_ | refine i_lenSc ?_ | refine i_list rfl rfl ?_ | refine i_tuple rfl rfl ?_
    | refine i_setl rfl rfl rfl rfl ?_
    | refine i_truB ?_ | refine i_pln rfl ?_ | refine i_isSS ?_ | refine i_isTT ?_ | refine i_isII ?_ | refine i_isIB ?_ | refine i_isSI ?_ | refine i_lockE rfl ?_ | refine i_dk rfl ?_ | refine i_gattr rfl rfl rfl rfl rfl (by decide +kernel) ?_ | refine i_star rfl rfl ?_ | refine i_isin rfl ?_ | refine i_nn ?_ | refine i_made ?_ | refine i_spc ?_ | refine i_qlen (by omega) ?_ | refine i_qstr ?_ | refine i_qbl ?_ | refine i_js (by simp only [empty_app, app_len, len_gt]; omega) ?_ | refine i_fmt (by omega) ?_ | refine i_inC ?_ | refine i_inKS rfl ?_ | refine i_notInKS rfl ?_ | refine i_lenD rfl ?_ | refine i_notIn2 ?_ | refine i_in2 ?_ | refine i_allM rfl ?_ | refine i_anyM rfl ?_ | refine i_index rfl (by assumption) ?_ | refine i_tyL rfl ?_ | refine i_tyS ?_ | refine i_popM rfl (by first | omega | (simp only [List.length_map, List.length_append, List.length_cons, List.length_nil, List.length_take, List.length_drop] at *; omega)) (fun m hm hme hle => ?_) | refine i_popB rfl (by first | omega | (simp only [List.length_map, List.length_append, List.length_cons, List.length_nil, List.length_take, List.length_drop] at *; omega)) (fun m hm hme => ?_) | refine i_par rfl rfl ?_ | refine i_tpo rfl rfl ?_ | refine i_fzE rfl ?_ | refine i_fzE (fzR_P (by assumption)) ?_ | refine i_fz rfl ?_ | refine i_fz (fzR_P (by assumption)) ?_ | refine i_app rfl rfl (by first | omega | (simp only [List.length_map, List.length_append, List.length_cons, List.length_nil, List.length_take, List.length_drop] at *; omega)) ?_ | refine i_ow rfl ?_ | refine i_unp rfl ?_ | refine i_unpO rfl ?_ | refine i_gcons ?_ | refine i_gnil ?_
    | refine i_strB (by omega) ?_ | refine i_notInS rfl rfl ?_ | refine i_inS rfl rfl ?_ | refine i_notInI rfl rfl ?_ | refine i_inI rfl rfl ?_
    | refine i_addS (by first | decide | (simp only [len_plus, len_minus, len_gt, len_places, app_len]; omega)) ?_ | refine i_addL rfl rfl (by decide) ?_ | refine i_addL rfl rfl (by first | omega | (simp only [List.length_map, List.length_append, List.length_cons, List.length_nil, List.length_take, List.length_drop] at *; omega)) ?_
    | refine i_pow (by omega) ?_ | refine i_disp rfl rfl ?_ | refine i_slL rfl ?_ | refine i_slT ?_ | refine i_scr ?_ | refine i_opt ?_ | refine i_itL rfl rfl ?_ | refine i_itS ?_ | refine i_en rfl rfl ?_ | refine i_r1 (by first | omega | (simp only [List.length_map, List.length_append, List.length_cons, List.length_nil, List.length_take, List.length_drop] at *; omega)) ?_ | refine i_r2 (by first | omega | (simp only [List.length_map, List.length_append, List.length_cons, List.length_nil, List.length_take, List.length_drop] at *; omega)) ?_ | refine i_lc0 ?_ | refine i_dc0 ?_ | refine i_kfz rfl rfl ?_ | refine i_ixSc rfl ?_
    | refine i_ret rfl rfl ?_ | refine i_fzs rfl ?_)

local macro_rules
  | `(tactic| trivial) => `(tactic| with_reducible first | refine i_call rfl rfl rfl ?_ | refine i_callB (by decide) rfl rfl rfl rfl ?_)
def w_has_ring (Ex : DXs) : WS :=
  (wRet (wCB nAny (wCons (wLockE 0 (wLc (wiDk 0) (gFz 1) wYes (wOp oInB (wVar 1) (wOp oIxA (wVar 0) (wVar 1))) [1])) wNil)))
def sp_has_ring : Spd := fun ds Q _ => ∃ (o : Bool) (folk : List Str) (W : Str → List Str), ds = [eW o folk W] ∧ folk.length ≤ 100 ∧ Q (.bl (folk.any fun e => decide (e ∈ W e))) []
theorem hw_has_ring (ds : List D) (Qd : D → List D → Prop) (Ed : DX) (h : sp_has_ring ds Qd Ed) : w_has_ring (fun c fs xs _ => Ed c fs xs) (endD [] Qd) (startD ["weaker", "entry"] ds) := by
  obtain ⟨o, folk, W, rfl, hl, h⟩ := h
  unfold w_has_ring
  repeat' (first | trivial | dsimp only [wMakeP, makeP, wCallP, callP, wMethP, permL_nil, permL_cons, wProp, wIxI, wLockE, wiDk, wFld, wStar, wFmt, wFs, wJs, wDn, Bool.not_true, Bool.not_false, wChain, wAndV, wOrV, wNotV, wIsT, id, wNeg, wPar, wTpo, st2, st3, wFg, wFg0, puts, wip, rst, isOw, if_ff, if_tt, List.getElem?_cons_zero, List.getElem?_cons_succ, List.getElem?_nil, wSeq, wAsg, wOp, wC, wCB, wCons, wNil, wRet, wIfS, wB, wNext, wIf, wCall, wDrop, wTup, wLst, wM, wM0, wSl, wSlS, wP, wNoP, wiR1, wiR2, wiIt, wiEn, wTru, wAnd, wOr, wNot, wFor, rd_int, rd_str, rd_bl, rd_non, rd_tup, rd_lf, rd_lt, rd_df, rd_dt, rd_if, rd_it, rd_scr, startD, fz, List.map, List.length, List.replicate, List.append, List.set_cons_zero, List.set_cons_succ, Int.reduceToNat, List.cons_append, List.nil_append, Nat.reduceAdd, Nat.reduceSub, endD])
  refine i_lcM folk D.str (fun e => .bl (decide (e ∈ W e))) keys_S (by omega) (fun e he P h => ?_) ?_
  · repeat' (first | trivial | dsimp only [wMakeP, makeP, wCallP, callP, wMethP, permL_nil, permL_cons, wProp, wIxI, wLockE, wiDk, wFld, wStar, wFmt, wFs, wJs, wDn, Bool.not_true, Bool.not_false, wChain, wAndV, wOrV, wNotV, wIsT, id, wNeg, wPar, wTpo, st2, st3, wFg, wFg0, puts, wip, rst, isOw, if_ff, if_tt, List.getElem?_cons_zero, List.getElem?_cons_succ, List.getElem?_nil, wSeq, wAsg, wOp, wC, wCB, wCons, wNil, wRet, wIfS, wB, wNext, wIf, wCall, wDrop, wTup, wLst, wM, wM0, wSl, wSlS, wP, wNoP, wiR1, wiR2, wiIt, wiEn, wTru, wAnd, wOr, wNot, wFor, rd_int, rd_str, rd_bl, rd_non, rd_tup, rd_lf, rd_lt, rd_df, rd_dt, rd_if, rd_it, rd_scr, startD, fz, List.map, List.length, List.replicate, List.append, List.set_cons_zero, List.set_cons_succ, Int.reduceToNat, List.cons_append, List.nil_append, Nat.reduceAdd, Nat.reduceSub, endD])
    refine i_ixKS rfl he ?_
    repeat' (first | trivial | dsimp only [wMakeP, makeP, wCallP, callP, wMethP, permL_nil, permL_cons, wProp, wIxI, wLockE, wiDk, wFld, wStar, wFmt, wFs, wJs, wDn, Bool.not_true, Bool.not_false, wChain, wAndV, wOrV, wNotV, wIsT, id, wNeg, wPar, wTpo, st2, st3, wFg, wFg0, puts, wip, rst, isOw, if_ff, if_tt, List.getElem?_cons_zero, List.getElem?_cons_succ, List.getElem?_nil, wSeq, wAsg, wOp, wC, wCB, wCons, wNil, wRet, wIfS, wB, wNext, wIf, wCall, wDrop, wTup, wLst, wM, wM0, wSl, wSlS, wP, wNoP, wiR1, wiR2, wiIt, wiEn, wTru, wAnd, wOr, wNot, wFor, rd_int, rd_str, rd_bl, rd_non, rd_tup, rd_lf, rd_lt, rd_df, rd_dt, rd_if, rd_it, rd_scr, startD, fz, List.map, List.length, List.replicate, List.append, List.set_cons_zero, List.set_cons_succ, Int.reduceToNat, List.cons_append, List.nil_append, Nat.reduceAdd, Nat.reduceSub, endD])
  repeat' (first | trivial | dsimp only [wMakeP, makeP, wCallP, callP, wMethP, permL_nil, permL_cons, wProp, wIxI, wLockE, wiDk, wFld, wStar, wFmt, wFs, wJs, wDn, Bool.not_true, Bool.not_false, wChain, wAndV, wOrV, wNotV, wIsT, id, wNeg, wPar, wTpo, st2, st3, wFg, wFg0, puts, wip, rst, isOw, if_ff, if_tt, List.getElem?_cons_zero, List.getElem?_cons_succ, List.getElem?_nil, wSeq, wAsg, wOp, wC, wCB, wCons, wNil, wRet, wIfS, wB, wNext, wIf, wCall, wDrop, wTup, wLst, wM, wM0, wSl, wSlS, wP, wNoP, wiR1, wiR2, wiIt, wiEn, wTru, wAnd, wOr, wNot, wFor, rd_int, rd_str, rd_bl, rd_non, rd_tup, rd_lf, rd_lt, rd_df, rd_dt, rd_if, rd_it, rd_scr, startD, fz, List.map, List.length, List.replicate, List.append, List.set_cons_zero, List.set_cons_succ, Int.reduceToNat, List.cons_append, List.nil_append, Nat.reduceAdd, Nat.reduceSub, endD])
def w_is_fact_r1 (Ex : DXs) : WS :=
  (wRet (wCB nAll (wCons (wLc (wiIt (wVar 0)) (gFz 2) wYes (wAndV (wIsT "str" (wVar 2)) (wOp oInB (wVar 2) (wVar 1))) [2]) wNil)))
def w_is_fact (Ex : DXs) : WS :=
  (wSeq (wIfS (wOr (wNot (wTru (wIsT "tuple" (wVar 0)))) (wB (wOp oNe (wCB nLen (wCons (wVar 0) wNil)) (wC (.int 2))))) (wRet (wC (.bl false))) wNext)
  (w_is_fact_r1 Ex))
def sp_is_fact : Spd := fun ds Q _ => ∃ (f : Str × Str) (folk : List Str), ds = [eF f, eP folk] ∧ f.1 ∈ folk ∧ f.2 ∈ folk ∧ Q (.bl true) []
theorem hw_is_fact (ds : List D) (Qd : D → List D → Prop) (Ed : DX) (h : sp_is_fact ds Qd Ed) : w_is_fact (fun c fs xs _ => Ed c fs xs) (endD [] Qd) (startD ["value", "entries", "entry"] ds) := by
  obtain ⟨f, folk, rfl, h1, h2, h⟩ := h
  unfold w_is_fact eF eP
  repeat' (first | trivial | dsimp only [w_is_fact_r1, wMakeP, makeP, wCallP, callP, wMethP, permL_nil, permL_cons, wProp, wIxI, wLockE, wiDk, wFld, wStar, wFmt, wFs, wJs, wDn, Bool.not_true, Bool.not_false, wChain, wAndV, wOrV, wNotV, wIsT, id, wNeg, wPar, wTpo, st2, st3, wFg, wFg0, puts, wip, rst, isOw, if_ff, if_tt, List.getElem?_cons_zero, List.getElem?_cons_succ, List.getElem?_nil, wSeq, wAsg, wOp, wC, wCB, wCons, wNil, wRet, wIfS, wB, wNext, wIf, wCall, wDrop, wTup, wLst, wM, wM0, wSl, wSlS, wP, wNoP, wiR1, wiR2, wiIt, wiEn, wTru, wAnd, wOr, wNot, wFor, rd_int, rd_str, rd_bl, rd_non, rd_tup, rd_lf, rd_lt, rd_df, rd_dt, rd_if, rd_it, rd_scr, startD, fz, List.map, List.length, List.replicate, List.append, List.set_cons_zero, List.set_cons_succ, Int.reduceToNat, List.cons_append, List.nil_append, Nat.reduceAdd, Nat.reduceSub, endD])
  refine i_lcM [f.1, f.2] D.str (fun _ => .bl true) rfl (by simp) (fun e he P h => ?_) ?_
  · have : e ∈ folk := by simp at he; rcases he with rfl | rfl <;> assumption
    repeat' (first | trivial | dsimp only [w_is_fact_r1, wMakeP, makeP, wCallP, callP, wMethP, permL_nil, permL_cons, wProp, wIxI, wLockE, wiDk, wFld, wStar, wFmt, wFs, wJs, wDn, Bool.not_true, Bool.not_false, wChain, wAndV, wOrV, wNotV, wIsT, id, wNeg, wPar, wTpo, st2, st3, wFg, wFg0, puts, wip, rst, isOw, if_ff, if_tt, List.getElem?_cons_zero, List.getElem?_cons_succ, List.getElem?_nil, wSeq, wAsg, wOp, wC, wCB, wCons, wNil, wRet, wIfS, wB, wNext, wIf, wCall, wDrop, wTup, wLst, wM, wM0, wSl, wSlS, wP, wNoP, wiR1, wiR2, wiIt, wiEn, wTru, wAnd, wOr, wNot, wFor, rd_int, rd_str, rd_bl, rd_non, rd_tup, rd_lf, rd_lt, rd_df, rd_dt, rd_if, rd_it, rd_scr, startD, fz, List.map, List.length, List.replicate, List.append, List.set_cons_zero, List.set_cons_succ, Int.reduceToNat, List.cons_append, List.nil_append, Nat.reduceAdd, Nat.reduceSub, endD])
    rw [decide_eq_true this]
    repeat' (first | trivial | dsimp only [w_is_fact_r1, wMakeP, makeP, wCallP, callP, wMethP, permL_nil, permL_cons, wProp, wIxI, wLockE, wiDk, wFld, wStar, wFmt, wFs, wJs, wDn, Bool.not_true, Bool.not_false, wChain, wAndV, wOrV, wNotV, wIsT, id, wNeg, wPar, wTpo, st2, st3, wFg, wFg0, puts, wip, rst, isOw, if_ff, if_tt, List.getElem?_cons_zero, List.getElem?_cons_succ, List.getElem?_nil, wSeq, wAsg, wOp, wC, wCB, wCons, wNil, wRet, wIfS, wB, wNext, wIf, wCall, wDrop, wTup, wLst, wM, wM0, wSl, wSlS, wP, wNoP, wiR1, wiR2, wiIt, wiEn, wTru, wAnd, wOr, wNot, wFor, rd_int, rd_str, rd_bl, rd_non, rd_tup, rd_lf, rd_lt, rd_df, rd_dt, rd_if, rd_it, rd_scr, startD, fz, List.map, List.length, List.replicate, List.append, List.set_cons_zero, List.set_cons_succ, Int.reduceToNat, List.cons_append, List.nil_append, Nat.reduceAdd, Nat.reduceSub, endD])
  repeat' (first | trivial | dsimp only [w_is_fact_r1, wMakeP, makeP, wCallP, callP, wMethP, permL_nil, permL_cons, wProp, wIxI, wLockE, wiDk, wFld, wStar, wFmt, wFs, wJs, wDn, Bool.not_true, Bool.not_false, wChain, wAndV, wOrV, wNotV, wIsT, id, wNeg, wPar, wTpo, st2, st3, wFg, wFg0, puts, wip, rst, isOw, if_ff, if_tt, List.getElem?_cons_zero, List.getElem?_cons_succ, List.getElem?_nil, wSeq, wAsg, wOp, wC, wCB, wCons, wNil, wRet, wIfS, wB, wNext, wIf, wCall, wDrop, wTup, wLst, wM, wM0, wSl, wSlS, wP, wNoP, wiR1, wiR2, wiIt, wiEn, wTru, wAnd, wOr, wNot, wFor, rd_int, rd_str, rd_bl, rd_non, rd_tup, rd_lf, rd_lt, rd_df, rd_dt, rd_if, rd_it, rd_scr, startD, fz, List.map, List.length, List.replicate, List.append, List.set_cons_zero, List.set_cons_succ, Int.reduceToNat, List.cons_append, List.nil_append, Nat.reduceAdd, Nat.reduceSub, endD])
theorem i_isfact {f : Str × Str} {folk : List Str} {x y : D} (ex : x = eF f) (ey : y = eP folk) (h : f.1 ∈ folk ∧ f.2 ∈ folk) {Q : D → List D → Prop} {E : DX} (q : Q (.bl true) []) : sp_is_fact [x, y] Q E := by
  subst ex ey
  exact ⟨f, folk, rfl, h.1, h.2, q⟩
theorem i_hasring {o : Bool} {folk : List Str} {W : Str → List Str} (h : folk.length ≤ 100) {Q : D → List D → Prop} {E : DX} (q : Q (.bl (folk.any fun e => decide (e ∈ W e))) []) : sp_has_ring [eW o folk W] Q E := ⟨o, folk, W, rfl, h, q⟩
theorem i_allfacts {folk : List Str} {fs : List (Str × Str)} {x y : D} (ex : x = eP folk) (ey : y = .tup (fs.map eF)) (hf : Folk folk) (hfs : ∀ f ∈ fs, f.1 ∈ folk ∧ f.2 ∈ folk) (hl : fs.length ≤ 100) {Q : D → List D → Prop} {E : DX} (q : Q (eW true folk (weakerOf folk fs)) []) : sp_all_facts [x, y] Q E := by
  subst ex ey
  have hle := hf.le
  exact ⟨folk, fs, rfl, hf.nd, by omega, (Gd.tup (GdL.mapB hl fun f hf' => gdFact (hf.nm _ (hfs f hf').1) (hf.nm _ (hfs f hf').2))).mono (Nat.le_refl _) (by omega), fun x hx => ⟨(hf.nm x hx).sok, by have := (hf.nm x hx).len.2; omega⟩, q⟩
def w_check_known_r1 (sp_is_fact : Spd) (sp_has_ring : Spd) (sp_all_facts : Spd) (Ex : DXs) : WS :=
  (wFg [2, 3] (wFg0 [2, 3] (wFor (wiEn (wVar 1)) (gUnp 2 (wgCons (gFz 2) (wgCons (gFz 3) wgNil)))
  (wFg [2, 3] (wSeq (wIfS (wOr (wB (wOp oEq (wVar 2) (wC (.int 12)))) (wOr (wNot (wTru (wCall [] [] 2 sp_is_fact [] exF (wCons (wVar 3) (wCons (wVar 0) wNil))))) (wB (wOp oInB (wVar 3) (wSl (wVar 1) wNoP (wP (wVar 2))))))) wNever wNext)
  (wIfS (wTru (wCall [] [] 1 sp_has_ring [] exF (wCons (wCall [] [] 2 sp_all_facts [] exF (wCons (wVar 0) (wCons (wSl (wVar 1) wNoP (wP (wOp oAdd (wVar 2) (wC (.int 1))))) wNil))) wNil))) wNever wNext))))))
def w_check_known (sp_is_fact : Spd) (sp_has_ring : Spd) (sp_all_facts : Spd) (Ex : DXs) : WS :=
  (wSeq (wIfS (wNot (wTru (wIsT "tuple" (wVar 1)))) wNever wNext)
  (w_check_known_r1 sp_is_fact sp_has_ring sp_all_facts Ex))
def sp_check_known : Spd := fun ds Q _ => ∃ (folk : List Str) (fs : List (Str × Str)), ds = [eP folk, .tup (fs.map eF)] ∧ Folk folk ∧ fs.length ≤ 12 ∧ fs.Nodup ∧ (∃ o : List Str, o.Perm folk ∧ Has o fs) ∧ Q .non []
theorem hw_check_known (ds : List D) (Qd : D → List D → Prop) (Ed : DX) (h : sp_check_known ds Qd Ed) : w_check_known sp_is_fact sp_has_ring sp_all_facts (fun c fs xs _ => Ed c fs xs) (endD [] Qd) (startD ["entries", "value", "index", "fact"] ds) := by
  obtain ⟨folk, fs, rfl, hf, hl, hnd, ⟨o, ho, hh⟩, h⟩ := h
  have hle := hf.le
  unfold w_check_known
  repeat' (first | trivial | dsimp only [w_check_known_r1, wMakeP, makeP, wCallP, callP, wMethP, permL_nil, permL_cons, wProp, wIxI, wLockE, wiDk, wFld, wStar, wFmt, wFs, wJs, wDn, Bool.not_true, Bool.not_false, wChain, wAndV, wOrV, wNotV, wIsT, id, wNeg, wPar, wTpo, st2, st3, wFg, wFg0, puts, wip, rst, isOw, if_ff, if_tt, List.getElem?_cons_zero, List.getElem?_cons_succ, List.getElem?_nil, wSeq, wAsg, wOp, wC, wCB, wCons, wNil, wRet, wIfS, wB, wNext, wIf, wCall, wDrop, wTup, wLst, wM, wM0, wSl, wSlS, wP, wNoP, wiR1, wiR2, wiIt, wiEn, wTru, wAnd, wOr, wNot, wFor, rd_int, rd_str, rd_bl, rd_non, rd_tup, rd_lf, rd_lt, rd_df, rd_dt, rd_if, rd_it, rd_scr, startD, fz, List.map, List.length, List.replicate, List.append, List.set_cons_zero, List.set_cons_succ, Int.reduceToNat, List.cons_append, List.nil_append, Nat.reduceAdd, Nat.reduceSub, endD])
  refine ⟨fun i ρ => ρ = [some (eP folk : D), some (.tup (fs.map eF) : D), none, none], rfl, ?_, ?_⟩
  · rintro i d ρ hd rfl
    obtain ⟨f, hfi, rfl⟩ := en_at hd
    obtain ⟨hi, _⟩ := List.getElem?_eq_some_iff.mp hfi
    have hfm := List.mem_of_getElem? hfi
    have hff : ∀ f ∈ fs, f.1 ∈ folk ∧ f.2 ∈ folk := fun f hf' => ⟨ho.subset (hh.mem hf').1, ho.subset (hh.mem hf').2⟩
    have g1 : Gd 1 20 (eF f) := gdFact (hf.nm _ (hff f hfm).1) (hf.nm _ (hff f hfm).2)
    have g2 : ∀ k, Gd 2 1000 (.tup ((fs.take k).map eF)) := fun k => (Gd.tup (GdL.mapB (m := 12) (by rw [List.length_take]; omega) fun f hf' => gdFact (hf.nm _ (hff f (List.mem_of_mem_take hf')).1) (hf.nm _ (hff f (List.mem_of_mem_take hf')).2))).mono (Nat.le_refl _) (by omega)
    have hnt : f ∉ fs.take i := by
      have := fresh_at (a := []) (by simpa using hnd) hfi
      simpa using this
    have hring : (folk.any fun e => decide (e ∈ weakerOf folk (fs.take (i + 1)) e)) = false := by
      rw [List.any_eq_false]
      intro e _ z
      exact (snd_weaker (ho.nodup_iff.mpr hf.nd) (hh.take (i + 1)) e e (of_decide_eq_true z)).irr (ho.nodup_iff.mpr hf.nd)
    repeat' (first | trivial | dsimp only [w_check_known_r1, wMakeP, makeP, wCallP, callP, wMethP, permL_nil, permL_cons, wProp, wIxI, wLockE, wiDk, wFld, wStar, wFmt, wFs, wJs, wDn, Bool.not_true, Bool.not_false, wChain, wAndV, wOrV, wNotV, wIsT, id, wNeg, wPar, wTpo, st2, st3, wFg, wFg0, puts, wip, rst, isOw, if_ff, if_tt, List.getElem?_cons_zero, List.getElem?_cons_succ, List.getElem?_nil, wSeq, wAsg, wOp, wC, wCB, wCons, wNil, wRet, wIfS, wB, wNext, wIf, wCall, wDrop, wTup, wLst, wM, wM0, wSl, wSlS, wP, wNoP, wiR1, wiR2, wiIt, wiEn, wTru, wAnd, wOr, wNot, wFor, rd_int, rd_str, rd_bl, rd_non, rd_tup, rd_lf, rd_lt, rd_df, rd_dt, rd_if, rd_it, rd_scr, startD, fz, List.map, List.length, List.replicate, List.append, List.set_cons_zero, List.set_cons_succ, Int.reduceToNat, List.cons_append, List.nil_append, Nat.reduceAdd, Nat.reduceSub, endD])
    refine i_isfact rfl rfl (hff f hfm) ?_
    repeat' (first | trivial | dsimp only [w_check_known_r1, wMakeP, makeP, wCallP, callP, wMethP, permL_nil, permL_cons, wProp, wIxI, wLockE, wiDk, wFld, wStar, wFmt, wFs, wJs, wDn, Bool.not_true, Bool.not_false, wChain, wAndV, wOrV, wNotV, wIsT, id, wNeg, wPar, wTpo, st2, st3, wFg, wFg0, puts, wip, rst, isOw, if_ff, if_tt, List.getElem?_cons_zero, List.getElem?_cons_succ, List.getElem?_nil, wSeq, wAsg, wOp, wC, wCB, wCons, wNil, wRet, wIfS, wB, wNext, wIf, wCall, wDrop, wTup, wLst, wM, wM0, wSl, wSlS, wP, wNoP, wiR1, wiR2, wiIt, wiEn, wTru, wAnd, wOr, wNot, wFor, rd_int, rd_str, rd_bl, rd_non, rd_tup, rd_lf, rd_lt, rd_df, rd_dt, rd_if, rd_it, rd_scr, startD, fz, List.map, List.length, List.replicate, List.append, List.set_cons_zero, List.set_cons_succ, Int.reduceToNat, List.cons_append, List.nil_append, Nat.reduceAdd, Nat.reduceSub, endD])
    rw [cut_take, ← List.map_take]
    refine i_inT rfl rfl (g1.shp (by omega)) ((g2 i).shp (by omega)) ?_
    rw [any_F]
    repeat' (first | trivial | dsimp only [w_check_known_r1, wMakeP, makeP, wCallP, callP, wMethP, permL_nil, permL_cons, wProp, wIxI, wLockE, wiDk, wFld, wStar, wFmt, wFs, wJs, wDn, Bool.not_true, Bool.not_false, wChain, wAndV, wOrV, wNotV, wIsT, id, wNeg, wPar, wTpo, st2, st3, wFg, wFg0, puts, wip, rst, isOw, if_ff, if_tt, List.getElem?_cons_zero, List.getElem?_cons_succ, List.getElem?_nil, wSeq, wAsg, wOp, wC, wCB, wCons, wNil, wRet, wIfS, wB, wNext, wIf, wCall, wDrop, wTup, wLst, wM, wM0, wSl, wSlS, wP, wNoP, wiR1, wiR2, wiIt, wiEn, wTru, wAnd, wOr, wNot, wFor, rd_int, rd_str, rd_bl, rd_non, rd_tup, rd_lf, rd_lt, rd_df, rd_dt, rd_if, rd_it, rd_scr, startD, fz, List.map, List.length, List.replicate, List.append, List.set_cons_zero, List.set_cons_succ, Int.reduceToNat, List.cons_append, List.nil_append, Nat.reduceAdd, Nat.reduceSub, endD])
    rw [show ((i : Int) + 1) = ((i + 1 : Nat) : Int) by simp, cut_take, ← List.map_take]
    repeat' (first | trivial | dsimp only [w_check_known_r1, wMakeP, makeP, wCallP, callP, wMethP, permL_nil, permL_cons, wProp, wIxI, wLockE, wiDk, wFld, wStar, wFmt, wFs, wJs, wDn, Bool.not_true, Bool.not_false, wChain, wAndV, wOrV, wNotV, wIsT, id, wNeg, wPar, wTpo, st2, st3, wFg, wFg0, puts, wip, rst, isOw, if_ff, if_tt, List.getElem?_cons_zero, List.getElem?_cons_succ, List.getElem?_nil, wSeq, wAsg, wOp, wC, wCB, wCons, wNil, wRet, wIfS, wB, wNext, wIf, wCall, wDrop, wTup, wLst, wM, wM0, wSl, wSlS, wP, wNoP, wiR1, wiR2, wiIt, wiEn, wTru, wAnd, wOr, wNot, wFor, rd_int, rd_str, rd_bl, rd_non, rd_tup, rd_lf, rd_lt, rd_df, rd_dt, rd_if, rd_it, rd_scr, startD, fz, List.map, List.length, List.replicate, List.append, List.set_cons_zero, List.set_cons_succ, Int.reduceToNat, List.cons_append, List.nil_append, Nat.reduceAdd, Nat.reduceSub, endD])
    refine i_allfacts rfl rfl hf (fun f hf' => hff f (List.mem_of_mem_take hf')) (by rw [List.length_take]; omega) ?_
    repeat' (first | trivial | dsimp only [w_check_known_r1, wMakeP, makeP, wCallP, callP, wMethP, permL_nil, permL_cons, wProp, wIxI, wLockE, wiDk, wFld, wStar, wFmt, wFs, wJs, wDn, Bool.not_true, Bool.not_false, wChain, wAndV, wOrV, wNotV, wIsT, id, wNeg, wPar, wTpo, st2, st3, wFg, wFg0, puts, wip, rst, isOw, if_ff, if_tt, List.getElem?_cons_zero, List.getElem?_cons_succ, List.getElem?_nil, wSeq, wAsg, wOp, wC, wCB, wCons, wNil, wRet, wIfS, wB, wNext, wIf, wCall, wDrop, wTup, wLst, wM, wM0, wSl, wSlS, wP, wNoP, wiR1, wiR2, wiIt, wiEn, wTru, wAnd, wOr, wNot, wFor, rd_int, rd_str, rd_bl, rd_non, rd_tup, rd_lf, rd_lt, rd_df, rd_dt, rd_if, rd_it, rd_scr, startD, fz, List.map, List.length, List.replicate, List.append, List.set_cons_zero, List.set_cons_succ, Int.reduceToNat, List.cons_append, List.nil_append, Nat.reduceAdd, Nat.reduceSub, endD])
    refine i_hasring (by omega) ?_
    repeat' (first | trivial | dsimp only [w_check_known_r1, wMakeP, makeP, wCallP, callP, wMethP, permL_nil, permL_cons, wProp, wIxI, wLockE, wiDk, wFld, wStar, wFmt, wFs, wJs, wDn, Bool.not_true, Bool.not_false, wChain, wAndV, wOrV, wNotV, wIsT, id, wNeg, wPar, wTpo, st2, st3, wFg, wFg0, puts, wip, rst, isOw, if_ff, if_tt, List.getElem?_cons_zero, List.getElem?_cons_succ, List.getElem?_nil, wSeq, wAsg, wOp, wC, wCB, wCons, wNil, wRet, wIfS, wB, wNext, wIf, wCall, wDrop, wTup, wLst, wM, wM0, wSl, wSlS, wP, wNoP, wiR1, wiR2, wiIt, wiEn, wTru, wAnd, wOr, wNot, wFor, rd_int, rd_str, rd_bl, rd_non, rd_tup, rd_lf, rd_lt, rd_df, rd_dt, rd_if, rd_it, rd_scr, startD, fz, List.map, List.length, List.replicate, List.append, List.set_cons_zero, List.set_cons_succ, Int.reduceToNat, List.cons_append, List.nil_append, Nat.reduceAdd, Nat.reduceSub, endD])
  · rintro ρ rfl
    repeat' (first | trivial | dsimp only [w_check_known_r1, wMakeP, makeP, wCallP, callP, wMethP, permL_nil, permL_cons, wProp, wIxI, wLockE, wiDk, wFld, wStar, wFmt, wFs, wJs, wDn, Bool.not_true, Bool.not_false, wChain, wAndV, wOrV, wNotV, wIsT, id, wNeg, wPar, wTpo, st2, st3, wFg, wFg0, puts, wip, rst, isOw, if_ff, if_tt, List.getElem?_cons_zero, List.getElem?_cons_succ, List.getElem?_nil, wSeq, wAsg, wOp, wC, wCB, wCons, wNil, wRet, wIfS, wB, wNext, wIf, wCall, wDrop, wTup, wLst, wM, wM0, wSl, wSlS, wP, wNoP, wiR1, wiR2, wiIt, wiEn, wTru, wAnd, wOr, wNot, wFor, rd_int, rd_str, rd_bl, rd_non, rd_tup, rd_lf, rd_lt, rd_df, rd_dt, rd_if, rd_it, rd_scr, startD, fz, List.map, List.length, List.replicate, List.append, List.set_cons_zero, List.set_cons_succ, Int.reduceToNat, List.cons_append, List.nil_append, Nat.reduceAdd, Nat.reduceSub, endD])
    exact ⟨[], rfl, h⟩
end L
namespace L
open PySem PySem.Spec PyProof.Rows L2 M
local macro_rules
  | `(tactic| trivial) => `(tactic| with_reducible first
    | refine i_var rfl ?_
    | refine i_addI ?_ | refine i_sub ?_ | refine i_mod (by omega) ?_ | refine i_fdiv (by omega) ?_
    | refine i_mulL (by omega) ?_ | refine i_mulR (by omega) ?_
    | refine ite_t ?_ | refine ite_nT ?_ | refine ite_nF ?_ | refine ite_nn ?_ | refine ite_f ?_ | refine ite_dt (by first | assumption | omega | (simp only [List.length_map, List.length_append, List.length_cons, List.length_nil, List.length_take, List.length_drop] at *; omega)) ?_ | refine ite_df (by first | assumption | omega | (simp only [List.length_map, List.length_append, List.length_cons, List.length_nil, List.length_take, List.length_drop] at *; omega)) ?_ | refine ite_ct (by assumption) ?_ | refine ite_cf (by assumption) ?_ | refine ite_nct (by assumption) ?_ | refine ite_ncf (by assumption) ?_ | refine iteD (fun hc => ?_) (fun hc => ?_) | refine ite_nf (by first | exact rfl | assumption | omega | (simp only [List.length_map, List.length_append, List.length_cons, List.length_nil, List.length_take, List.length_drop] at *; omega)) ?_ | refine ite_nt (by first | assumption | omega | (simp only [List.length_map, List.length_append, List.length_cons, List.length_nil, List.length_take, List.length_drop] at *; omega)) ?_ | refine iteN (fun hc => ?_) (fun hc => ?_) | refine i_b ?_
    | refine i_lt ?_ | refine i_le ?_ | refine i_gt ?_ | refine i_ge ?_ | refine i_eqI ?_ | refine i_neI ?_ | refine i_eqS ?_ | refine i_neS ?_
    | refine i_ixL rfl rfl rfl ?_
    | refine i_int ?_ | refine i_abs ?_ | refine i_max ?_ | refine i_min ?_ | refine i_dm (by omega) ?_
    | refine i_lenL rfl rfl ?_ | refine i_lenSc ?_ | refine i_list rfl rfl ?_ | refine i_tuple rfl rfl ?_
    | refine i_setl rfl rfl rfl rfl ?_
    | refine i_truB ?_ | refine i_pln rfl ?_ | refine i_isSS ?_ | refine i_isTT ?_ | refine i_isII ?_ | refine i_isIB ?_ | refine i_isSI ?_ | refine i_lockE rfl ?_ | refine i_dk rfl ?_ | refine i_gattr rfl rfl rfl rfl rfl (by decide +kernel) ?_ | refine i_star rfl rfl ?_ | refine i_isin rfl ?_ | refine i_nn ?_ | refine i_made ?_ | refine i_spc ?_ | refine i_qlen (by omega) ?_ | refine i_qstr ?_ | refine i_qbl ?_ | refine i_js (by simp only [empty_app, app_len, len_gt]; omega) ?_ | refine i_fmt (by omega) ?_ | refine i_inC ?_ | refine i_inKS rfl ?_ | refine i_notInKS rfl ?_ | refine i_lenD rfl ?_ | refine i_notIn2 ?_ | refine i_in2 ?_ | refine i_allM rfl ?_ | refine i_anyM rfl ?_ | refine i_index rfl (by assumption) ?_ | refine i_tyL rfl ?_ | refine i_tyS ?_ | refine i_popM rfl (by first | omega | (simp only [List.length_map, List.length_append, List.length_cons, List.length_nil, List.length_take, List.length_drop] at *; omega)) (fun m hm hme hle => ?_) | refine i_popB rfl (by first | omega | (simp only [List.length_map, List.length_append, List.length_cons, List.length_nil, List.length_take, List.length_drop] at *; omega)) (fun m hm hme => ?_) | refine i_par rfl rfl ?_ | refine i_tpo rfl rfl ?_ | refine i_fzE rfl ?_ | refine i_fzE (fzR_P (by assumption)) ?_ | refine i_fz rfl ?_ | refine i_fz (fzR_P (by assumption)) ?_ | refine i_app rfl rfl (by first | omega | (simp only [List.length_map, List.length_append, List.length_cons, List.length_nil, List.length_take, List.length_drop] at *; omega)) ?_ | refine i_ow rfl ?_ | refine i_unp rfl ?_ | refine i_unpO rfl ?_ | refine i_gcons ?_ | refine i_gnil ?_
    | refine i_strB (by omega) ?_ | refine i_notInS rfl rfl ?_ | refine i_inS rfl rfl ?_ | refine i_notInI rfl rfl ?_ | refine i_inI rfl rfl ?_
    | refine i_addS (by first | decide | (simp only [len_plus, len_minus, len_gt, len_places, app_len]; omega)) ?_ | refine i_addL rfl rfl (by decide) ?_ | refine i_addL rfl rfl (by first | omega | (simp only [List.length_map, List.length_append, List.length_cons, List.length_nil, List.length_take, List.length_drop] at *; omega)) ?_
    | refine i_pow (by omega) ?_ | refine i_disp rfl rfl ?_ | refine i_slL rfl ?_ | refine i_slT ?_ | refine i_scr ?_ | refine i_opt ?_ | refine i_itL rfl rfl ?_ | refine i_itS ?_ | refine i_en rfl rfl ?_ | refine i_r1 (by first | omega | (simp only [List.length_map, List.length_append, List.length_cons, List.length_nil, List.length_take, List.length_drop] at *; omega)) ?_ | refine i_r2 (by first | omega | (simp only [List.length_map, List.length_append, List.length_cons, List.length_nil, List.length_take, List.length_drop] at *; omega)) ?_ | refine i_lc0 ?_ | refine i_dc0 ?_ | refine i_kfz rfl rfl ?_ | refine i_ixSc rfl ?_
    | refine i_ret rfl rfl ?_ | refine i_fzs rfl ?_)

theorem i_chkent {l : List Str} {x : D} (ex : x = eP l) (h : Folk l) {Q : D → List D → Prop} {E : DX} (q : Q .non []) : sp_check_entries [x] Q E := by
  subst ex; exact ⟨l, rfl, h, q⟩
theorem i_chkmat {folk : List Str} {gs : List Game} {x y : D} (ex : x = eP folk) (ey : y = .tup (gs.map eG)) (hf : Folk folk) (hg : GamesOk folk folk gs) (h1 : 1 ≤ gs.length) (h2 : gs.length ≤ 24) {Q : D → List D → Prop} {E : DX} (q : Q (.tup [.tup ((sitesOf folk gs).map eI), .lst false ((endsOf folk gs).map D.str)]) []) : sp_check_matches [x, y] Q E := by
  subst ex ey; exact ⟨folk, gs, rfl, hf, hg, h1, h2, q⟩
theorem i_chkpla {ends : List Str} {ps : List (List Str)} {x y : D} (ex : x = eL ends) (ey : y = .tup (ps.map eP)) (h0 : ps ≠ []) (h1 : ∀ g ∈ ps, g ≠ []) (h2 : ps.flatten.Perm ends) (h3 : ends.Nodup) (h4 : ends.length ≤ 100) {Q : D → List D → Prop} {E : DX} (q : Q (.tup (ends.map fun e => .int (placeIx ps e : Nat))) []) : sp_check_places [x, y] Q E := by
  subst ex ey; exact ⟨ends, ps, rfl, h0, h1, h2, h3, h4, q⟩
theorem i_chkkno {folk : List Str} {fs : List (Str × Str)} {x y : D} (ex : x = eP folk) (ey : y = .tup (fs.map eF)) (hf : Folk folk) (h1 : fs.length ≤ 12) (h2 : fs.Nodup) (h3 : ∃ o : List Str, o.Perm folk ∧ Has o fs) {Q : D → List D → Prop} {E : DX} (q : Q .non []) : sp_check_known [x, y] Q E := by
  subst ex ey; exact ⟨folk, fs, rfl, hf, h1, h2, h3, q⟩
local macro_rules
  | `(tactic| trivial) => `(tactic| with_reducible first | refine i_call rfl rfl rfl ?_ | refine i_callB (by decide) rfl rfl rfl rfl ?_ | refine i_fld rfl gx_entries ?_ | refine i_fld rfl gx_matches ?_ | refine i_fld rfl gx_places ?_ | refine i_fld rfl gx_known ?_ | refine i_fld rfl gx_sites ?_ | refine i_fld rfl gx_ends ?_ | refine i_fld rfl gx_end_places ?_ | refine i_fld rfl gx_weaker ?_ | refine i_fld rfl gx_two ?_)
def w_Plan__init_ (sp_check_entries : Spd) (sp_check_matches : Spd) (sp_check_places : Spd) (sp_check_known : Spd) (sp_all_facts : Spd) (Ex : DXs) : WS :=
  (wSeq (wDrop (wCall [] [] 1 sp_check_entries [] exF (wCons (wVar 1) wNil)))
  (wSeq (wAsg (wCall [] [] 2 sp_check_matches [] exF (wCons (wVar 1) (wCons (wVar 2) wNil))) (gUnp 2 (wgCons (gAttr "Plan" "sites" (wVar 0)) (wgCons (gAttr "Plan" "ends" (wVar 0)) wgNil))))
  (wSeq (wAsg (wCall [] [] 2 sp_check_places [] exF (wCons (wFld "Plan" "ends" (wVar 0)) (wCons (wVar 3) wNil))) (gAttr "Plan" "end_places" (wVar 0)))
  (wSeq (wDrop (wCall [] [] 2 sp_check_known [] exF (wCons (wVar 1) (wCons (wVar 4) wNil))))
  (wSeq (wAsg (wCall [] [] 2 sp_all_facts [] exF (wCons (wVar 1) (wCons (wVar 4) wNil))) (gAttr "Plan" "weaker" (wVar 0)))
  (wSeq (wAsg (wVar 1) (gAttr "Plan" "held_entries" (wVar 0)))
  (wSeq (wAsg (wVar 2) (gAttr "Plan" "held_matches" (wVar 0)))
  (wSeq (wAsg (wVar 3) (gAttr "Plan" "held_places" (wVar 0)))
  (wAsg (wVar 4) (gAttr "Plan" "held_known" (wVar 0)))))))))))
def sp_Plan__init_ : Spd := fun ds Q _ => ∃ p : Pn, ds = [.ins true "Plan" [] [], eP p.folk, eGames p, ePlaces p, eFacts p] ∧ PlanOk p ∧ Q .non [ePlan true p]
theorem hw_Plan__init_ (ds : List D) (Qd : D → List D → Prop) (Ed : DX) (h : sp_Plan__init_ ds Qd Ed) : w_Plan__init_ sp_check_entries sp_check_matches sp_check_places sp_check_known sp_all_facts (fun c fs xs _ => Ed c fs xs) (endD [0] Qd) (startD ["self", "entries", "matches", "places", "known"] ds) := by
  obtain ⟨p, rfl, hp, h⟩ := h
  unfold w_Plan__init_
  repeat' (first | trivial | dsimp only [wMakeP, makeP, wCallP, callP, wMethP, permL_nil, permL_cons, wProp, wIxI, wLockE, wiDk, wFld, wStar, wFmt, wFs, wJs, wDn, Bool.not_true, Bool.not_false, wChain, wAndV, wOrV, wNotV, wIsT, id, wNeg, wPar, wTpo, st2, st3, wFg, wFg0, puts, wip, rst, isOw, if_ff, if_tt, List.getElem?_cons_zero, List.getElem?_cons_succ, List.getElem?_nil, wSeq, wAsg, wOp, wC, wCB, wCons, wNil, wRet, wIfS, wB, wNext, wIf, wCall, wDrop, wTup, wLst, wM, wM0, wSl, wSlS, wP, wNoP, wiR1, wiR2, wiIt, wiEn, wTru, wAnd, wOr, wNot, wFor, rd_int, rd_str, rd_bl, rd_non, rd_tup, rd_lf, rd_lt, rd_df, rd_dt, rd_if, rd_it, rd_scr, startD, fz, List.map, List.length, List.replicate, List.append, List.set_cons_zero, List.set_cons_succ, Int.reduceToNat, List.cons_append, List.nil_append, Nat.reduceAdd, Nat.reduceSub, endD])
  refine i_chkent rfl hp.folk ?_
  repeat' (first | trivial | dsimp only [wMakeP, makeP, wCallP, callP, wMethP, permL_nil, permL_cons, wProp, wIxI, wLockE, wiDk, wFld, wStar, wFmt, wFs, wJs, wDn, Bool.not_true, Bool.not_false, wChain, wAndV, wOrV, wNotV, wIsT, id, wNeg, wPar, wTpo, st2, st3, wFg, wFg0, puts, wip, rst, isOw, if_ff, if_tt, List.getElem?_cons_zero, List.getElem?_cons_succ, List.getElem?_nil, wSeq, wAsg, wOp, wC, wCB, wCons, wNil, wRet, wIfS, wB, wNext, wIf, wCall, wDrop, wTup, wLst, wM, wM0, wSl, wSlS, wP, wNoP, wiR1, wiR2, wiIt, wiEn, wTru, wAnd, wOr, wNot, wFor, rd_int, rd_str, rd_bl, rd_non, rd_tup, rd_lf, rd_lt, rd_df, rd_dt, rd_if, rd_it, rd_scr, startD, fz, List.map, List.length, List.replicate, List.append, List.set_cons_zero, List.set_cons_succ, Int.reduceToNat, List.cons_append, List.nil_append, Nat.reduceAdd, Nat.reduceSub, endD])
  refine i_chkmat rfl rfl hp.folk hp.games hp.gge hp.gle ?_
  repeat' (first | trivial | dsimp only [wMakeP, makeP, wCallP, callP, wMethP, permL_nil, permL_cons, wProp, wIxI, wLockE, wiDk, wFld, wStar, wFmt, wFs, wJs, wDn, Bool.not_true, Bool.not_false, wChain, wAndV, wOrV, wNotV, wIsT, id, wNeg, wPar, wTpo, st2, st3, wFg, wFg0, puts, wip, rst, isOw, if_ff, if_tt, List.getElem?_cons_zero, List.getElem?_cons_succ, List.getElem?_nil, wSeq, wAsg, wOp, wC, wCB, wCons, wNil, wRet, wIfS, wB, wNext, wIf, wCall, wDrop, wTup, wLst, wM, wM0, wSl, wSlS, wP, wNoP, wiR1, wiR2, wiIt, wiEn, wTru, wAnd, wOr, wNot, wFor, rd_int, rd_str, rd_bl, rd_non, rd_tup, rd_lf, rd_lt, rd_df, rd_dt, rd_if, rd_it, rd_scr, startD, fz, List.map, List.length, List.replicate, List.append, List.set_cons_zero, List.set_cons_succ, Int.reduceToNat, List.cons_append, List.nil_append, Nat.reduceAdd, Nat.reduceSub, endD])
  refine i_chkpla rfl rfl hp.pne0 hp.pne hp.plc hp.srcsE.nd (by have := hp.elen; have := hp.folk.le; show p.ends.length ≤ 100; omega) ?_
  repeat' (first | trivial | dsimp only [wMakeP, makeP, wCallP, callP, wMethP, permL_nil, permL_cons, wProp, wIxI, wLockE, wiDk, wFld, wStar, wFmt, wFs, wJs, wDn, Bool.not_true, Bool.not_false, wChain, wAndV, wOrV, wNotV, wIsT, id, wNeg, wPar, wTpo, st2, st3, wFg, wFg0, puts, wip, rst, isOw, if_ff, if_tt, List.getElem?_cons_zero, List.getElem?_cons_succ, List.getElem?_nil, wSeq, wAsg, wOp, wC, wCB, wCons, wNil, wRet, wIfS, wB, wNext, wIf, wCall, wDrop, wTup, wLst, wM, wM0, wSl, wSlS, wP, wNoP, wiR1, wiR2, wiIt, wiEn, wTru, wAnd, wOr, wNot, wFor, rd_int, rd_str, rd_bl, rd_non, rd_tup, rd_lf, rd_lt, rd_df, rd_dt, rd_if, rd_it, rd_scr, startD, fz, List.map, List.length, List.replicate, List.append, List.set_cons_zero, List.set_cons_succ, Int.reduceToNat, List.cons_append, List.nil_append, Nat.reduceAdd, Nat.reduceSub, endD])
  refine i_chkkno rfl rfl hp.folk hp.fle hp.fnd hp.fok ?_
  repeat' (first | trivial | dsimp only [wMakeP, makeP, wCallP, callP, wMethP, permL_nil, permL_cons, wProp, wIxI, wLockE, wiDk, wFld, wStar, wFmt, wFs, wJs, wDn, Bool.not_true, Bool.not_false, wChain, wAndV, wOrV, wNotV, wIsT, id, wNeg, wPar, wTpo, st2, st3, wFg, wFg0, puts, wip, rst, isOw, if_ff, if_tt, List.getElem?_cons_zero, List.getElem?_cons_succ, List.getElem?_nil, wSeq, wAsg, wOp, wC, wCB, wCons, wNil, wRet, wIfS, wB, wNext, wIf, wCall, wDrop, wTup, wLst, wM, wM0, wSl, wSlS, wP, wNoP, wiR1, wiR2, wiIt, wiEn, wTru, wAnd, wOr, wNot, wFor, rd_int, rd_str, rd_bl, rd_non, rd_tup, rd_lf, rd_lt, rd_df, rd_dt, rd_if, rd_it, rd_scr, startD, fz, List.map, List.length, List.replicate, List.append, List.set_cons_zero, List.set_cons_succ, Int.reduceToNat, List.cons_append, List.nil_append, Nat.reduceAdd, Nat.reduceSub, endD])
  refine i_allfacts rfl rfl hp.folk (fun f hf => hp.fmem hf) (by have := hp.fle; omega) ?_
  repeat' (first | trivial | dsimp only [wMakeP, makeP, wCallP, callP, wMethP, permL_nil, permL_cons, wProp, wIxI, wLockE, wiDk, wFld, wStar, wFmt, wFs, wJs, wDn, Bool.not_true, Bool.not_false, wChain, wAndV, wOrV, wNotV, wIsT, id, wNeg, wPar, wTpo, st2, st3, wFg, wFg0, puts, wip, rst, isOw, if_ff, if_tt, List.getElem?_cons_zero, List.getElem?_cons_succ, List.getElem?_nil, wSeq, wAsg, wOp, wC, wCB, wCons, wNil, wRet, wIfS, wB, wNext, wIf, wCall, wDrop, wTup, wLst, wM, wM0, wSl, wSlS, wP, wNoP, wiR1, wiR2, wiIt, wiEn, wTru, wAnd, wOr, wNot, wFor, rd_int, rd_str, rd_bl, rd_non, rd_tup, rd_lf, rd_lt, rd_df, rd_dt, rd_if, rd_it, rd_scr, startD, fz, List.map, List.length, List.replicate, List.append, List.set_cons_zero, List.set_cons_succ, Int.reduceToNat, List.cons_append, List.nil_append, Nat.reduceAdd, Nat.reduceSub, endD])
  exact ⟨_, rfl, h⟩
def w_Plan_entries (Ex : DXs) : WS :=
  (wRet (wFld "Plan" "held_entries" (wVar 0)))
def w_Plan_matches (Ex : DXs) : WS :=
  (wRet (wFld "Plan" "held_matches" (wVar 0)))
def w_Plan_places (Ex : DXs) : WS :=
  (wRet (wFld "Plan" "held_places" (wVar 0)))
def w_Plan_known (Ex : DXs) : WS :=
  (wRet (wFld "Plan" "held_known" (wVar 0)))
def sp_Plan_entries : Spd := fun ds Q _ => ∃ p, ds = [ePlan false p] ∧ Q (eP p.folk) []
def sp_Plan_matches : Spd := fun ds Q _ => ∃ p, ds = [ePlan false p] ∧ Q (eGames p) []
def sp_Plan_places : Spd := fun ds Q _ => ∃ p, ds = [ePlan false p] ∧ Q (ePlaces p) []
def sp_Plan_known : Spd := fun ds Q _ => ∃ p, ds = [ePlan false p] ∧ Q (eFacts p) []
theorem hw_Plan_entries (ds : List D) (Qd : D → List D → Prop) (Ed : DX) (h : sp_Plan_entries ds Qd Ed) : w_Plan_entries (fun c fs xs _ => Ed c fs xs) (endD [] Qd) (startD ["self"] ds) := by
  obtain ⟨p, rfl, h⟩ := h
  unfold w_Plan_entries
  repeat' (first | trivial | dsimp only [wMakeP, makeP, wCallP, callP, wMethP, permL_nil, permL_cons, wProp, wIxI, wLockE, wiDk, wFld, wStar, wFmt, wFs, wJs, wDn, Bool.not_true, Bool.not_false, wChain, wAndV, wOrV, wNotV, wIsT, id, wNeg, wPar, wTpo, st2, st3, wFg, wFg0, puts, wip, rst, isOw, if_ff, if_tt, List.getElem?_cons_zero, List.getElem?_cons_succ, List.getElem?_nil, wSeq, wAsg, wOp, wC, wCB, wCons, wNil, wRet, wIfS, wB, wNext, wIf, wCall, wDrop, wTup, wLst, wM, wM0, wSl, wSlS, wP, wNoP, wiR1, wiR2, wiIt, wiEn, wTru, wAnd, wOr, wNot, wFor, rd_int, rd_str, rd_bl, rd_non, rd_tup, rd_lf, rd_lt, rd_df, rd_dt, rd_if, rd_it, rd_scr, startD, fz, List.map, List.length, List.replicate, List.append, List.set_cons_zero, List.set_cons_succ, Int.reduceToNat, List.cons_append, List.nil_append, Nat.reduceAdd, Nat.reduceSub, endD])
theorem hw_Plan_matches (ds : List D) (Qd : D → List D → Prop) (Ed : DX) (h : sp_Plan_matches ds Qd Ed) : w_Plan_matches (fun c fs xs _ => Ed c fs xs) (endD [] Qd) (startD ["self"] ds) := by
  obtain ⟨p, rfl, h⟩ := h
  unfold w_Plan_matches
  repeat' (first | trivial | dsimp only [wMakeP, makeP, wCallP, callP, wMethP, permL_nil, permL_cons, wProp, wIxI, wLockE, wiDk, wFld, wStar, wFmt, wFs, wJs, wDn, Bool.not_true, Bool.not_false, wChain, wAndV, wOrV, wNotV, wIsT, id, wNeg, wPar, wTpo, st2, st3, wFg, wFg0, puts, wip, rst, isOw, if_ff, if_tt, List.getElem?_cons_zero, List.getElem?_cons_succ, List.getElem?_nil, wSeq, wAsg, wOp, wC, wCB, wCons, wNil, wRet, wIfS, wB, wNext, wIf, wCall, wDrop, wTup, wLst, wM, wM0, wSl, wSlS, wP, wNoP, wiR1, wiR2, wiIt, wiEn, wTru, wAnd, wOr, wNot, wFor, rd_int, rd_str, rd_bl, rd_non, rd_tup, rd_lf, rd_lt, rd_df, rd_dt, rd_if, rd_it, rd_scr, startD, fz, List.map, List.length, List.replicate, List.append, List.set_cons_zero, List.set_cons_succ, Int.reduceToNat, List.cons_append, List.nil_append, Nat.reduceAdd, Nat.reduceSub, endD])
theorem hw_Plan_places (ds : List D) (Qd : D → List D → Prop) (Ed : DX) (h : sp_Plan_places ds Qd Ed) : w_Plan_places (fun c fs xs _ => Ed c fs xs) (endD [] Qd) (startD ["self"] ds) := by
  obtain ⟨p, rfl, h⟩ := h
  unfold w_Plan_places
  repeat' (first | trivial | dsimp only [wMakeP, makeP, wCallP, callP, wMethP, permL_nil, permL_cons, wProp, wIxI, wLockE, wiDk, wFld, wStar, wFmt, wFs, wJs, wDn, Bool.not_true, Bool.not_false, wChain, wAndV, wOrV, wNotV, wIsT, id, wNeg, wPar, wTpo, st2, st3, wFg, wFg0, puts, wip, rst, isOw, if_ff, if_tt, List.getElem?_cons_zero, List.getElem?_cons_succ, List.getElem?_nil, wSeq, wAsg, wOp, wC, wCB, wCons, wNil, wRet, wIfS, wB, wNext, wIf, wCall, wDrop, wTup, wLst, wM, wM0, wSl, wSlS, wP, wNoP, wiR1, wiR2, wiIt, wiEn, wTru, wAnd, wOr, wNot, wFor, rd_int, rd_str, rd_bl, rd_non, rd_tup, rd_lf, rd_lt, rd_df, rd_dt, rd_if, rd_it, rd_scr, startD, fz, List.map, List.length, List.replicate, List.append, List.set_cons_zero, List.set_cons_succ, Int.reduceToNat, List.cons_append, List.nil_append, Nat.reduceAdd, Nat.reduceSub, endD])
theorem hw_Plan_known (ds : List D) (Qd : D → List D → Prop) (Ed : DX) (h : sp_Plan_known ds Qd Ed) : w_Plan_known (fun c fs xs _ => Ed c fs xs) (endD [] Qd) (startD ["self"] ds) := by
  obtain ⟨p, rfl, h⟩ := h
  unfold w_Plan_known
  repeat' (first | trivial | dsimp only [wMakeP, makeP, wCallP, callP, wMethP, permL_nil, permL_cons, wProp, wIxI, wLockE, wiDk, wFld, wStar, wFmt, wFs, wJs, wDn, Bool.not_true, Bool.not_false, wChain, wAndV, wOrV, wNotV, wIsT, id, wNeg, wPar, wTpo, st2, st3, wFg, wFg0, puts, wip, rst, isOw, if_ff, if_tt, List.getElem?_cons_zero, List.getElem?_cons_succ, List.getElem?_nil, wSeq, wAsg, wOp, wC, wCB, wCons, wNil, wRet, wIfS, wB, wNext, wIf, wCall, wDrop, wTup, wLst, wM, wM0, wSl, wSlS, wP, wNoP, wiR1, wiR2, wiIt, wiEn, wTru, wAnd, wOr, wNot, wFor, rd_int, rd_str, rd_bl, rd_non, rd_tup, rd_lf, rd_lt, rd_df, rd_dt, rd_if, rd_it, rd_scr, startD, fz, List.map, List.length, List.replicate, List.append, List.set_cons_zero, List.set_cons_succ, Int.reduceToNat, List.cons_append, List.nil_append, Nat.reduceAdd, Nat.reduceSub, endD])
def w_Plan__len_ (Ex : DXs) : WS :=
  (wRet (wCB nLen (wCons (wFld "Plan" "held_matches" (wVar 0)) wNil)))
def sp_Plan__len_ : Spd := fun ds Q _ => ∃ p, ds = [ePlan false p] ∧ Q (.int (p.games.length : Nat)) []
theorem hw_Plan__len_ (ds : List D) (Qd : D → List D → Prop) (Ed : DX) (h : sp_Plan__len_ ds Qd Ed) : w_Plan__len_ (fun c fs xs _ => Ed c fs xs) (endD [] Qd) (startD ["self"] ds) := by
  obtain ⟨p, rfl, h⟩ := h
  unfold w_Plan__len_
  all_goals
    repeat' (first | trivial | dsimp only [wMakeP, makeP, wCallP, callP, wMethP, permL_nil, permL_cons, wProp, wIxI, wLockE, wiDk, wFld, wStar, wFmt, wFs, wJs, wDn, Bool.not_true, Bool.not_false, wChain, wAndV, wOrV, wNotV, wIsT, id, wNeg, wPar, wTpo, st2, st3, wFg, wFg0, puts, wip, rst, isOw, if_ff, if_tt, List.getElem?_cons_zero, List.getElem?_cons_succ, List.getElem?_nil, wSeq, wAsg, wOp, wC, wCB, wCons, wNil, wRet, wIfS, wB, wNext, wIf, wCall, wDrop, wTup, wLst, wM, wM0, wSl, wSlS, wP, wNoP, wiR1, wiR2, wiIt, wiEn, wTru, wAnd, wOr, wNot, wFor, rd_int, rd_str, rd_bl, rd_non, rd_tup, rd_lf, rd_lt, rd_df, rd_dt, rd_if, rd_it, rd_scr, startD, fz, List.map, List.length, List.replicate, List.append, List.set_cons_zero, List.set_cons_succ, Int.reduceToNat, List.cons_append, List.nil_append, Nat.reduceAdd, Nat.reduceSub, endD])
    rw [List.length_map]
    exact h
def w_Plan__bool_ (Ex : DXs) : WS :=
  (wRet (wC (.bl true)))
def sp_Plan__bool_ : Spd := fun ds Q _ => ∃ p, ds = [ePlan false p] ∧ Q (.bl true) []
theorem hw_Plan__bool_ (ds : List D) (Qd : D → List D → Prop) (Ed : DX) (h : sp_Plan__bool_ ds Qd Ed) : w_Plan__bool_ (fun c fs xs _ => Ed c fs xs) (endD [] Qd) (startD ["self"] ds) := by
  obtain ⟨p, rfl, h⟩ := h
  unfold w_Plan__bool_
  repeat' (first | trivial | dsimp only [wMakeP, makeP, wCallP, callP, wMethP, permL_nil, permL_cons, wProp, wIxI, wLockE, wiDk, wFld, wStar, wFmt, wFs, wJs, wDn, Bool.not_true, Bool.not_false, wChain, wAndV, wOrV, wNotV, wIsT, id, wNeg, wPar, wTpo, st2, st3, wFg, wFg0, puts, wip, rst, isOw, if_ff, if_tt, List.getElem?_cons_zero, List.getElem?_cons_succ, List.getElem?_nil, wSeq, wAsg, wOp, wC, wCB, wCons, wNil, wRet, wIfS, wB, wNext, wIf, wCall, wDrop, wTup, wLst, wM, wM0, wSl, wSlS, wP, wNoP, wiR1, wiR2, wiIt, wiEn, wTru, wAnd, wOr, wNot, wFor, rd_int, rd_str, rd_bl, rd_non, rd_tup, rd_lf, rd_lt, rd_df, rd_dt, rd_if, rd_it, rd_scr, startD, fz, List.map, List.length, List.replicate, List.append, List.set_cons_zero, List.set_cons_succ, Int.reduceToNat, List.cons_append, List.nil_append, Nat.reduceAdd, Nat.reduceSub, endD])
def w_Plan__getitem__r1 (Ex : DXs) : WS :=
  wNever
def w_Plan__getitem_ (Ex : DXs) : WS :=
  (wSeq (wFg [2, 3, 4] (wFg0 [2, 3, 4] (wFor (wiIt (wFld "Plan" "held_matches" (wVar 0))) (gUnp 3 (wgCons (gFz 2) (wgCons (gFz 3) (wgCons (gFz 4) wgNil))))
  (wFg [2, 3, 4] (wIfS (wAnd (wTru (wIsT "str" (wVar 1))) (wB (wOp oEq (wVar 2) (wVar 1)))) (wRet (wTup (wCons (wVar 3) (wCons (wVar 4) wNil)))) wNext)))))
  (w_Plan__getitem__r1 Ex))
def sp_Plan__getitem_ : Spd := fun ds Q _ => ∃ p g, ds = [ePlan false p, .str g.1] ∧ PlanOk p ∧ g ∈ p.games ∧ Q (.tup [.str g.2.1, .str g.2.2]) []
theorem hw_Plan__getitem_ (ds : List D) (Qd : D → List D → Prop) (Ed : DX) (h : sp_Plan__getitem_ ds Qd Ed) : w_Plan__getitem_ (fun c fs xs _ => Ed c fs xs) (endD [] Qd) (startD ["self", "name", "own", "one", "other"] ds) := by
  obtain ⟨p, g, rfl, hp, hg, h⟩ := h
  unfold w_Plan__getitem_
  have hnd : (p.games.map (·.1)).Nodup := (List.nodup_append.mp hp.names).2.1
  all_goals
    repeat' (first | trivial | dsimp only [w_Plan__getitem__r1, wMakeP, makeP, wCallP, callP, wMethP, permL_nil, permL_cons, wProp, wIxI, wLockE, wiDk, wFld, wStar, wFmt, wFs, wJs, wDn, Bool.not_true, Bool.not_false, wChain, wAndV, wOrV, wNotV, wIsT, id, wNeg, wPar, wTpo, st2, st3, wFg, wFg0, puts, wip, rst, isOw, if_ff, if_tt, List.getElem?_cons_zero, List.getElem?_cons_succ, List.getElem?_nil, wSeq, wAsg, wOp, wC, wCB, wCons, wNil, wRet, wIfS, wB, wNext, wIf, wCall, wDrop, wTup, wLst, wM, wM0, wSl, wSlS, wP, wNoP, wiR1, wiR2, wiIt, wiEn, wTru, wAnd, wOr, wNot, wFor, rd_int, rd_str, rd_bl, rd_non, rd_tup, rd_lf, rd_lt, rd_df, rd_dt, rd_if, rd_it, rd_scr, startD, fz, List.map, List.length, List.replicate, List.append, List.set_cons_zero, List.set_cons_succ, Int.reduceToNat, List.cons_append, List.nil_append, Nat.reduceAdd, Nat.reduceSub, endD])
    refine ⟨fun i ρ => ρ = [some (ePlan false p), some (.str g.1), none, none, none] ∧ g ∈ p.games.drop i, ⟨rfl, hg⟩, ?_, ?_⟩
    · rintro i d ρ hd ⟨rfl, hgi⟩
      rw [List.getElem?_map] at hd
      obtain ⟨x, hx, rfl⟩ := Option.map_eq_some_iff.mp hd
      obtain ⟨hi, ex⟩ := List.getElem?_eq_some_iff.mp hx
      rw [List.drop_eq_getElem_cons hi, ex] at hgi
      repeat' (first | trivial | dsimp only [w_Plan__getitem__r1, wMakeP, makeP, wCallP, callP, wMethP, permL_nil, permL_cons, wProp, wIxI, wLockE, wiDk, wFld, wStar, wFmt, wFs, wJs, wDn, Bool.not_true, Bool.not_false, wChain, wAndV, wOrV, wNotV, wIsT, id, wNeg, wPar, wTpo, st2, st3, wFg, wFg0, puts, wip, rst, isOw, if_ff, if_tt, List.getElem?_cons_zero, List.getElem?_cons_succ, List.getElem?_nil, wSeq, wAsg, wOp, wC, wCB, wCons, wNil, wRet, wIfS, wB, wNext, wIf, wCall, wDrop, wTup, wLst, wM, wM0, wSl, wSlS, wP, wNoP, wiR1, wiR2, wiIt, wiEn, wTru, wAnd, wOr, wNot, wFor, rd_int, rd_str, rd_bl, rd_non, rd_tup, rd_lf, rd_lt, rd_df, rd_dt, rd_if, rd_it, rd_scr, startD, fz, List.map, List.length, List.replicate, List.append, List.set_cons_zero, List.set_cons_succ, Int.reduceToNat, List.cons_append, List.nil_append, Nat.reduceAdd, Nat.reduceSub, endD])
      · rename_i hc
        have : x = g := by
          rcases List.mem_cons.mp hgi with z | z
          · exact z.symm
          · exfalso
            have h2 : p.games.map (·.1) = (p.games.take i).map (·.1) ++ (x.1 :: (p.games.drop (i + 1)).map (·.1)) := by
              rw [← List.map_cons, ← List.map_append, ← ex, ← List.drop_eq_getElem_cons hi, List.take_append_drop]
            rw [h2] at hnd
            have h3 := (List.nodup_cons.mp (List.nodup_append.mp hnd).2.1).1
            exact h3 (hc ▸ List.mem_map.mpr ⟨g, z, rfl⟩)
        subst this
        exact h
      · rename_i hc
        refine ⟨rfl, ?_⟩
        rcases List.mem_cons.mp hgi with z | z
        · exact absurd (by rw [z]) hc
        · exact z
    · rintro ρ ⟨rfl, hgi⟩
      rw [List.length_map, List.drop_length] at hgi
      cases hgi
def w_Plan__str__r3 (Ex : DXs) : WS :=
  (wRet (wM "str" nJoin (wC (.str "\n")) (wCons (wVar 1) wNil)))
def w_Plan__str_ (Ex : DXs) : WS :=
  (wSeq (wAsg (wLst (wCons (wM "str" nJoin (wC (.str " ")) (wCons (wLst (wCons (wC (.str "entries")) (wStar (wFld "Plan" "held_entries" (wVar 0)) wNil))) wNil)) (wStar (wLc (wiIt (wFld "Plan" "held_matches" (wVar 0))) (gFz 2) wYes (wM "str" nJoin (wC (.str " ")) (wCons (wVar 2) wNil)) [2]) wNil))) (gOw 1))
  (wSeq (wDrop (wM "list" nApp (wVar 1) (wCons (wOp oAdd (wC (.str "places ")) (wM "str" nJoin (wC (.str " / ")) (wCons (wLc (wiIt (wFld "Plan" "held_places" (wVar 0))) (gFz 3) wYes (wM "str" nJoin (wC (.str " ")) (wCons (wVar 3) wNil)) [3]) wNil))) wNil)))
  (wSeq (wIfS (wB (wOp oNe (wFld "Plan" "held_known" (wVar 0)) (wTup wNil))) (wDrop (wM "list" nApp (wVar 1) (wCons (wM "str" nJoin (wC (.str " ")) (wCons (wLst (wCons (wC (.str "known")) (wStar (wLc (wiIt (wFld "Plan" "held_known" (wVar 0))) (gUnp 2 (wgCons (gFz 4) (wgCons (gFz 5) wgNil))) wYes (wFs [(wFmt (wVar 4)), (wC (.str ">")), (wFmt (wVar 5))]) [4, 5]) wNil))) wNil)) wNil))) wNext)
  (w_Plan__str__r3 Ex))))
def sp_Plan__str_ : Spd := fun ds Q _ => ∃ p, ds = [ePlan false p] ∧ PlanOk p ∧ Q (.str (textOf p)) []
theorem hw_Plan__str_ (ds : List D) (Qd : D → List D → Prop) (Ed : DX) (h : sp_Plan__str_ ds Qd Ed) : w_Plan__str_ (fun c fs xs _ => Ed c fs xs) (endD [] Qd) (startD ["self", "rows", "match", "group", "high", "low"] ds) := by
  obtain ⟨p, rfl, hp, h⟩ := h
  have h1 := hp.gle
  have h2 := hp.fle
  have h3 := hp.folk.le
  have h4 := hp.plen.1
  unfold w_Plan__str_
  all_goals
    repeat' (first | trivial | dsimp only [w_Plan__str__r3, wMakeP, makeP, wCallP, callP, wMethP, permL_nil, permL_cons, wProp, wIxI, wLockE, wiDk, wFld, wStar, wFmt, wFs, wJs, wDn, Bool.not_true, Bool.not_false, wChain, wAndV, wOrV, wNotV, wIsT, id, wNeg, wPar, wTpo, st2, st3, wFg, wFg0, puts, wip, rst, isOw, if_ff, if_tt, List.getElem?_cons_zero, List.getElem?_cons_succ, List.getElem?_nil, wSeq, wAsg, wOp, wC, wCB, wCons, wNil, wRet, wIfS, wB, wNext, wIf, wCall, wDrop, wTup, wLst, wM, wM0, wSl, wSlS, wP, wNoP, wiR1, wiR2, wiIt, wiEn, wTru, wAnd, wOr, wNot, wFor, rd_int, rd_str, rd_bl, rd_non, rd_tup, rd_lf, rd_lt, rd_df, rd_dt, rd_if, rd_it, rd_scr, startD, fz, List.map, List.length, List.replicate, List.append, List.set_cons_zero, List.set_cons_succ, Int.reduceToNat, List.cons_append, List.nil_append, Nat.reduceAdd, Nat.reduceSub, endD])
    refine i_dispS (("entries" : Str) :: p.folk) (by rw [List.append_nil]; rfl) (by rw [List.length_cons]; omega) ?_
    repeat' (first | trivial | dsimp only [w_Plan__str__r3, wMakeP, makeP, wCallP, callP, wMethP, permL_nil, permL_cons, wProp, wIxI, wLockE, wiDk, wFld, wStar, wFmt, wFs, wJs, wDn, Bool.not_true, Bool.not_false, wChain, wAndV, wOrV, wNotV, wIsT, id, wNeg, wPar, wTpo, st2, st3, wFg, wFg0, puts, wip, rst, isOw, if_ff, if_tt, List.getElem?_cons_zero, List.getElem?_cons_succ, List.getElem?_nil, wSeq, wAsg, wOp, wC, wCB, wCons, wNil, wRet, wIfS, wB, wNext, wIf, wCall, wDrop, wTup, wLst, wM, wM0, wSl, wSlS, wP, wNoP, wiR1, wiR2, wiIt, wiEn, wTru, wAnd, wOr, wNot, wFor, rd_int, rd_str, rd_bl, rd_non, rd_tup, rd_lf, rd_lt, rd_df, rd_dt, rd_if, rd_it, rd_scr, startD, fz, List.map, List.length, List.replicate, List.append, List.set_cons_zero, List.set_cons_succ, Int.reduceToNat, List.cons_append, List.nil_append, Nat.reduceAdd, Nat.reduceSub, endD])
    refine i_join (("entries" : Str) :: p.folk) rfl rfl rfl (Nat.le_trans hp.entries_le.1 (by omega)) ?_
    repeat' (first | trivial | dsimp only [w_Plan__str__r3, wMakeP, makeP, wCallP, callP, wMethP, permL_nil, permL_cons, wProp, wIxI, wLockE, wiDk, wFld, wStar, wFmt, wFs, wJs, wDn, Bool.not_true, Bool.not_false, wChain, wAndV, wOrV, wNotV, wIsT, id, wNeg, wPar, wTpo, st2, st3, wFg, wFg0, puts, wip, rst, isOw, if_ff, if_tt, List.getElem?_cons_zero, List.getElem?_cons_succ, List.getElem?_nil, wSeq, wAsg, wOp, wC, wCB, wCons, wNil, wRet, wIfS, wB, wNext, wIf, wCall, wDrop, wTup, wLst, wM, wM0, wSl, wSlS, wP, wNoP, wiR1, wiR2, wiIt, wiEn, wTru, wAnd, wOr, wNot, wFor, rd_int, rd_str, rd_bl, rd_non, rd_tup, rd_lf, rd_lt, rd_df, rd_dt, rd_if, rd_it, rd_scr, startD, fz, List.map, List.length, List.replicate, List.append, List.set_cons_zero, List.set_cons_succ, Int.reduceToNat, List.cons_append, List.nil_append, Nat.reduceAdd, Nat.reduceSub, endD])
    refine i_lcM p.games eG (fun g => .str (gameRow g)) rfl (by omega) (fun g hg P h => ?_) ?_
    · repeat' (first | trivial | dsimp only [w_Plan__str__r3, wMakeP, makeP, wCallP, callP, wMethP, permL_nil, permL_cons, wProp, wIxI, wLockE, wiDk, wFld, wStar, wFmt, wFs, wJs, wDn, Bool.not_true, Bool.not_false, wChain, wAndV, wOrV, wNotV, wIsT, id, wNeg, wPar, wTpo, st2, st3, wFg, wFg0, puts, wip, rst, isOw, if_ff, if_tt, List.getElem?_cons_zero, List.getElem?_cons_succ, List.getElem?_nil, wSeq, wAsg, wOp, wC, wCB, wCons, wNil, wRet, wIfS, wB, wNext, wIf, wCall, wDrop, wTup, wLst, wM, wM0, wSl, wSlS, wP, wNoP, wiR1, wiR2, wiIt, wiEn, wTru, wAnd, wOr, wNot, wFor, rd_int, rd_str, rd_bl, rd_non, rd_tup, rd_lf, rd_lt, rd_df, rd_dt, rd_if, rd_it, rd_scr, startD, fz, List.map, List.length, List.replicate, List.append, List.set_cons_zero, List.set_cons_succ, Int.reduceToNat, List.cons_append, List.nil_append, Nat.reduceAdd, Nat.reduceSub, endD])
      refine i_join [g.1, g.2.1, g.2.2] rfl rfl rfl (Nat.le_trans (hp.game_le hg).1 (by omega)) ?_
      repeat' (first | trivial | dsimp only [w_Plan__str__r3, wMakeP, makeP, wCallP, callP, wMethP, permL_nil, permL_cons, wProp, wIxI, wLockE, wiDk, wFld, wStar, wFmt, wFs, wJs, wDn, Bool.not_true, Bool.not_false, wChain, wAndV, wOrV, wNotV, wIsT, id, wNeg, wPar, wTpo, st2, st3, wFg, wFg0, puts, wip, rst, isOw, if_ff, if_tt, List.getElem?_cons_zero, List.getElem?_cons_succ, List.getElem?_nil, wSeq, wAsg, wOp, wC, wCB, wCons, wNil, wRet, wIfS, wB, wNext, wIf, wCall, wDrop, wTup, wLst, wM, wM0, wSl, wSlS, wP, wNoP, wiR1, wiR2, wiIt, wiEn, wTru, wAnd, wOr, wNot, wFor, rd_int, rd_str, rd_bl, rd_non, rd_tup, rd_lf, rd_lt, rd_df, rd_dt, rd_if, rd_it, rd_scr, startD, fz, List.map, List.length, List.replicate, List.append, List.set_cons_zero, List.set_cons_succ, Int.reduceToNat, List.cons_append, List.nil_append, Nat.reduceAdd, Nat.reduceSub, endD])
    repeat' (first | trivial | dsimp only [w_Plan__str__r3, wMakeP, makeP, wCallP, callP, wMethP, permL_nil, permL_cons, wProp, wIxI, wLockE, wiDk, wFld, wStar, wFmt, wFs, wJs, wDn, Bool.not_true, Bool.not_false, wChain, wAndV, wOrV, wNotV, wIsT, id, wNeg, wPar, wTpo, st2, st3, wFg, wFg0, puts, wip, rst, isOw, if_ff, if_tt, List.getElem?_cons_zero, List.getElem?_cons_succ, List.getElem?_nil, wSeq, wAsg, wOp, wC, wCB, wCons, wNil, wRet, wIfS, wB, wNext, wIf, wCall, wDrop, wTup, wLst, wM, wM0, wSl, wSlS, wP, wNoP, wiR1, wiR2, wiIt, wiEn, wTru, wAnd, wOr, wNot, wFor, rd_int, rd_str, rd_bl, rd_non, rd_tup, rd_lf, rd_lt, rd_df, rd_dt, rd_if, rd_it, rd_scr, startD, fz, List.map, List.length, List.replicate, List.append, List.set_cons_zero, List.set_cons_succ, Int.reduceToNat, List.cons_append, List.nil_append, Nat.reduceAdd, Nat.reduceSub, endD])
    refine i_dispS (entriesRow p.folk :: p.games.map gameRow) (by rw [List.append_nil, List.map_cons, List.map_map]; rfl) (by rw [List.length_cons, List.length_map]; omega) ?_
    repeat' (first | trivial | dsimp only [w_Plan__str__r3, wMakeP, makeP, wCallP, callP, wMethP, permL_nil, permL_cons, wProp, wIxI, wLockE, wiDk, wFld, wStar, wFmt, wFs, wJs, wDn, Bool.not_true, Bool.not_false, wChain, wAndV, wOrV, wNotV, wIsT, id, wNeg, wPar, wTpo, st2, st3, wFg, wFg0, puts, wip, rst, isOw, if_ff, if_tt, List.getElem?_cons_zero, List.getElem?_cons_succ, List.getElem?_nil, wSeq, wAsg, wOp, wC, wCB, wCons, wNil, wRet, wIfS, wB, wNext, wIf, wCall, wDrop, wTup, wLst, wM, wM0, wSl, wSlS, wP, wNoP, wiR1, wiR2, wiIt, wiEn, wTru, wAnd, wOr, wNot, wFor, rd_int, rd_str, rd_bl, rd_non, rd_tup, rd_lf, rd_lt, rd_df, rd_dt, rd_if, rd_it, rd_scr, startD, fz, List.map, List.length, List.replicate, List.append, List.set_cons_zero, List.set_cons_succ, Int.reduceToNat, List.cons_append, List.nil_append, Nat.reduceAdd, Nat.reduceSub, endD])
    refine i_lcM p.places eP (fun g => .str (jn " " g)) rfl (by omega) (fun g hg P h => ?_) ?_
    · repeat' (first | trivial | dsimp only [w_Plan__str__r3, wMakeP, makeP, wCallP, callP, wMethP, permL_nil, permL_cons, wProp, wIxI, wLockE, wiDk, wFld, wStar, wFmt, wFs, wJs, wDn, Bool.not_true, Bool.not_false, wChain, wAndV, wOrV, wNotV, wIsT, id, wNeg, wPar, wTpo, st2, st3, wFg, wFg0, puts, wip, rst, isOw, if_ff, if_tt, List.getElem?_cons_zero, List.getElem?_cons_succ, List.getElem?_nil, wSeq, wAsg, wOp, wC, wCB, wCons, wNil, wRet, wIfS, wB, wNext, wIf, wCall, wDrop, wTup, wLst, wM, wM0, wSl, wSlS, wP, wNoP, wiR1, wiR2, wiIt, wiEn, wTru, wAnd, wOr, wNot, wFor, rd_int, rd_str, rd_bl, rd_non, rd_tup, rd_lf, rd_lt, rd_df, rd_dt, rd_if, rd_it, rd_scr, startD, fz, List.map, List.length, List.replicate, List.append, List.set_cons_zero, List.set_cons_succ, Int.reduceToNat, List.cons_append, List.nil_append, Nat.reduceAdd, Nat.reduceSub, endD])
      refine i_join g rfl rfl rfl (Nat.le_trans (hp.group_le hg).1 (by omega)) ?_
      repeat' (first | trivial | dsimp only [w_Plan__str__r3, wMakeP, makeP, wCallP, callP, wMethP, permL_nil, permL_cons, wProp, wIxI, wLockE, wiDk, wFld, wStar, wFmt, wFs, wJs, wDn, Bool.not_true, Bool.not_false, wChain, wAndV, wOrV, wNotV, wIsT, id, wNeg, wPar, wTpo, st2, st3, wFg, wFg0, puts, wip, rst, isOw, if_ff, if_tt, List.getElem?_cons_zero, List.getElem?_cons_succ, List.getElem?_nil, wSeq, wAsg, wOp, wC, wCB, wCons, wNil, wRet, wIfS, wB, wNext, wIf, wCall, wDrop, wTup, wLst, wM, wM0, wSl, wSlS, wP, wNoP, wiR1, wiR2, wiIt, wiEn, wTru, wAnd, wOr, wNot, wFor, rd_int, rd_str, rd_bl, rd_non, rd_tup, rd_lf, rd_lt, rd_df, rd_dt, rd_if, rd_it, rd_scr, startD, fz, List.map, List.length, List.replicate, List.append, List.set_cons_zero, List.set_cons_succ, Int.reduceToNat, List.cons_append, List.nil_append, Nat.reduceAdd, Nat.reduceSub, endD])
    repeat' (first | trivial | dsimp only [w_Plan__str__r3, wMakeP, makeP, wCallP, callP, wMethP, permL_nil, permL_cons, wProp, wIxI, wLockE, wiDk, wFld, wStar, wFmt, wFs, wJs, wDn, Bool.not_true, Bool.not_false, wChain, wAndV, wOrV, wNotV, wIsT, id, wNeg, wPar, wTpo, st2, st3, wFg, wFg0, puts, wip, rst, isOw, if_ff, if_tt, List.getElem?_cons_zero, List.getElem?_cons_succ, List.getElem?_nil, wSeq, wAsg, wOp, wC, wCB, wCons, wNil, wRet, wIfS, wB, wNext, wIf, wCall, wDrop, wTup, wLst, wM, wM0, wSl, wSlS, wP, wNoP, wiR1, wiR2, wiIt, wiEn, wTru, wAnd, wOr, wNot, wFor, rd_int, rd_str, rd_bl, rd_non, rd_tup, rd_lf, rd_lt, rd_df, rd_dt, rd_if, rd_it, rd_scr, startD, fz, List.map, List.length, List.replicate, List.append, List.set_cons_zero, List.set_cons_succ, Int.reduceToNat, List.cons_append, List.nil_append, Nat.reduceAdd, Nat.reduceSub, endD])
    refine i_join (p.places.map (jn " ")) rfl rfl (by rw [List.map_map]; rfl) (Nat.le_trans hp.places_le.1 (by omega)) ?_
    have h5 : (Str.join " / " (p.places.map (jn " "))).length ≤ 800 := hp.places_le.2
    repeat' (first | trivial | dsimp only [w_Plan__str__r3, wMakeP, makeP, wCallP, callP, wMethP, permL_nil, permL_cons, wProp, wIxI, wLockE, wiDk, wFld, wStar, wFmt, wFs, wJs, wDn, Bool.not_true, Bool.not_false, wChain, wAndV, wOrV, wNotV, wIsT, id, wNeg, wPar, wTpo, st2, st3, wFg, wFg0, puts, wip, rst, isOw, if_ff, if_tt, List.getElem?_cons_zero, List.getElem?_cons_succ, List.getElem?_nil, wSeq, wAsg, wOp, wC, wCB, wCons, wNil, wRet, wIfS, wB, wNext, wIf, wCall, wDrop, wTup, wLst, wM, wM0, wSl, wSlS, wP, wNoP, wiR1, wiR2, wiIt, wiEn, wTru, wAnd, wOr, wNot, wFor, rd_int, rd_str, rd_bl, rd_non, rd_tup, rd_lf, rd_lt, rd_df, rd_dt, rd_if, rd_it, rd_scr, startD, fz, List.map, List.length, List.replicate, List.append, List.set_cons_zero, List.set_cons_succ, Int.reduceToNat, List.cons_append, List.nil_append, Nat.reduceAdd, Nat.reduceSub, endD])
    refine i_neD rfl rfl (hp.gdFacts.shp (by omega)) rfl ?_
    rw [eqD_tnil]
    repeat' (first | trivial | dsimp only [w_Plan__str__r3, wMakeP, makeP, wCallP, callP, wMethP, permL_nil, permL_cons, wProp, wIxI, wLockE, wiDk, wFld, wStar, wFmt, wFs, wJs, wDn, Bool.not_true, Bool.not_false, wChain, wAndV, wOrV, wNotV, wIsT, id, wNeg, wPar, wTpo, st2, st3, wFg, wFg0, puts, wip, rst, isOw, if_ff, if_tt, List.getElem?_cons_zero, List.getElem?_cons_succ, List.getElem?_nil, wSeq, wAsg, wOp, wC, wCB, wCons, wNil, wRet, wIfS, wB, wNext, wIf, wCall, wDrop, wTup, wLst, wM, wM0, wSl, wSlS, wP, wNoP, wiR1, wiR2, wiIt, wiEn, wTru, wAnd, wOr, wNot, wFor, rd_int, rd_str, rd_bl, rd_non, rd_tup, rd_lf, rd_lt, rd_df, rd_dt, rd_if, rd_it, rd_scr, startD, fz, List.map, List.length, List.replicate, List.append, List.set_cons_zero, List.set_cons_succ, Int.reduceToNat, List.cons_append, List.nil_append, Nat.reduceAdd, Nat.reduceSub, endD])
    · rename_i hc
      refine i_lcM p.facts eF (fun f => .str (factW f)) rfl (by omega) (fun f hf P h => ?_) ?_
      · have h6 := hp.fact_le hf
        repeat' (first | trivial | dsimp only [w_Plan__str__r3, wMakeP, makeP, wCallP, callP, wMethP, permL_nil, permL_cons, wProp, wIxI, wLockE, wiDk, wFld, wStar, wFmt, wFs, wJs, wDn, Bool.not_true, Bool.not_false, wChain, wAndV, wOrV, wNotV, wIsT, id, wNeg, wPar, wTpo, st2, st3, wFg, wFg0, puts, wip, rst, isOw, if_ff, if_tt, List.getElem?_cons_zero, List.getElem?_cons_succ, List.getElem?_nil, wSeq, wAsg, wOp, wC, wCB, wCons, wNil, wRet, wIfS, wB, wNext, wIf, wCall, wDrop, wTup, wLst, wM, wM0, wSl, wSlS, wP, wNoP, wiR1, wiR2, wiIt, wiEn, wTru, wAnd, wOr, wNot, wFor, rd_int, rd_str, rd_bl, rd_non, rd_tup, rd_lf, rd_lt, rd_df, rd_dt, rd_if, rd_it, rd_scr, startD, fz, List.map, List.length, List.replicate, List.append, List.set_cons_zero, List.set_cons_succ, Int.reduceToNat, List.cons_append, List.nil_append, Nat.reduceAdd, Nat.reduceSub, endD])
        rw [empty_app]
        repeat' (first | trivial | dsimp only [w_Plan__str__r3, wMakeP, makeP, wCallP, callP, wMethP, permL_nil, permL_cons, wProp, wIxI, wLockE, wiDk, wFld, wStar, wFmt, wFs, wJs, wDn, Bool.not_true, Bool.not_false, wChain, wAndV, wOrV, wNotV, wIsT, id, wNeg, wPar, wTpo, st2, st3, wFg, wFg0, puts, wip, rst, isOw, if_ff, if_tt, List.getElem?_cons_zero, List.getElem?_cons_succ, List.getElem?_nil, wSeq, wAsg, wOp, wC, wCB, wCons, wNil, wRet, wIfS, wB, wNext, wIf, wCall, wDrop, wTup, wLst, wM, wM0, wSl, wSlS, wP, wNoP, wiR1, wiR2, wiIt, wiEn, wTru, wAnd, wOr, wNot, wFor, rd_int, rd_str, rd_bl, rd_non, rd_tup, rd_lf, rd_lt, rd_df, rd_dt, rd_if, rd_it, rd_scr, startD, fz, List.map, List.length, List.replicate, List.append, List.set_cons_zero, List.set_cons_succ, Int.reduceToNat, List.cons_append, List.nil_append, Nat.reduceAdd, Nat.reduceSub, endD])
      repeat' (first | trivial | dsimp only [w_Plan__str__r3, wMakeP, makeP, wCallP, callP, wMethP, permL_nil, permL_cons, wProp, wIxI, wLockE, wiDk, wFld, wStar, wFmt, wFs, wJs, wDn, Bool.not_true, Bool.not_false, wChain, wAndV, wOrV, wNotV, wIsT, id, wNeg, wPar, wTpo, st2, st3, wFg, wFg0, puts, wip, rst, isOw, if_ff, if_tt, List.getElem?_cons_zero, List.getElem?_cons_succ, List.getElem?_nil, wSeq, wAsg, wOp, wC, wCB, wCons, wNil, wRet, wIfS, wB, wNext, wIf, wCall, wDrop, wTup, wLst, wM, wM0, wSl, wSlS, wP, wNoP, wiR1, wiR2, wiIt, wiEn, wTru, wAnd, wOr, wNot, wFor, rd_int, rd_str, rd_bl, rd_non, rd_tup, rd_lf, rd_lt, rd_df, rd_dt, rd_if, rd_it, rd_scr, startD, fz, List.map, List.length, List.replicate, List.append, List.set_cons_zero, List.set_cons_succ, Int.reduceToNat, List.cons_append, List.nil_append, Nat.reduceAdd, Nat.reduceSub, endD])
      refine i_dispS (("known" : Str) :: p.facts.map factW) (by rw [List.append_nil, List.map_cons, List.map_map]; rfl) (by rw [List.length_cons, List.length_map]; omega) ?_
      repeat' (first | trivial | dsimp only [w_Plan__str__r3, wMakeP, makeP, wCallP, callP, wMethP, permL_nil, permL_cons, wProp, wIxI, wLockE, wiDk, wFld, wStar, wFmt, wFs, wJs, wDn, Bool.not_true, Bool.not_false, wChain, wAndV, wOrV, wNotV, wIsT, id, wNeg, wPar, wTpo, st2, st3, wFg, wFg0, puts, wip, rst, isOw, if_ff, if_tt, List.getElem?_cons_zero, List.getElem?_cons_succ, List.getElem?_nil, wSeq, wAsg, wOp, wC, wCB, wCons, wNil, wRet, wIfS, wB, wNext, wIf, wCall, wDrop, wTup, wLst, wM, wM0, wSl, wSlS, wP, wNoP, wiR1, wiR2, wiIt, wiEn, wTru, wAnd, wOr, wNot, wFor, rd_int, rd_str, rd_bl, rd_non, rd_tup, rd_lf, rd_lt, rd_df, rd_dt, rd_if, rd_it, rd_scr, startD, fz, List.map, List.length, List.replicate, List.append, List.set_cons_zero, List.set_cons_succ, Int.reduceToNat, List.cons_append, List.nil_append, Nat.reduceAdd, Nat.reduceSub, endD])
      refine i_join (("known" : Str) :: p.facts.map factW) rfl rfl rfl (Nat.le_trans hp.known_le.1 (by omega)) ?_
      repeat' (first | trivial | dsimp only [w_Plan__str__r3, wMakeP, makeP, wCallP, callP, wMethP, permL_nil, permL_cons, wProp, wIxI, wLockE, wiDk, wFld, wStar, wFmt, wFs, wJs, wDn, Bool.not_true, Bool.not_false, wChain, wAndV, wOrV, wNotV, wIsT, id, wNeg, wPar, wTpo, st2, st3, wFg, wFg0, puts, wip, rst, isOw, if_ff, if_tt, List.getElem?_cons_zero, List.getElem?_cons_succ, List.getElem?_nil, wSeq, wAsg, wOp, wC, wCB, wCons, wNil, wRet, wIfS, wB, wNext, wIf, wCall, wDrop, wTup, wLst, wM, wM0, wSl, wSlS, wP, wNoP, wiR1, wiR2, wiIt, wiEn, wTru, wAnd, wOr, wNot, wFor, rd_int, rd_str, rd_bl, rd_non, rd_tup, rd_lf, rd_lt, rd_df, rd_dt, rd_if, rd_it, rd_scr, startD, fz, List.map, List.length, List.replicate, List.append, List.set_cons_zero, List.set_cons_succ, Int.reduceToNat, List.cons_append, List.nil_append, Nat.reduceAdd, Nat.reduceSub, endD])
      refine i_join (rowsOf p) rfl rfl (by unfold rowsOf; rw [if_neg hc]; simp [entriesRow, placesRow, knownRow]) (Nat.le_trans hp.text_le.1 (by omega)) ?_
      repeat' (first | trivial | dsimp only [w_Plan__str__r3, wMakeP, makeP, wCallP, callP, wMethP, permL_nil, permL_cons, wProp, wIxI, wLockE, wiDk, wFld, wStar, wFmt, wFs, wJs, wDn, Bool.not_true, Bool.not_false, wChain, wAndV, wOrV, wNotV, wIsT, id, wNeg, wPar, wTpo, st2, st3, wFg, wFg0, puts, wip, rst, isOw, if_ff, if_tt, List.getElem?_cons_zero, List.getElem?_cons_succ, List.getElem?_nil, wSeq, wAsg, wOp, wC, wCB, wCons, wNil, wRet, wIfS, wB, wNext, wIf, wCall, wDrop, wTup, wLst, wM, wM0, wSl, wSlS, wP, wNoP, wiR1, wiR2, wiIt, wiEn, wTru, wAnd, wOr, wNot, wFor, rd_int, rd_str, rd_bl, rd_non, rd_tup, rd_lf, rd_lt, rd_df, rd_dt, rd_if, rd_it, rd_scr, startD, fz, List.map, List.length, List.replicate, List.append, List.set_cons_zero, List.set_cons_succ, Int.reduceToNat, List.cons_append, List.nil_append, Nat.reduceAdd, Nat.reduceSub, endD])
    · rename_i hc
      refine i_join (rowsOf p) rfl rfl (by unfold rowsOf; rw [if_pos hc]; simp [entriesRow, placesRow]) (Nat.le_trans hp.text_le.1 (by omega)) ?_
      repeat' (first | trivial | dsimp only [w_Plan__str__r3, wMakeP, makeP, wCallP, callP, wMethP, permL_nil, permL_cons, wProp, wIxI, wLockE, wiDk, wFld, wStar, wFmt, wFs, wJs, wDn, Bool.not_true, Bool.not_false, wChain, wAndV, wOrV, wNotV, wIsT, id, wNeg, wPar, wTpo, st2, st3, wFg, wFg0, puts, wip, rst, isOw, if_ff, if_tt, List.getElem?_cons_zero, List.getElem?_cons_succ, List.getElem?_nil, wSeq, wAsg, wOp, wC, wCB, wCons, wNil, wRet, wIfS, wB, wNext, wIf, wCall, wDrop, wTup, wLst, wM, wM0, wSl, wSlS, wP, wNoP, wiR1, wiR2, wiIt, wiEn, wTru, wAnd, wOr, wNot, wFor, rd_int, rd_str, rd_bl, rd_non, rd_tup, rd_lf, rd_lt, rd_df, rd_dt, rd_if, rd_it, rd_scr, startD, fz, List.map, List.length, List.replicate, List.append, List.set_cons_zero, List.set_cons_succ, Int.reduceToNat, List.cons_append, List.nil_append, Nat.reduceAdd, Nat.reduceSub, endD])
end L
namespace L
open PySem PySem.Spec PyProof.Rows L2 M
local macro_rules
  | `(tactic| trivial) => `(tactic| with_reducible first
    | refine i_var rfl ?_
    | refine i_addI ?_ | refine i_sub ?_ | refine i_mod (by omega) ?_ | refine i_fdiv (by omega) ?_
    | refine i_mulL (by omega) ?_ | refine i_mulR (by omega) ?_
    | refine ite_t ?_ | refine ite_nT ?_ | refine ite_nF ?_ | refine ite_nn ?_ | refine ite_f ?_ | refine ite_dt (by first | assumption | omega | (simp only [List.length_map, List.length_append, List.length_cons, List.length_nil, List.length_take, List.length_drop] at *; omega)) ?_ | refine ite_df (by first | assumption | omega | (simp only [List.length_map, List.length_append, List.length_cons, List.length_nil, List.length_take, List.length_drop] at *; omega)) ?_ | refine ite_ct (by assumption) ?_ | refine ite_cf (by assumption) ?_ | refine ite_nct (by assumption) ?_ | refine ite_ncf (by assumption) ?_ | refine iteD (fun hc => ?_) (fun hc => ?_) | refine ite_nf (by first | exact rfl | assumption | omega | (simp only [List.length_map, List.length_append, List.length_cons, List.length_nil, List.length_take, List.length_drop] at *; omega)) ?_ | refine ite_nt (by first | assumption | omega | (simp only [List.length_map, List.length_append, List.length_cons, List.length_nil, List.length_take, List.length_drop] at *; omega)) ?_ | refine iteN (fun hc => ?_) (fun hc => ?_) | refine i_b ?_
    | refine i_lt ?_ | refine i_le ?_ | refine i_gt ?_ | refine i_ge ?_ | refine i_eqI ?_ | refine i_neI ?_ | refine i_eqS ?_ | refine i_neS ?_
    | refine i_ixL rfl rfl rfl ?_
    | refine i_int ?_ | refine i_abs ?_ | refine i_max ?_ | refine i_min ?_ | refine i_dm (by omega) ?_
    | refine i_lenL rfl rfl ?_ | refine i_lenSc ?_ | refine i_list rfl rfl ?_ | refine i_tuple rfl rfl ?_
    | refine i_setl rfl rfl rfl rfl ?_
    | refine i_truB ?_ | refine i_pln rfl ?_ | refine i_isSS ?_ | refine i_isTT ?_ | refine i_isII ?_ | refine i_isIB ?_ | refine i_isSI ?_ | refine i_lockE rfl ?_ | refine i_dk rfl ?_ | refine i_gattr rfl rfl rfl rfl rfl (by decide +kernel) ?_ | refine i_star rfl rfl ?_ | refine i_isin rfl ?_ | refine i_nn ?_ | refine i_made ?_ | refine i_spc ?_ | refine i_qlen (by omega) ?_ | refine i_qstr ?_ | refine i_qbl ?_ | refine i_js (by simp only [empty_app, app_len, len_gt]; omega) ?_ | refine i_fmt (by omega) ?_ | refine i_inC ?_ | refine i_inKS rfl ?_ | refine i_notInKS rfl ?_ | refine i_lenD rfl ?_ | refine i_notIn2 ?_ | refine i_in2 ?_ | refine i_allM rfl ?_ | refine i_anyM rfl ?_ | refine i_index rfl (by assumption) ?_ | refine i_tyL rfl ?_ | refine i_tyS ?_ | refine i_popM rfl (by first | omega | (simp only [List.length_map, List.length_append, List.length_cons, List.length_nil, List.length_take, List.length_drop] at *; omega)) (fun m hm hme hle => ?_) | refine i_popB rfl (by first | omega | (simp only [List.length_map, List.length_append, List.length_cons, List.length_nil, List.length_take, List.length_drop] at *; omega)) (fun m hm hme => ?_) | refine i_par rfl rfl ?_ | refine i_tpo rfl rfl ?_ | refine i_fzE rfl ?_ | refine i_fzE (fzR_P (by assumption)) ?_ | refine i_fz rfl ?_ | refine i_fz (fzR_P (by assumption)) ?_ | refine i_app rfl rfl (by first | omega | (simp only [List.length_map, List.length_append, List.length_cons, List.length_nil, List.length_take, List.length_drop] at *; omega)) ?_ | refine i_ow rfl ?_ | refine i_unp rfl ?_ | refine i_unpO rfl ?_ | refine i_gcons ?_ | refine i_gnil ?_
    | refine i_strB (by omega) ?_ | refine i_notInS rfl rfl ?_ | refine i_inS rfl rfl ?_ | refine i_notInI rfl rfl ?_ | refine i_inI rfl rfl ?_
    | refine i_addS (by first | decide | (simp only [len_plus, len_minus, len_gt, len_places, app_len]; omega)) ?_ | refine i_addL rfl rfl (by decide) ?_ | refine i_addL rfl rfl (by first | omega | (simp only [List.length_map, List.length_append, List.length_cons, List.length_nil, List.length_take, List.length_drop] at *; omega)) ?_
    | refine i_pow (by omega) ?_ | refine i_disp rfl rfl ?_ | refine i_slL rfl ?_ | refine i_slT ?_ | refine i_scr ?_ | refine i_opt ?_ | refine i_itL rfl rfl ?_ | refine i_itS ?_ | refine i_en rfl rfl ?_ | refine i_r1 (by first | omega | (simp only [List.length_map, List.length_append, List.length_cons, List.length_nil, List.length_take, List.length_drop] at *; omega)) ?_ | refine i_r2 (by first | omega | (simp only [List.length_map, List.length_append, List.length_cons, List.length_nil, List.length_take, List.length_drop] at *; omega)) ?_ | refine i_lc0 ?_ | refine i_dc0 ?_ | refine i_kfz rfl rfl ?_ | refine i_ixSc rfl ?_
    | refine i_ret rfl rfl ?_ | refine i_fzs rfl ?_)

theorem i_pent {p : Pn} {Q : D → List D → Prop} {E : DX} (q : Q (eP p.folk) []) : sp_Plan_entries [ePlan false p] Q E := ⟨p, rfl, q⟩
theorem i_pmat {p : Pn} {Q : D → List D → Prop} {E : DX} (q : Q (eGames p) []) : sp_Plan_matches [ePlan false p] Q E := ⟨p, rfl, q⟩
theorem i_ppla {p : Pn} {Q : D → List D → Prop} {E : DX} (q : Q (ePlaces p) []) : sp_Plan_places [ePlan false p] Q E := ⟨p, rfl, q⟩
theorem i_pkno {p : Pn} {Q : D → List D → Prop} {E : DX} (q : Q (eFacts p) []) : sp_Plan_known [ePlan false p] Q E := ⟨p, rfl, q⟩
theorem i_plen {p : Pn} {Q : D → List D → Prop} {E : DX} (q : Q (.int (p.games.length : Nat)) []) : sp_Plan__len_ [ePlan false p] Q E := ⟨p, rfl, q⟩
theorem i_pbool {p : Pn} {Q : D → List D → Prop} {E : DX} (q : Q (.bl true) []) : sp_Plan__bool_ [ePlan false p] Q E := ⟨p, rfl, q⟩
theorem i_pstr {p : Pn} (hp : PlanOk p) {Q : D → List D → Prop} {E : DX} (q : Q (.str (textOf p)) []) : sp_Plan__str_ [ePlan false p] Q E := ⟨p, rfl, hp, q⟩
theorem i_pget {p : Pn} {g : Game} {x : D} (ex : x = .str g.1) (hp : PlanOk p) (hg : g ∈ p.games) {Q : D → List D → Prop} {E : DX} (q : Q (.tup [.str g.2.1, .str g.2.2]) []) : sp_Plan__getitem_ [ePlan false p, x] Q E := by
  subst ex; exact ⟨p, g, rfl, hp, hg, q⟩
theorem i_text {p : Pn} {x : D} (ex : x = eParts p) (hp : PlanOk p) {Q : D → List D → Prop} {E : DX} (q : Q (.str (textOf p)) []) : sp__law_text [x] Q E := by
  subst ex; exact ⟨p, rfl, hp, q⟩
local macro_rules
  | `(tactic| trivial) => `(tactic| with_reducible first | refine i_call rfl rfl rfl ?_ | refine i_callB (by decide) rfl rfl rfl rfl ?_ | refine i_pent ?_ | refine i_pmat ?_ | refine i_ppla ?_ | refine i_pkno ?_ | refine i_plen ?_ | refine i_pbool ?_ | refine i_pstr (by assumption) ?_)
def w__law_shows_r3 (sp_Plan_known : Spd) (sp_Plan_places : Spd) (sp_Plan_matches : Spd) (sp_Plan_entries : Spd) (sp_Plan__len_ : Spd) (sp_Plan__bool_ : Spd) (sp_Plan__str_ : Spd) (sp__law_text : Spd) (sp_Plan__getitem_ : Spd) (Ex : DXs) : WS :=
  (wRet (wCB nAll (wCons (wLc (wiIt (wVar 3)) (gFz 6) wYes (wOp oEq (wCB nRepr (wCons (wIxI "Plan" sp_Plan__getitem_ exF (wVar 0) (wOp oIxA (wVar 6) (wC (.int 0)))) wNil)) (wCB nRepr (wCons (wTup (wCons (wOp oIxA (wVar 6) (wC (.int 1))) (wCons (wOp oIxA (wVar 6) (wC (.int 2))) wNil))) wNil))) [6]) wNil)))
def w__law_shows_r2 (sp_Plan_known : Spd) (sp_Plan_places : Spd) (sp_Plan_matches : Spd) (sp_Plan_entries : Spd) (sp_Plan__len_ : Spd) (sp_Plan__bool_ : Spd) (sp_Plan__str_ : Spd) (sp__law_text : Spd) (sp_Plan__getitem_ : Spd) (Ex : DXs) : WS :=
  (wSeq (wIfS (wOr (wB (wOp oNe (wCB nRepr (wCons (wCB (nSpc "Plan" sp_Plan__len_ qLen) (wCons (wVar 0) wNil)) wNil)) (wCB nRepr (wCons (wCB nLen (wCons (wVar 3) wNil)) wNil)))) (wOr (wNot (wTru (wCB (nSpc "Plan" sp_Plan__bool_ qBl) (wCons (wVar 0) wNil)))) (wB (wOp oNe (wCB (nSpc "Plan" sp_Plan__str_ qStr) (wCons (wVar 0) wNil)) (wCall [] [] 1 sp__law_text [] exF (wCons (wVar 1) wNil)))))) (wRet (wC (.bl false))) wNext)
  (w__law_shows_r3 sp_Plan_known sp_Plan_places sp_Plan_matches sp_Plan_entries sp_Plan__len_ sp_Plan__bool_ sp_Plan__str_ sp__law_text sp_Plan__getitem_ Ex))
def w__law_shows (sp_Plan_known : Spd) (sp_Plan_places : Spd) (sp_Plan_matches : Spd) (sp_Plan_entries : Spd) (sp_Plan__len_ : Spd) (sp_Plan__bool_ : Spd) (sp_Plan__str_ : Spd) (sp__law_text : Spd) (sp_Plan__getitem_ : Spd) (Ex : DXs) : WS :=
  (wSeq (wAsg (wVar 1) (gUnp 4 (wgCons (gFz 2) (wgCons (gFz 3) (wgCons (gFz 4) (wgCons (gFz 5) wgNil))))))
  (wSeq (wIfS (wB (wOp oNe (wCB nRepr (wCons (wLst (wCons (wProp "Plan" sp_Plan_entries (wVar 0)) (wCons (wProp "Plan" sp_Plan_matches (wVar 0)) (wCons (wProp "Plan" sp_Plan_places (wVar 0)) (wCons (wProp "Plan" sp_Plan_known (wVar 0)) wNil))))) wNil)) (wCB nRepr (wCons (wLst (wCons (wVar 2) (wCons (wVar 3) (wCons (wVar 4) (wCons (wVar 5) wNil))))) wNil)))) (wRet (wC (.bl false))) wNext)
  (w__law_shows_r2 sp_Plan_known sp_Plan_places sp_Plan_matches sp_Plan_entries sp_Plan__len_ sp_Plan__bool_ sp_Plan__str_ sp__law_text sp_Plan__getitem_ Ex)))
def sp__law_shows : Spd := fun ds Q _ => ∃ p, ds = [ePlan false p, eParts p] ∧ PlanOk p ∧ Q (.bl true) []
theorem hw__law_shows (ds : List D) (Qd : D → List D → Prop) (Ed : DX) (h : sp__law_shows ds Qd Ed) : w__law_shows sp_Plan_known sp_Plan_places sp_Plan_matches sp_Plan_entries sp_Plan__len_ sp_Plan__bool_ sp_Plan__str_ sp__law_text sp_Plan__getitem_ (fun c fs xs _ => Ed c fs xs) (endD [] Qd) (startD ["_law_box", "_law_parts", "_law_folk", "_law_games_here", "_law_spots_here", "_law_facts_here", "_law_game"] ds) := by
  obtain ⟨p, rfl, hp, h⟩ := h
  unfold w__law_shows
  repeat' (first | trivial | dsimp only [w__law_shows_r3, w__law_shows_r2, wMakeP, makeP, wCallP, callP, wMethP, permL_nil, permL_cons, wProp, wIxI, wLockE, wiDk, wFld, wStar, wFmt, wFs, wJs, wDn, Bool.not_true, Bool.not_false, wChain, wAndV, wOrV, wNotV, wIsT, id, wNeg, wPar, wTpo, st2, st3, wFg, wFg0, puts, wip, rst, isOw, if_ff, if_tt, List.getElem?_cons_zero, List.getElem?_cons_succ, List.getElem?_nil, wSeq, wAsg, wOp, wC, wCB, wCons, wNil, wRet, wIfS, wB, wNext, wIf, wCall, wDrop, wTup, wLst, wM, wM0, wSl, wSlS, wP, wNoP, wiR1, wiR2, wiIt, wiEn, wTru, wAnd, wOr, wNot, wFor, rd_int, rd_str, rd_bl, rd_non, rd_tup, rd_lf, rd_lt, rd_df, rd_dt, rd_if, rd_it, rd_scr, startD, fz, List.map, List.length, List.replicate, List.append, List.set_cons_zero, List.set_cons_succ, Int.reduceToNat, List.cons_append, List.nil_append, Nat.reduceAdd, Nat.reduceSub, endD])
  refine i_repr rfl (Gd.lst hp.gd4) (by omega) (by omega) ?_
  repeat' (first | trivial | dsimp only [w__law_shows_r3, w__law_shows_r2, wMakeP, makeP, wCallP, callP, wMethP, permL_nil, permL_cons, wProp, wIxI, wLockE, wiDk, wFld, wStar, wFmt, wFs, wJs, wDn, Bool.not_true, Bool.not_false, wChain, wAndV, wOrV, wNotV, wIsT, id, wNeg, wPar, wTpo, st2, st3, wFg, wFg0, puts, wip, rst, isOw, if_ff, if_tt, List.getElem?_cons_zero, List.getElem?_cons_succ, List.getElem?_nil, wSeq, wAsg, wOp, wC, wCB, wCons, wNil, wRet, wIfS, wB, wNext, wIf, wCall, wDrop, wTup, wLst, wM, wM0, wSl, wSlS, wP, wNoP, wiR1, wiR2, wiIt, wiEn, wTru, wAnd, wOr, wNot, wFor, rd_int, rd_str, rd_bl, rd_non, rd_tup, rd_lf, rd_lt, rd_df, rd_dt, rd_if, rd_it, rd_scr, startD, fz, List.map, List.length, List.replicate, List.append, List.set_cons_zero, List.set_cons_succ, Int.reduceToNat, List.cons_append, List.nil_append, Nat.reduceAdd, Nat.reduceSub, endD])
  refine i_repr rfl (Gd.lst hp.gd4) (by omega) (by omega) ?_
  have h1 := hp.gle
  repeat' (first | trivial | dsimp only [w__law_shows_r3, w__law_shows_r2, wMakeP, makeP, wCallP, callP, wMethP, permL_nil, permL_cons, wProp, wIxI, wLockE, wiDk, wFld, wStar, wFmt, wFs, wJs, wDn, Bool.not_true, Bool.not_false, wChain, wAndV, wOrV, wNotV, wIsT, id, wNeg, wPar, wTpo, st2, st3, wFg, wFg0, puts, wip, rst, isOw, if_ff, if_tt, List.getElem?_cons_zero, List.getElem?_cons_succ, List.getElem?_nil, wSeq, wAsg, wOp, wC, wCB, wCons, wNil, wRet, wIfS, wB, wNext, wIf, wCall, wDrop, wTup, wLst, wM, wM0, wSl, wSlS, wP, wNoP, wiR1, wiR2, wiIt, wiEn, wTru, wAnd, wOr, wNot, wFor, rd_int, rd_str, rd_bl, rd_non, rd_tup, rd_lf, rd_lt, rd_df, rd_dt, rd_if, rd_it, rd_scr, startD, fz, List.map, List.length, List.replicate, List.append, List.set_cons_zero, List.set_cons_succ, Int.reduceToNat, List.cons_append, List.nil_append, Nat.reduceAdd, Nat.reduceSub, endD])
  refine i_repr rfl (Gd.nat (by omega)) (by omega) (by omega) ?_
  repeat' (first | trivial | dsimp only [w__law_shows_r3, w__law_shows_r2, wMakeP, makeP, wCallP, callP, wMethP, permL_nil, permL_cons, wProp, wIxI, wLockE, wiDk, wFld, wStar, wFmt, wFs, wJs, wDn, Bool.not_true, Bool.not_false, wChain, wAndV, wOrV, wNotV, wIsT, id, wNeg, wPar, wTpo, st2, st3, wFg, wFg0, puts, wip, rst, isOw, if_ff, if_tt, List.getElem?_cons_zero, List.getElem?_cons_succ, List.getElem?_nil, wSeq, wAsg, wOp, wC, wCB, wCons, wNil, wRet, wIfS, wB, wNext, wIf, wCall, wDrop, wTup, wLst, wM, wM0, wSl, wSlS, wP, wNoP, wiR1, wiR2, wiIt, wiEn, wTru, wAnd, wOr, wNot, wFor, rd_int, rd_str, rd_bl, rd_non, rd_tup, rd_lf, rd_lt, rd_df, rd_dt, rd_if, rd_it, rd_scr, startD, fz, List.map, List.length, List.replicate, List.append, List.set_cons_zero, List.set_cons_succ, Int.reduceToNat, List.cons_append, List.nil_append, Nat.reduceAdd, Nat.reduceSub, endD])
  rw [List.length_map]
  refine i_repr rfl (Gd.nat (by omega)) (by omega) (by omega) ?_
  repeat' (first | trivial | dsimp only [w__law_shows_r3, w__law_shows_r2, wMakeP, makeP, wCallP, callP, wMethP, permL_nil, permL_cons, wProp, wIxI, wLockE, wiDk, wFld, wStar, wFmt, wFs, wJs, wDn, Bool.not_true, Bool.not_false, wChain, wAndV, wOrV, wNotV, wIsT, id, wNeg, wPar, wTpo, st2, st3, wFg, wFg0, puts, wip, rst, isOw, if_ff, if_tt, List.getElem?_cons_zero, List.getElem?_cons_succ, List.getElem?_nil, wSeq, wAsg, wOp, wC, wCB, wCons, wNil, wRet, wIfS, wB, wNext, wIf, wCall, wDrop, wTup, wLst, wM, wM0, wSl, wSlS, wP, wNoP, wiR1, wiR2, wiIt, wiEn, wTru, wAnd, wOr, wNot, wFor, rd_int, rd_str, rd_bl, rd_non, rd_tup, rd_lf, rd_lt, rd_df, rd_dt, rd_if, rd_it, rd_scr, startD, fz, List.map, List.length, List.replicate, List.append, List.set_cons_zero, List.set_cons_succ, Int.reduceToNat, List.cons_append, List.nil_append, Nat.reduceAdd, Nat.reduceSub, endD])
  refine i_text rfl hp ?_
  repeat' (first | trivial | dsimp only [w__law_shows_r3, w__law_shows_r2, wMakeP, makeP, wCallP, callP, wMethP, permL_nil, permL_cons, wProp, wIxI, wLockE, wiDk, wFld, wStar, wFmt, wFs, wJs, wDn, Bool.not_true, Bool.not_false, wChain, wAndV, wOrV, wNotV, wIsT, id, wNeg, wPar, wTpo, st2, st3, wFg, wFg0, puts, wip, rst, isOw, if_ff, if_tt, List.getElem?_cons_zero, List.getElem?_cons_succ, List.getElem?_nil, wSeq, wAsg, wOp, wC, wCB, wCons, wNil, wRet, wIfS, wB, wNext, wIf, wCall, wDrop, wTup, wLst, wM, wM0, wSl, wSlS, wP, wNoP, wiR1, wiR2, wiIt, wiEn, wTru, wAnd, wOr, wNot, wFor, rd_int, rd_str, rd_bl, rd_non, rd_tup, rd_lf, rd_lt, rd_df, rd_dt, rd_if, rd_it, rd_scr, startD, fz, List.map, List.length, List.replicate, List.append, List.set_cons_zero, List.set_cons_succ, Int.reduceToNat, List.cons_append, List.nil_append, Nat.reduceAdd, Nat.reduceSub, endD])
  refine i_lcM p.games eG (fun _ => .bl true) rfl (by omega) (fun g hg P h => ?_) ?_
  · repeat' (first | trivial | dsimp only [w__law_shows_r3, w__law_shows_r2, wMakeP, makeP, wCallP, callP, wMethP, permL_nil, permL_cons, wProp, wIxI, wLockE, wiDk, wFld, wStar, wFmt, wFs, wJs, wDn, Bool.not_true, Bool.not_false, wChain, wAndV, wOrV, wNotV, wIsT, id, wNeg, wPar, wTpo, st2, st3, wFg, wFg0, puts, wip, rst, isOw, if_ff, if_tt, List.getElem?_cons_zero, List.getElem?_cons_succ, List.getElem?_nil, wSeq, wAsg, wOp, wC, wCB, wCons, wNil, wRet, wIfS, wB, wNext, wIf, wCall, wDrop, wTup, wLst, wM, wM0, wSl, wSlS, wP, wNoP, wiR1, wiR2, wiIt, wiEn, wTru, wAnd, wOr, wNot, wFor, rd_int, rd_str, rd_bl, rd_non, rd_tup, rd_lf, rd_lt, rd_df, rd_dt, rd_if, rd_it, rd_scr, startD, fz, List.map, List.length, List.replicate, List.append, List.set_cons_zero, List.set_cons_succ, Int.reduceToNat, List.cons_append, List.nil_append, Nat.reduceAdd, Nat.reduceSub, endD])
    refine i_pget rfl hp hg ?_
    have g1 : Gd 1 30 (.tup [.str g.2.1, .str g.2.2]) := by
      have a := hp.games.sok hp.srcs g hg
      have b := hp.games.len hp.srcs g hg
      exact (Gd.tup (GdL.cons (n := 0) (Gd.str a.2.1 b.2.1) (GdL.cons (Gd.str a.2.2 b.2.2) GdL.nil))).mono (Nat.le_refl _) (by omega)
    repeat' (first | trivial | dsimp only [w__law_shows_r3, w__law_shows_r2, wMakeP, makeP, wCallP, callP, wMethP, permL_nil, permL_cons, wProp, wIxI, wLockE, wiDk, wFld, wStar, wFmt, wFs, wJs, wDn, Bool.not_true, Bool.not_false, wChain, wAndV, wOrV, wNotV, wIsT, id, wNeg, wPar, wTpo, st2, st3, wFg, wFg0, puts, wip, rst, isOw, if_ff, if_tt, List.getElem?_cons_zero, List.getElem?_cons_succ, List.getElem?_nil, wSeq, wAsg, wOp, wC, wCB, wCons, wNil, wRet, wIfS, wB, wNext, wIf, wCall, wDrop, wTup, wLst, wM, wM0, wSl, wSlS, wP, wNoP, wiR1, wiR2, wiIt, wiEn, wTru, wAnd, wOr, wNot, wFor, rd_int, rd_str, rd_bl, rd_non, rd_tup, rd_lf, rd_lt, rd_df, rd_dt, rd_if, rd_it, rd_scr, startD, fz, List.map, List.length, List.replicate, List.append, List.set_cons_zero, List.set_cons_succ, Int.reduceToNat, List.cons_append, List.nil_append, Nat.reduceAdd, Nat.reduceSub, endD])
    refine i_repr rfl g1 (by omega) (by omega) ?_
    repeat' (first | trivial | dsimp only [w__law_shows_r3, w__law_shows_r2, wMakeP, makeP, wCallP, callP, wMethP, permL_nil, permL_cons, wProp, wIxI, wLockE, wiDk, wFld, wStar, wFmt, wFs, wJs, wDn, Bool.not_true, Bool.not_false, wChain, wAndV, wOrV, wNotV, wIsT, id, wNeg, wPar, wTpo, st2, st3, wFg, wFg0, puts, wip, rst, isOw, if_ff, if_tt, List.getElem?_cons_zero, List.getElem?_cons_succ, List.getElem?_nil, wSeq, wAsg, wOp, wC, wCB, wCons, wNil, wRet, wIfS, wB, wNext, wIf, wCall, wDrop, wTup, wLst, wM, wM0, wSl, wSlS, wP, wNoP, wiR1, wiR2, wiIt, wiEn, wTru, wAnd, wOr, wNot, wFor, rd_int, rd_str, rd_bl, rd_non, rd_tup, rd_lf, rd_lt, rd_df, rd_dt, rd_if, rd_it, rd_scr, startD, fz, List.map, List.length, List.replicate, List.append, List.set_cons_zero, List.set_cons_succ, Int.reduceToNat, List.cons_append, List.nil_append, Nat.reduceAdd, Nat.reduceSub, endD])
    refine i_repr rfl g1 (by omega) (by omega) ?_
    repeat' (first | trivial | dsimp only [w__law_shows_r3, w__law_shows_r2, wMakeP, makeP, wCallP, callP, wMethP, permL_nil, permL_cons, wProp, wIxI, wLockE, wiDk, wFld, wStar, wFmt, wFs, wJs, wDn, Bool.not_true, Bool.not_false, wChain, wAndV, wOrV, wNotV, wIsT, id, wNeg, wPar, wTpo, st2, st3, wFg, wFg0, puts, wip, rst, isOw, if_ff, if_tt, List.getElem?_cons_zero, List.getElem?_cons_succ, List.getElem?_nil, wSeq, wAsg, wOp, wC, wCB, wCons, wNil, wRet, wIfS, wB, wNext, wIf, wCall, wDrop, wTup, wLst, wM, wM0, wSl, wSlS, wP, wNoP, wiR1, wiR2, wiIt, wiEn, wTru, wAnd, wOr, wNot, wFor, rd_int, rd_str, rd_bl, rd_non, rd_tup, rd_lf, rd_lt, rd_df, rd_dt, rd_if, rd_it, rd_scr, startD, fz, List.map, List.length, List.replicate, List.append, List.set_cons_zero, List.set_cons_succ, Int.reduceToNat, List.cons_append, List.nil_append, Nat.reduceAdd, Nat.reduceSub, endD])
    rw [decide_eq_true rfl]
    repeat' (first | trivial | dsimp only [w__law_shows_r3, w__law_shows_r2, wMakeP, makeP, wCallP, callP, wMethP, permL_nil, permL_cons, wProp, wIxI, wLockE, wiDk, wFld, wStar, wFmt, wFs, wJs, wDn, Bool.not_true, Bool.not_false, wChain, wAndV, wOrV, wNotV, wIsT, id, wNeg, wPar, wTpo, st2, st3, wFg, wFg0, puts, wip, rst, isOw, if_ff, if_tt, List.getElem?_cons_zero, List.getElem?_cons_succ, List.getElem?_nil, wSeq, wAsg, wOp, wC, wCB, wCons, wNil, wRet, wIfS, wB, wNext, wIf, wCall, wDrop, wTup, wLst, wM, wM0, wSl, wSlS, wP, wNoP, wiR1, wiR2, wiIt, wiEn, wTru, wAnd, wOr, wNot, wFor, rd_int, rd_str, rd_bl, rd_non, rd_tup, rd_lf, rd_lt, rd_df, rd_dt, rd_if, rd_it, rd_scr, startD, fz, List.map, List.length, List.replicate, List.append, List.set_cons_zero, List.set_cons_succ, Int.reduceToNat, List.cons_append, List.nil_append, Nat.reduceAdd, Nat.reduceSub, endD])
  repeat' (first | trivial | dsimp only [w__law_shows_r3, w__law_shows_r2, wMakeP, makeP, wCallP, callP, wMethP, permL_nil, permL_cons, wProp, wIxI, wLockE, wiDk, wFld, wStar, wFmt, wFs, wJs, wDn, Bool.not_true, Bool.not_false, wChain, wAndV, wOrV, wNotV, wIsT, id, wNeg, wPar, wTpo, st2, st3, wFg, wFg0, puts, wip, rst, isOw, if_ff, if_tt, List.getElem?_cons_zero, List.getElem?_cons_succ, List.getElem?_nil, wSeq, wAsg, wOp, wC, wCB, wCons, wNil, wRet, wIfS, wB, wNext, wIf, wCall, wDrop, wTup, wLst, wM, wM0, wSl, wSlS, wP, wNoP, wiR1, wiR2, wiIt, wiEn, wTru, wAnd, wOr, wNot, wFor, rd_int, rd_str, rd_bl, rd_non, rd_tup, rd_lf, rd_lt, rd_df, rd_dt, rd_if, rd_it, rd_scr, startD, fz, List.map, List.length, List.replicate, List.append, List.set_cons_zero, List.set_cons_succ, Int.reduceToNat, List.cons_append, List.nil_append, Nat.reduceAdd, Nat.reduceSub, endD])
  rw [show (p.games.all fun _ => true) = true by simp]
  exact h
theorem i_shows (p : Pn) {x y : D} (ex : x = ePlan false p) (ey : y = eParts p) (hp : PlanOk p) {Q : D → List D → Prop} {E : DX} (q : Q (.bl true) []) : sp__law_shows [x, y] Q E := by
  subst ex ey; exact ⟨p, rfl, hp, q⟩
theorem i_init (p : Pn) {x y z w : D} (e1 : x = eP p.folk) (e2 : y = eGames p) (e3 : z = ePlaces p) (e4 : w = eFacts p) (hp : PlanOk p) {Q : D → List D → Prop} {E : DX} (q : Q .non [ePlan true p]) : sp_Plan__init_ [.ins true "Plan" [] [], x, y, z, w] Q E := by
  subst e1 e2 e3 e4; exact ⟨p, rfl, hp, q⟩
theorem i_drawn {a b c m : Int} {Q : D → List D → Prop} {E : DX} (q : ∀ p a b c, PlanOk p → Q (eParts p) [.lst true [.int a, .int b, .int c]]) : sp__law_drawn [.lst true [.int a, .int b, .int c], .int m] Q E :=
  ⟨_, _, rfl, ⟨_, _, _, rfl⟩, fun p p' hp ⟨a, b, c, e⟩ => e ▸ q p a b c hp⟩
theorem i_pot {n : Int} {Q : D → List D → Prop} {E : DX} (q : ∀ a b c, Q (.lst true [.int a, .int b, .int c]) []) : sp__law_pot [.int n] Q E := ⟨n, rfl, fun p ⟨a, b, c, e⟩ => e ▸ q a b c⟩
theorem i_cell {ns : List Int} {k : Int} (h : 0 ≤ k ∧ k < 100) {Q : D → List D → Prop} {E : DX} (q : ∀ n, Q (.int n) []) : sp__law_cell [.scr ns, .int k] Q E := ⟨ns, k, rfl, h.1, h.2, q⟩
theorem PlanOk.bare {p : Pn} (h : PlanOk p) : PlanOk ⟨p.folk, p.games, p.places, []⟩ := ⟨h.folk, h.games, h.gge, h.gle, h.pne, h.plc, Nat.zero_le _, List.nodup_nil, ⟨p.folk, .refl _, fun f hf => nomatch hf⟩⟩
local macro_rules
  | `(tactic| trivial) => `(tactic| with_reducible first | refine i_call rfl rfl rfl ?_ | refine i_drawn (fun p a b c hp => ?_) | refine i_draw (by first | omega | (simp only [List.length_map] at *; omega)) (fun r a b c hr0 hr1 => ?_) | refine i_pot (fun a b c => ?_) | refine i_cell (by omega) (fun n => ?_))
def w__law_right_r9 (sp__law_drawn : Spd) (sp_Plan__init_ : Spd) (sp__law_facts : Spd) (sp__law_shows : Spd) (Ex : DXs) : WS :=
  (wRet (wAndV (wCall [] [] 2 sp__law_shows [] exF (wCons (wVar 8) (wCons (wVar 2) wNil))) (wAndV (wCall [] [] 2 sp__law_shows [] exF (wCons (wVar 9) (wCons (wVar 2) wNil))) (wAndV (wCall [] [] 2 sp__law_shows [] exF (wCons (wVar 8) (wCons (wVar 2) wNil))) (wOp oEq (wCB nRepr (wCons (wVar 2) wNil)) (wVar 7))))))
def w__law_right (sp__law_drawn : Spd) (sp_Plan__init_ : Spd) (sp__law_facts : Spd) (sp__law_shows : Spd) (Ex : DXs) : WS :=
  (wSeq (wAsg (wCall [0] [] 2 sp__law_drawn [] exF (wCons (wVar 0) (wCons (wVar 1) wNil))) (gFz 2))
  (wSeq (wAsg (wVar 2) (gUnp 4 (wgCons (gFz 3) (wgCons (gFz 4) (wgCons (gFz 5) (wgCons (gFz 6) wgNil))))))
  (wSeq (wAsg (wCB nRepr (wCons (wVar 2) wNil)) (gFz 7))
  (wSeq (wAsg (wMakeP "Plan" 4 0 [0, 1, 2, 3] [] sp_Plan__init_ exF (wCons (wVar 3) (wCons (wVar 4) (wCons (wVar 5) (wCons (wVar 6) wNil)))) wNil) (gFz 8))
  (wSeq (wAsg (wMakeP "Plan" 0 4 [3, 2, 1, 0] [] sp_Plan__init_ exF wNil (wCons (wVar 6) (wCons (wVar 5) (wCons (wVar 4) (wCons (wVar 3) wNil))))) (gFz 9))
  (wSeq (wAsg (wMakeP "Plan" 3 0 [0, 1, 2, 3] [(.tup [])] sp_Plan__init_ exF (wCons (wVar 3) (wCons (wVar 4) (wCons (wVar 5) wNil))) wNil) (gFz 10))
  (wSeq (wAsg (wTup (wCons (wVar 3) (wCons (wVar 4) (wCons (wVar 5) (wCons (wCB nTuple (wCons (wCall [0] [] 3 sp__law_facts [] exF (wCons (wVar 0) (wCons (wVar 3) (wCons (wC (.int 12)) wNil)))) wNil)) wNil))))) (gFz 11))
  (wSeq (wAsg (wMakeP "Plan" 4 0 [0, 1, 2, 3] [] sp_Plan__init_ exF (wCons (wOp oIxA (wVar 11) (wC (.int 0))) (wCons (wOp oIxA (wVar 11) (wC (.int 1))) (wCons (wOp oIxA (wVar 11) (wC (.int 2))) (wCons (wOp oIxA (wVar 11) (wC (.int 3))) wNil)))) wNil) (gFz 12))
  (wSeq (wIfS (wOr (wNot (wTru (wCall [] [] 2 sp__law_shows [] exF (wCons (wVar 12) (wCons (wVar 11) wNil))))) (wNot (wTru (wCall [] [] 2 sp__law_shows [] exF (wCons (wVar 10) (wCons (wTup (wCons (wVar 3) (wCons (wVar 4) (wCons (wVar 5) (wCons (wTup wNil) wNil))))) wNil)))))) (wRet (wC (.bl false))) wNext)
  (w__law_right_r9 sp__law_drawn sp_Plan__init_ sp__law_facts sp__law_shows Ex))))))))))
def sp__law_right : Spd := fun ds Q _ => ∃ (p : D) (m : Int), ds = [p, .int m] ∧ Pot p ∧ ∀ p', Pot p' → Q (.bl true) [p']
theorem hw__law_right (ds : List D) (Qd : D → List D → Prop) (Ed : DX) (h : sp__law_right ds Qd Ed) : w__law_right sp__law_drawn sp_Plan__init_ sp__law_facts sp__law_shows (fun c fs xs _ => Ed c fs xs) (endD [0] Qd) (startD ["_law_pot_here", "_law_way", "_law_parts", "_law_folk", "_law_games_here", "_law_spots_here", "_law_facts_here", "_law_held", "_law_box", "_law_mate", "_law_bare", "_law_more", "_law_full"] ds) := by
  obtain ⟨p, m, rfl, ⟨a, b, c, rfl⟩, h⟩ := h
  unfold w__law_right
  repeat' (first | trivial | dsimp only [w__law_right_r9, wMakeP, makeP, wCallP, callP, wMethP, permL_nil, permL_cons, wProp, wIxI, wLockE, wiDk, wFld, wStar, wFmt, wFs, wJs, wDn, Bool.not_true, Bool.not_false, wChain, wAndV, wOrV, wNotV, wIsT, id, wNeg, wPar, wTpo, st2, st3, wFg, wFg0, puts, wip, rst, isOw, if_ff, if_tt, List.getElem?_cons_zero, List.getElem?_cons_succ, List.getElem?_nil, wSeq, wAsg, wOp, wC, wCB, wCons, wNil, wRet, wIfS, wB, wNext, wIf, wCall, wDrop, wTup, wLst, wM, wM0, wSl, wSlS, wP, wNoP, wiR1, wiR2, wiIt, wiEn, wTru, wAnd, wOr, wNot, wFor, rd_int, rd_str, rd_bl, rd_non, rd_tup, rd_lf, rd_lt, rd_df, rd_dt, rd_if, rd_it, rd_scr, startD, fz, List.map, List.length, List.replicate, List.append, List.set_cons_zero, List.set_cons_succ, Int.reduceToNat, List.cons_append, List.nil_append, Nat.reduceAdd, Nat.reduceSub, endD])
  rename_i p a b c hp
  refine i_repr rfl hp.gdParts (by omega) (by omega) ?_
  repeat' (first | trivial | dsimp only [w__law_right_r9, wMakeP, makeP, wCallP, callP, wMethP, permL_nil, permL_cons, wProp, wIxI, wLockE, wiDk, wFld, wStar, wFmt, wFs, wJs, wDn, Bool.not_true, Bool.not_false, wChain, wAndV, wOrV, wNotV, wIsT, id, wNeg, wPar, wTpo, st2, st3, wFg, wFg0, puts, wip, rst, isOw, if_ff, if_tt, List.getElem?_cons_zero, List.getElem?_cons_succ, List.getElem?_nil, wSeq, wAsg, wOp, wC, wCB, wCons, wNil, wRet, wIfS, wB, wNext, wIf, wCall, wDrop, wTup, wLst, wM, wM0, wSl, wSlS, wP, wNoP, wiR1, wiR2, wiIt, wiEn, wTru, wAnd, wOr, wNot, wFor, rd_int, rd_str, rd_bl, rd_non, rd_tup, rd_lf, rd_lt, rd_df, rd_dt, rd_if, rd_it, rd_scr, startD, fz, List.map, List.length, List.replicate, List.append, List.set_cons_zero, List.set_cons_succ, Int.reduceToNat, List.cons_append, List.nil_append, Nat.reduceAdd, Nat.reduceSub, endD])
  refine i_init p rfl rfl rfl rfl hp ?_
  repeat' (first | trivial | dsimp only [w__law_right_r9, wMakeP, makeP, wCallP, callP, wMethP, permL_nil, permL_cons, wProp, wIxI, wLockE, wiDk, wFld, wStar, wFmt, wFs, wJs, wDn, Bool.not_true, Bool.not_false, wChain, wAndV, wOrV, wNotV, wIsT, id, wNeg, wPar, wTpo, st2, st3, wFg, wFg0, puts, wip, rst, isOw, if_ff, if_tt, List.getElem?_cons_zero, List.getElem?_cons_succ, List.getElem?_nil, wSeq, wAsg, wOp, wC, wCB, wCons, wNil, wRet, wIfS, wB, wNext, wIf, wCall, wDrop, wTup, wLst, wM, wM0, wSl, wSlS, wP, wNoP, wiR1, wiR2, wiIt, wiEn, wTru, wAnd, wOr, wNot, wFor, rd_int, rd_str, rd_bl, rd_non, rd_tup, rd_lf, rd_lt, rd_df, rd_dt, rd_if, rd_it, rd_scr, startD, fz, List.map, List.length, List.replicate, List.append, List.set_cons_zero, List.set_cons_succ, Int.reduceToNat, List.cons_append, List.nil_append, Nat.reduceAdd, Nat.reduceSub, endD])
  refine i_init p rfl rfl rfl rfl hp ?_
  repeat' (first | trivial | dsimp only [w__law_right_r9, wMakeP, makeP, wCallP, callP, wMethP, permL_nil, permL_cons, wProp, wIxI, wLockE, wiDk, wFld, wStar, wFmt, wFs, wJs, wDn, Bool.not_true, Bool.not_false, wChain, wAndV, wOrV, wNotV, wIsT, id, wNeg, wPar, wTpo, st2, st3, wFg, wFg0, puts, wip, rst, isOw, if_ff, if_tt, List.getElem?_cons_zero, List.getElem?_cons_succ, List.getElem?_nil, wSeq, wAsg, wOp, wC, wCB, wCons, wNil, wRet, wIfS, wB, wNext, wIf, wCall, wDrop, wTup, wLst, wM, wM0, wSl, wSlS, wP, wNoP, wiR1, wiR2, wiIt, wiEn, wTru, wAnd, wOr, wNot, wFor, rd_int, rd_str, rd_bl, rd_non, rd_tup, rd_lf, rd_lt, rd_df, rd_dt, rd_if, rd_it, rd_scr, startD, fz, List.map, List.length, List.replicate, List.append, List.set_cons_zero, List.set_cons_succ, Int.reduceToNat, List.cons_append, List.nil_append, Nat.reduceAdd, Nat.reduceSub, endD])
  refine i_init ⟨p.folk, p.games, p.places, []⟩ rfl rfl rfl rfl hp.bare ?_
  have hfl := hp.folk.le
  repeat' (first | trivial | dsimp only [w__law_right_r9, wMakeP, makeP, wCallP, callP, wMethP, permL_nil, permL_cons, wProp, wIxI, wLockE, wiDk, wFld, wStar, wFmt, wFs, wJs, wDn, Bool.not_true, Bool.not_false, wChain, wAndV, wOrV, wNotV, wIsT, id, wNeg, wPar, wTpo, st2, st3, wFg, wFg0, puts, wip, rst, isOw, if_ff, if_tt, List.getElem?_cons_zero, List.getElem?_cons_succ, List.getElem?_nil, wSeq, wAsg, wOp, wC, wCB, wCons, wNil, wRet, wIfS, wB, wNext, wIf, wCall, wDrop, wTup, wLst, wM, wM0, wSl, wSlS, wP, wNoP, wiR1, wiR2, wiIt, wiEn, wTru, wAnd, wOr, wNot, wFor, rd_int, rd_str, rd_bl, rd_non, rd_tup, rd_lf, rd_lt, rd_df, rd_dt, rd_if, rd_it, rd_scr, startD, fz, List.map, List.length, List.replicate, List.append, List.set_cons_zero, List.set_cons_succ, Int.reduceToNat, List.cons_append, List.nil_append, Nat.reduceAdd, Nat.reduceSub, endD])
  refine i_facts p.folk rfl rfl (by omega) hp.folk.nd (by omega) fun fs a b c hf1 hf2 hf3 => ?_
  have hp2 : PlanOk ⟨p.folk, p.games, p.places, fs⟩ := ⟨hp.folk, hp.games, hp.gge, hp.gle, hp.pne, hp.plc, by show fs.length ≤ 12; omega, hf2, hf3⟩
  repeat' (first | trivial | dsimp only [w__law_right_r9, wMakeP, makeP, wCallP, callP, wMethP, permL_nil, permL_cons, wProp, wIxI, wLockE, wiDk, wFld, wStar, wFmt, wFs, wJs, wDn, Bool.not_true, Bool.not_false, wChain, wAndV, wOrV, wNotV, wIsT, id, wNeg, wPar, wTpo, st2, st3, wFg, wFg0, puts, wip, rst, isOw, if_ff, if_tt, List.getElem?_cons_zero, List.getElem?_cons_succ, List.getElem?_nil, wSeq, wAsg, wOp, wC, wCB, wCons, wNil, wRet, wIfS, wB, wNext, wIf, wCall, wDrop, wTup, wLst, wM, wM0, wSl, wSlS, wP, wNoP, wiR1, wiR2, wiIt, wiEn, wTru, wAnd, wOr, wNot, wFor, rd_int, rd_str, rd_bl, rd_non, rd_tup, rd_lf, rd_lt, rd_df, rd_dt, rd_if, rd_it, rd_scr, startD, fz, List.map, List.length, List.replicate, List.append, List.set_cons_zero, List.set_cons_succ, Int.reduceToNat, List.cons_append, List.nil_append, Nat.reduceAdd, Nat.reduceSub, endD])
  refine i_init ⟨p.folk, p.games, p.places, fs⟩ rfl rfl rfl rfl hp2 ?_
  repeat' (first | trivial | dsimp only [w__law_right_r9, wMakeP, makeP, wCallP, callP, wMethP, permL_nil, permL_cons, wProp, wIxI, wLockE, wiDk, wFld, wStar, wFmt, wFs, wJs, wDn, Bool.not_true, Bool.not_false, wChain, wAndV, wOrV, wNotV, wIsT, id, wNeg, wPar, wTpo, st2, st3, wFg, wFg0, puts, wip, rst, isOw, if_ff, if_tt, List.getElem?_cons_zero, List.getElem?_cons_succ, List.getElem?_nil, wSeq, wAsg, wOp, wC, wCB, wCons, wNil, wRet, wIfS, wB, wNext, wIf, wCall, wDrop, wTup, wLst, wM, wM0, wSl, wSlS, wP, wNoP, wiR1, wiR2, wiIt, wiEn, wTru, wAnd, wOr, wNot, wFor, rd_int, rd_str, rd_bl, rd_non, rd_tup, rd_lf, rd_lt, rd_df, rd_dt, rd_if, rd_it, rd_scr, startD, fz, List.map, List.length, List.replicate, List.append, List.set_cons_zero, List.set_cons_succ, Int.reduceToNat, List.cons_append, List.nil_append, Nat.reduceAdd, Nat.reduceSub, endD])
  refine i_shows ⟨p.folk, p.games, p.places, fs⟩ rfl rfl hp2 ?_
  repeat' (first | trivial | dsimp only [w__law_right_r9, wMakeP, makeP, wCallP, callP, wMethP, permL_nil, permL_cons, wProp, wIxI, wLockE, wiDk, wFld, wStar, wFmt, wFs, wJs, wDn, Bool.not_true, Bool.not_false, wChain, wAndV, wOrV, wNotV, wIsT, id, wNeg, wPar, wTpo, st2, st3, wFg, wFg0, puts, wip, rst, isOw, if_ff, if_tt, List.getElem?_cons_zero, List.getElem?_cons_succ, List.getElem?_nil, wSeq, wAsg, wOp, wC, wCB, wCons, wNil, wRet, wIfS, wB, wNext, wIf, wCall, wDrop, wTup, wLst, wM, wM0, wSl, wSlS, wP, wNoP, wiR1, wiR2, wiIt, wiEn, wTru, wAnd, wOr, wNot, wFor, rd_int, rd_str, rd_bl, rd_non, rd_tup, rd_lf, rd_lt, rd_df, rd_dt, rd_if, rd_it, rd_scr, startD, fz, List.map, List.length, List.replicate, List.append, List.set_cons_zero, List.set_cons_succ, Int.reduceToNat, List.cons_append, List.nil_append, Nat.reduceAdd, Nat.reduceSub, endD])
  refine i_shows ⟨p.folk, p.games, p.places, []⟩ rfl rfl hp.bare ?_
  repeat' (first | trivial | dsimp only [w__law_right_r9, wMakeP, makeP, wCallP, callP, wMethP, permL_nil, permL_cons, wProp, wIxI, wLockE, wiDk, wFld, wStar, wFmt, wFs, wJs, wDn, Bool.not_true, Bool.not_false, wChain, wAndV, wOrV, wNotV, wIsT, id, wNeg, wPar, wTpo, st2, st3, wFg, wFg0, puts, wip, rst, isOw, if_ff, if_tt, List.getElem?_cons_zero, List.getElem?_cons_succ, List.getElem?_nil, wSeq, wAsg, wOp, wC, wCB, wCons, wNil, wRet, wIfS, wB, wNext, wIf, wCall, wDrop, wTup, wLst, wM, wM0, wSl, wSlS, wP, wNoP, wiR1, wiR2, wiIt, wiEn, wTru, wAnd, wOr, wNot, wFor, rd_int, rd_str, rd_bl, rd_non, rd_tup, rd_lf, rd_lt, rd_df, rd_dt, rd_if, rd_it, rd_scr, startD, fz, List.map, List.length, List.replicate, List.append, List.set_cons_zero, List.set_cons_succ, Int.reduceToNat, List.cons_append, List.nil_append, Nat.reduceAdd, Nat.reduceSub, endD])
  refine i_shows p rfl rfl hp ?_
  repeat' (first | trivial | dsimp only [w__law_right_r9, wMakeP, makeP, wCallP, callP, wMethP, permL_nil, permL_cons, wProp, wIxI, wLockE, wiDk, wFld, wStar, wFmt, wFs, wJs, wDn, Bool.not_true, Bool.not_false, wChain, wAndV, wOrV, wNotV, wIsT, id, wNeg, wPar, wTpo, st2, st3, wFg, wFg0, puts, wip, rst, isOw, if_ff, if_tt, List.getElem?_cons_zero, List.getElem?_cons_succ, List.getElem?_nil, wSeq, wAsg, wOp, wC, wCB, wCons, wNil, wRet, wIfS, wB, wNext, wIf, wCall, wDrop, wTup, wLst, wM, wM0, wSl, wSlS, wP, wNoP, wiR1, wiR2, wiIt, wiEn, wTru, wAnd, wOr, wNot, wFor, rd_int, rd_str, rd_bl, rd_non, rd_tup, rd_lf, rd_lt, rd_df, rd_dt, rd_if, rd_it, rd_scr, startD, fz, List.map, List.length, List.replicate, List.append, List.set_cons_zero, List.set_cons_succ, Int.reduceToNat, List.cons_append, List.nil_append, Nat.reduceAdd, Nat.reduceSub, endD])
  refine i_shows p rfl rfl hp ?_
  repeat' (first | trivial | dsimp only [w__law_right_r9, wMakeP, makeP, wCallP, callP, wMethP, permL_nil, permL_cons, wProp, wIxI, wLockE, wiDk, wFld, wStar, wFmt, wFs, wJs, wDn, Bool.not_true, Bool.not_false, wChain, wAndV, wOrV, wNotV, wIsT, id, wNeg, wPar, wTpo, st2, st3, wFg, wFg0, puts, wip, rst, isOw, if_ff, if_tt, List.getElem?_cons_zero, List.getElem?_cons_succ, List.getElem?_nil, wSeq, wAsg, wOp, wC, wCB, wCons, wNil, wRet, wIfS, wB, wNext, wIf, wCall, wDrop, wTup, wLst, wM, wM0, wSl, wSlS, wP, wNoP, wiR1, wiR2, wiIt, wiEn, wTru, wAnd, wOr, wNot, wFor, rd_int, rd_str, rd_bl, rd_non, rd_tup, rd_lf, rd_lt, rd_df, rd_dt, rd_if, rd_it, rd_scr, startD, fz, List.map, List.length, List.replicate, List.append, List.set_cons_zero, List.set_cons_succ, Int.reduceToNat, List.cons_append, List.nil_append, Nat.reduceAdd, Nat.reduceSub, endD])
  refine i_shows p rfl rfl hp ?_
  repeat' (first | trivial | dsimp only [w__law_right_r9, wMakeP, makeP, wCallP, callP, wMethP, permL_nil, permL_cons, wProp, wIxI, wLockE, wiDk, wFld, wStar, wFmt, wFs, wJs, wDn, Bool.not_true, Bool.not_false, wChain, wAndV, wOrV, wNotV, wIsT, id, wNeg, wPar, wTpo, st2, st3, wFg, wFg0, puts, wip, rst, isOw, if_ff, if_tt, List.getElem?_cons_zero, List.getElem?_cons_succ, List.getElem?_nil, wSeq, wAsg, wOp, wC, wCB, wCons, wNil, wRet, wIfS, wB, wNext, wIf, wCall, wDrop, wTup, wLst, wM, wM0, wSl, wSlS, wP, wNoP, wiR1, wiR2, wiIt, wiEn, wTru, wAnd, wOr, wNot, wFor, rd_int, rd_str, rd_bl, rd_non, rd_tup, rd_lf, rd_lt, rd_df, rd_dt, rd_if, rd_it, rd_scr, startD, fz, List.map, List.length, List.replicate, List.append, List.set_cons_zero, List.set_cons_succ, Int.reduceToNat, List.cons_append, List.nil_append, Nat.reduceAdd, Nat.reduceSub, endD])
  refine i_repr rfl hp.gdParts (by omega) (by omega) ?_
  repeat' (first | trivial | dsimp only [w__law_right_r9, wMakeP, makeP, wCallP, callP, wMethP, permL_nil, permL_cons, wProp, wIxI, wLockE, wiDk, wFld, wStar, wFmt, wFs, wJs, wDn, Bool.not_true, Bool.not_false, wChain, wAndV, wOrV, wNotV, wIsT, id, wNeg, wPar, wTpo, st2, st3, wFg, wFg0, puts, wip, rst, isOw, if_ff, if_tt, List.getElem?_cons_zero, List.getElem?_cons_succ, List.getElem?_nil, wSeq, wAsg, wOp, wC, wCB, wCons, wNil, wRet, wIfS, wB, wNext, wIf, wCall, wDrop, wTup, wLst, wM, wM0, wSl, wSlS, wP, wNoP, wiR1, wiR2, wiIt, wiEn, wTru, wAnd, wOr, wNot, wFor, rd_int, rd_str, rd_bl, rd_non, rd_tup, rd_lf, rd_lt, rd_df, rd_dt, rd_if, rd_it, rd_scr, startD, fz, List.map, List.length, List.replicate, List.append, List.set_cons_zero, List.set_cons_succ, Int.reduceToNat, List.cons_append, List.nil_append, Nat.reduceAdd, Nat.reduceSub, endD])
  rw [decide_eq_true rfl]
  exact h _ ⟨_, _, _, rfl⟩
theorem i_right {a b c m : Int} {Q : D → List D → Prop} {E : DX} (q : ∀ a b c, Q (.bl true) [.lst true [.int a, .int b, .int c]]) : sp__law_right [.lst true [.int a, .int b, .int c], .int m] Q E :=
  ⟨_, _, rfl, ⟨_, _, _, rfl⟩, fun p' ⟨a, b, c, e⟩ => e ▸ q a b c⟩
local macro_rules
  | `(tactic| trivial) => `(tactic| with_reducible first | refine i_right (fun a b c => ?_))
def w_law_r1 (sp__law_pot : Spd) (sp__law_cell : Spd) (sp__law_right : Spd) (sp__law_draw : Spd) (Ex : DXs) : WS :=
  (wRet (wC (.bl true)))
def w_law (sp__law_pot : Spd) (sp__law_cell : Spd) (sp__law_right : Spd) (sp__law_draw : Spd) (Ex : DXs) : WS :=
  (wSeq (wFg [1, 2] (wFg0 [1, 2] (wFor (wiR1 (wCons (wCB nMax (wCons (wC (.int 2)) (wCons (wCB nMin (wCons (wCB nLenS (wCons (wVar 0) wNil)) (wCons (wC (.int 4)) wNil))) wNil))) wNil)) (gFz 1)
  (wFg [1, 2] (wSeq (wAsg (wCall [] [] 1 sp__law_pot [] exF (wCons (wCall [] [] 2 sp__law_cell [] exF (wCons (wVar 0) (wCons (wVar 1) wNil))) wNil)) (gOw 2))
  (wIfS (wNot (wTru (wCall [0] [] 2 sp__law_right [] exF (wCons (wVar 2) (wCons (wIf (wB (wOp oEq (wVar 1) (wC (.int 0)))) (wC (.int 0)) (wOp oAdd (wC (.int 1)) (wCall [0] [] 2 sp__law_draw [] exF (wCons (wVar 2) (wCons (wC (.int 3)) wNil))))) wNil))))) (wRet (wC (.bl false))) wNext))))))
  (w_law_r1 sp__law_pot sp__law_cell sp__law_right sp__law_draw Ex))
def sp_law : Spd := fun ds Q _ => ∃ ns, ds = [.scr ns] ∧ Q (.bl true) []
theorem hw_law (ds : List D) (Qd : D → List D → Prop) (Ed : DX) (h : sp_law ds Qd Ed) : w_law sp__law_pot sp__law_cell sp__law_right sp__law_draw (fun c fs xs _ => Ed c fs xs) (endD [] Qd) (startD ["_law_cells", "_law_k", "_law_pot_here"] ds) := by
  obtain ⟨ns, rfl, h⟩ := h
  unfold w_law
  repeat' (first | trivial | dsimp only [w_law_r1, wMakeP, makeP, wCallP, callP, wMethP, permL_nil, permL_cons, wProp, wIxI, wLockE, wiDk, wFld, wStar, wFmt, wFs, wJs, wDn, Bool.not_true, Bool.not_false, wChain, wAndV, wOrV, wNotV, wIsT, id, wNeg, wPar, wTpo, st2, st3, wFg, wFg0, puts, wip, rst, isOw, if_ff, if_tt, List.getElem?_cons_zero, List.getElem?_cons_succ, List.getElem?_nil, wSeq, wAsg, wOp, wC, wCB, wCons, wNil, wRet, wIfS, wB, wNext, wIf, wCall, wDrop, wTup, wLst, wM, wM0, wSl, wSlS, wP, wNoP, wiR1, wiR2, wiIt, wiEn, wTru, wAnd, wOr, wNot, wFor, rd_int, rd_str, rd_bl, rd_non, rd_tup, rd_lf, rd_lt, rd_df, rd_dt, rd_if, rd_it, rd_scr, startD, fz, List.map, List.length, List.replicate, List.append, List.set_cons_zero, List.set_cons_succ, Int.reduceToNat, List.cons_append, List.nil_append, Nat.reduceAdd, Nat.reduceSub, endD])
  refine ⟨fun i ρ => ρ = [some (.scr ns : D), none, none], rfl, ?_, ?_⟩
  · rintro i d ρ hd rfl
    obtain ⟨hi, rfl⟩ := rng_at hd
    have hi : (i : Int) < 100 := by
      revert hi
      split <;> (try split) <;> omega
    repeat' (first | trivial | dsimp only [w_law_r1, wMakeP, makeP, wCallP, callP, wMethP, permL_nil, permL_cons, wProp, wIxI, wLockE, wiDk, wFld, wStar, wFmt, wFs, wJs, wDn, Bool.not_true, Bool.not_false, wChain, wAndV, wOrV, wNotV, wIsT, id, wNeg, wPar, wTpo, st2, st3, wFg, wFg0, puts, wip, rst, isOw, if_ff, if_tt, List.getElem?_cons_zero, List.getElem?_cons_succ, List.getElem?_nil, wSeq, wAsg, wOp, wC, wCB, wCons, wNil, wRet, wIfS, wB, wNext, wIf, wCall, wDrop, wTup, wLst, wM, wM0, wSl, wSlS, wP, wNoP, wiR1, wiR2, wiIt, wiEn, wTru, wAnd, wOr, wNot, wFor, rd_int, rd_str, rd_bl, rd_non, rd_tup, rd_lf, rd_lt, rd_df, rd_dt, rd_if, rd_it, rd_scr, startD, fz, List.map, List.length, List.replicate, List.append, List.set_cons_zero, List.set_cons_succ, Int.reduceToNat, List.cons_append, List.nil_append, Nat.reduceAdd, Nat.reduceSub, endD])
  · rintro ρ rfl
    repeat' (first | trivial | dsimp only [w_law_r1, wMakeP, makeP, wCallP, callP, wMethP, permL_nil, permL_cons, wProp, wIxI, wLockE, wiDk, wFld, wStar, wFmt, wFs, wJs, wDn, Bool.not_true, Bool.not_false, wChain, wAndV, wOrV, wNotV, wIsT, id, wNeg, wPar, wTpo, st2, st3, wFg, wFg0, puts, wip, rst, isOw, if_ff, if_tt, List.getElem?_cons_zero, List.getElem?_cons_succ, List.getElem?_nil, wSeq, wAsg, wOp, wC, wCB, wCons, wNil, wRet, wIfS, wB, wNext, wIf, wCall, wDrop, wTup, wLst, wM, wM0, wSl, wSlS, wP, wNoP, wiR1, wiR2, wiIt, wiEn, wTru, wAnd, wOr, wNot, wFor, rd_int, rd_str, rd_bl, rd_non, rd_tup, rd_lf, rd_lt, rd_df, rd_dt, rd_if, rd_it, rd_scr, startD, fz, List.map, List.length, List.replicate, List.append, List.set_cons_zero, List.set_cons_succ, Int.reduceToNat, List.cons_append, List.nil_append, Nat.reduceAdd, Nat.reduceSub, endD])
end L
namespace L
open PySem PySem.Spec PyProof.Rows L2 M
def top (i : Nat) : Stmt := PySem.Challenge.pw_matchplans_k02_plans_made.main.body.getD i (.Pass ⟨0, 0, 0, 0⟩)
section
variable {P : Program} {w : World} {K : PySem.W.Frag} {ca : Str → Addr} {mg : Str → Option Value} {base : Heap} {f : Addr} {fd : FuncData}
abbrev s__law_pot : Stmt := top 32
theorem sc__law_pot : FnScope ["_law_cell_here", "_law_great"] ["_law_cell_here"] (defScope s__law_pot) := ⟨rfl, rfl, rfl, by decide +kernel, rfl, by decide +kernel, by decide +kernel⟩
theorem ok__law_pot {sp : Spd} {dvs0 : List V} {kws0 : List (Str × V)} (F : FunD K "_law_pot" "_law_pot" (defArgs s__law_pot) (defBody s__law_pot) (defScope s__law_pot) dvs0 kws0 f fd) (B : Bt mg)
    (hlen : ∀ ds Qd Ed, sp ds Qd Ed → ds.length = 1) (hw : ∀ ds Qd Ed, sp ds Qd Ed → w__law_pot (fun c fs xs _ => Ed c fs xs) (endD [] Qd) (startD ["_law_cell_here", "_law_great"] ds)) :
    FnG P w K mg base (L2.CX P w) 1 f fd ["_law_cell_here"] (lift K ca [] sp) := by
  refine fn_lift (k := 0) F sc__law_pot (by decide) hlen (w__law_pot) (fun cdv A outer s H E hr G Ex hK hca hpm lk => ?_) hw
  have hU := hr.rm.units
  have hU5 : (A.deeper (envOfC "_law_pot" (defScope s__law_pot) s.heap.objs.size f cdv)).units + 65 < cLine := by have := hr.rm.un; omega
  subst hK hca
  exact (ds_cons (ds_asg (d_abs (hg := by rfl) (hm := B.abs) (ha := (da_cons (le_var (pv 0)) da_nil))) (dg_name sc__law_pot.nd rfl (by first | exact .inl rfl | exact .inr rfl) (pmne hpm)))
  (ds_one (ds_ret (d_lst (da_cons (d_mod (d_int1 (hg := by rfl) (hm := B.int) (ha := (da_cons (d_add rfl (d_mul (le_var (pv 0)) d_int) d_int) da_nil))) d_int) (da_cons (d_if (dt_cm c_ge (le_var (pv 1)) (d_pow d_int d_int)) (le_var (pv 1)) d_int) (da_cons d_int da_nil)))))))
abbrev s__law_cell : Stmt := top 31
theorem sc__law_cell : FnScope ["_law_cells", "_law_k", "_law_mixed", "_law_each"] ["_law_cells", "_law_k"] (defScope s__law_cell) := ⟨rfl, rfl, rfl, by decide +kernel, rfl, by decide +kernel, by decide +kernel⟩
theorem ok__law_cell {sp : Spd} {dvs0 : List V} {kws0 : List (Str × V)} (F : FunD K "_law_cell" "_law_cell" (defArgs s__law_cell) (defBody s__law_cell) (defScope s__law_cell) dvs0 kws0 f fd) (B : Bt mg)
    (hlen : ∀ ds Qd Ed, sp ds Qd Ed → ds.length = 2) (hw : ∀ ds Qd Ed, sp ds Qd Ed → w__law_cell (fun c fs xs _ => Ed c fs xs) (endD [] Qd) (startD ["_law_cells", "_law_k", "_law_mixed", "_law_each"] ds)) :
    FnG P w K mg base (L2.CX P w) 1 f fd ["_law_cells", "_law_k"] (lift K ca [] sp) := by
  refine fn_lift (k := 0) F sc__law_cell (by decide) hlen (w__law_cell) (fun cdv A outer s H E hr G Ex hK hca hpm lk => ?_) hw
  have hU := hr.rm.units
  have hU5 : (A.deeper (envOfC "_law_cell" (defScope s__law_cell) s.heap.objs.size f cdv)).units + 65 < cLine := by have := hr.rm.un; omega
  subst hK hca
  exact (ds_cons (ds_if (dt_cm c_lt (le_var (pv 1)) (d_lenS (by rfl) (by rfl) B.len (da_cons (le_var (pv 0)) da_nil))) (ds_one (ds_ret (d_ixS rfl (le_var (pv 0)) (le_var (pv 1))))) ds_nil)
  (ds_cons (ds_asg (d_add rfl d_int (d_mul (d_mul d_int (le_var (pv 1))) (le_var (pv 1)))) (dg_name sc__law_cell.nd rfl (by first | exact .inl rfl | exact .inr rfl) (pmne hpm)))
  (ds_cons (ds_fg (vs := [3]) (ds_fg0 (vs := [3]) (ds_for (L2.passes_of rfl) rfl (di_any rfl (d_slS rfl (le_var (pv 0)) do_none (do_some d_int))) (dg_name sc__law_cell.nd rfl (by first | exact .inl rfl | exact .inr rfl) (pmne hpm))
  (dss_fg (vs := [3]) (ds_one (ds_asg (d_mod (d_int1 (hg := by rfl) (hm := B.int) (ha := (da_cons (d_add rfl (d_mul (le_var (pv 2)) d_int) (le_var (pv 3))) da_nil))) d_int) (dg_name sc__law_cell.nd rfl (by first | exact .inl rfl | exact .inr rfl) (pmne hpm))))))))
  (ds_one (ds_ret (le_var (pv 2)))))))
abbrev s__law_draw : Stmt := top 33
theorem sc__law_draw : FnScope ["_law_pot_here", "_law_many", "_law_seed", "_law_digit"] ["_law_pot_here", "_law_many"] (defScope s__law_draw) := ⟨rfl, rfl, rfl, by decide +kernel, rfl, by decide +kernel, by decide +kernel⟩
theorem ok__law_draw {sp : Spd} {dvs0 : List V} {kws0 : List (Str × V)} (F : FunD K "_law_draw" "_law_draw" (defArgs s__law_draw) (defBody s__law_draw) (defScope s__law_draw) dvs0 kws0 f fd) (B : Bt mg)
    (hlen : ∀ ds Qd Ed, sp ds Qd Ed → ds.length = 2) (hw : ∀ ds Qd Ed, sp ds Qd Ed → w__law_draw (fun c fs xs _ => Ed c fs xs) (endD [0] Qd) (startD ["_law_pot_here", "_law_many", "_law_seed", "_law_digit"] ds)) :
    FnG P w K mg base (L2.CX P w) 1 f fd ["_law_pot_here", "_law_many"] (lift K ca [0] sp) := by
  refine fn_lift (k := 0) F sc__law_draw (by decide) hlen (w__law_draw) (fun cdv A outer s H E hr G Ex hK hca hpm lk => ?_) hw
  have hU := hr.rm.units
  have hU5 : (A.deeper (envOfC "_law_draw" (defScope s__law_draw) s.heap.objs.size f cdv)).units + 65 < cLine := by have := hr.rm.un; omega
  subst hK hca
  exact (ds_cons (ds_asg (d_add rfl (d_ixA hU rfl (le_var (pv 0)) d_int) d_int) (dg_setA (pg_sub (le_var (pv 0)) d_int (set_any hU))))
  (ds_cons (ds_asg (d_int1 (hg := by rfl) (hm := B.int) (ha := (da_cons (d_ixA hU rfl (le_var (pv 0)) d_int) da_nil))) (dg_name sc__law_draw.nd rfl (by first | exact .inl rfl | exact .inr rfl) (pmne hpm)))
  (ds_cons (ds_asg (d_mod (d_int1 (hg := by rfl) (hm := B.int) (ha := (da_cons (d_add rfl (d_add rfl (d_mul (le_var (pv 2)) (d_add rfl (d_mod (d_int1 (hg := by rfl) (hm := B.int) (ha := (da_cons (le_var (pv 2)) da_nil))) d_int) d_int)) (d_mul d_int (d_ixA hU rfl (le_var (pv 0)) d_int))) d_int) da_nil))) d_int) (dg_setA (pg_sub (le_var (pv 0)) d_int (set_any hU))))
  (ds_cons (ds_fg (vs := [3]) (ds_if (dt_cm c_gt (d_ixA hU rfl (le_var (pv 0)) d_int) d_int) (ds_cons (ds_asg (d_divmod (hg := by rfl) (hm := B.divmod) (ha := (da_cons (d_ixA hU rfl (le_var (pv 0)) d_int) (da_cons (le_var (pv 1)) da_nil)))) (dg_tup rfl rfl (dgs_cons (dg_setA (pg_sub (le_var (pv 0)) d_int (set_any hU))) (dgs_cons (dg_name sc__law_draw.nd rfl (by first | exact .inl rfl | exact .inr rfl) (pmne hpm)) dgs_nil))))
  (ds_one (ds_ret (le_var (pv 3))))) ds_nil))
  (ds_one (ds_ret (d_mod (d_int1 (hg := by rfl) (hm := B.int) (ha := (da_cons (d_fdiv (d_ixA hU rfl (le_var (pv 0)) d_int) d_int) da_nil))) (le_var (pv 1)))))))))
abbrev s__law_name : Stmt := top 34
theorem sc__law_name : FnScope ["_law_pot_here", "_law_taken", "_law_letters", "_law_way", "_law_word", "_law_k", "_law_spare"] ["_law_pot_here", "_law_taken"] (defScope s__law_name) := ⟨rfl, rfl, rfl, by decide +kernel, rfl, by decide +kernel, by decide +kernel⟩
theorem ok__law_name (sp__law_draw : Spd) {sp : Spd} {dvs0 : List V} {kws0 : List (Str × V)} (F : FunD K "_law_name" "_law_name" (defArgs s__law_name) (defBody s__law_name) (defScope s__law_name) dvs0 kws0 f fd) (B : Bt mg) (c__law_draw : Cal P w K ca mg base 1 "_law_draw" [0] sp__law_draw)
    (hlen : ∀ ds Qd Ed, sp ds Qd Ed → ds.length = 2) (hw : ∀ ds Qd Ed, sp ds Qd Ed → w__law_name sp__law_draw (fun c fs xs _ => Ed c fs xs) (endD [0] Qd) (startD ["_law_pot_here", "_law_taken", "_law_letters", "_law_way", "_law_word", "_law_k", "_law_spare"] ds)) :
    FnG P w K mg base (L2.CX P w) 2 f fd ["_law_pot_here", "_law_taken"] (lift K ca [0] sp) := by
  refine fn_lift (k := 1) F sc__law_name (by decide) hlen (w__law_name sp__law_draw) (fun cdv A outer s H E hr G Ex hK hca hpm lk => ?_) hw
  have hU := hr.rm.units
  have hU5 : (A.deeper (envOfC "_law_name" (defScope s__law_name) s.heap.objs.size f cdv)).units + 65 < cLine := by have := hr.rm.un; omega
  subst hK hca
  exact (ds_cons (ds_asg d_str (dg_name sc__law_name.nd rfl (by first | exact .inl rfl | exact .inr rfl) (pmne hpm)))
  (ds_cons (ds_asg (d_c c__law_draw hr (da_cons (le_var (pv 0)) (da_cons d_int da_nil))) (dg_name sc__law_name.nd rfl (by first | exact .inl rfl | exact .inr rfl) (pmne hpm)))
  (ds_cons (ds_fg (vs := [5]) (ds_if (dt_cm c_lt (le_var (pv 3)) d_int) (ds_one (ds_asg (d_ixA hU rfl (d_lst (da_cons d_str (da_cons d_str (da_cons d_str da_nil)))) (le_var (pv 3))) (dg_name sc__law_name.nd rfl (by first | exact .inl rfl | exact .inr rfl) (pmne hpm)))) (ds_cons (ds_asg (d_ixA hU rfl (le_var (pv 2)) (d_c c__law_draw hr (da_cons (le_var (pv 0)) (da_cons d_int da_nil)))) (dg_name sc__law_name.nd rfl (by first | exact .inl rfl | exact .inr rfl) (pmne hpm)))
  (ds_one (ds_fg (vs := [5]) (ds_fg0 (vs := [5]) (ds_for (L2.passes_of rfl) rfl (di_r1 (by rfl) B.range (da_cons (d_ixA hU rfl (d_lst (da_cons d_int (da_cons d_int (da_cons d_int (da_cons d_int (da_cons d_int (da_cons d_int (da_cons d_int (da_cons d_int da_nil))))))))) (d_c c__law_draw hr (da_cons (le_var (pv 0)) (da_cons d_int da_nil)))) da_nil)) (dg_name sc__law_name.nd rfl (by first | exact .inl rfl | exact .inr rfl) (pmne hpm))
  (dss_fg (vs := [5]) (ds_one (ds_asg (d_add rfl (le_var (pv 4)) (d_ixA hU rfl (d_add rfl (le_var (pv 2)) d_str) (d_c c__law_draw hr (da_cons (le_var (pv 0)) (da_cons d_int da_nil))))) (dg_name sc__law_name.nd rfl (by first | exact .inl rfl | exact .inr rfl) (pmne hpm))))))))))))
  (ds_cons (ds_fg (vs := [6]) (ds_fg0 (vs := [6]) (ds_for (L2.passes_of rfl) rfl (di_any rfl (d_add rfl (d_lst (da_cons (le_var (pv 4)) da_nil)) (d_lc (X := cxOf (L2.CX P w) P w G.K mg base _ _ _ f cdv A outer s H E) rfl sc__law_name.nd (di_r1 (by rfl) B.range (da_cons d_int da_nil)) (blkOk_by (own := [("_law_k", 5)]) (N := ["_law_pot_here", "_law_taken", "_law_letters", "_law_way", "_law_word", "_law_k", "_law_spare"]) (sc := defScope s__law_name) (by decide +kernel)) (fun s1 H1 C1 l1 p1 => (dg_name sc__law_name.nd rfl (by first | exact .inl rfl | exact .inr rfl) (pmne hpm))) (fun s1 H1 C1 l1 p1 => dpt_nil) (fun s1 H1 C1 l1 p1 => (d_add rfl d_str (d_str1 (hg := by rfl) (hm := B.str) (ha := (da_cons (le_var (pv 5)) da_nil))))) (by decide) (pmni hpm) ))) (dg_name sc__law_name.nd rfl (by first | exact .inl rfl | exact .inr rfl) (pmne hpm))
  (dss_fg (vs := [6]) (ds_one (ds_if (dt_cm (c_notInB rfl hU5) (le_var (pv 6)) (le_var (pv 1))) (ds_one (ds_ret (le_var (pv 6)))) ds_nil))))))
  (ds_one (ds_ret d_str))))))
abbrev s__law_names : Stmt := top 35
theorem sc__law_names : FnScope ["_law_pot_here", "_law_many", "_law_taken", "_law_found", "_law_k"] ["_law_pot_here", "_law_many", "_law_taken"] (defScope s__law_names) := ⟨rfl, rfl, rfl, by decide +kernel, rfl, by decide +kernel, by decide +kernel⟩
theorem ok__law_names (sp__law_name : Spd) {sp : Spd} {dvs0 : List V} {kws0 : List (Str × V)} (F : FunD K "_law_names" "_law_names" (defArgs s__law_names) (defBody s__law_names) (defScope s__law_names) dvs0 kws0 f fd) (B : Bt mg) (c__law_name : Cal P w K ca mg base 2 "_law_name" [0] sp__law_name)
    (hlen : ∀ ds Qd Ed, sp ds Qd Ed → ds.length = 3) (hw : ∀ ds Qd Ed, sp ds Qd Ed → w__law_names sp__law_name (fun c fs xs _ => Ed c fs xs) (endD [0] Qd) (startD ["_law_pot_here", "_law_many", "_law_taken", "_law_found", "_law_k"] ds)) :
    FnG P w K mg base (L2.CX P w) 3 f fd ["_law_pot_here", "_law_many", "_law_taken"] (lift K ca [0] sp) := by
  refine fn_lift (k := 2) F sc__law_names (by decide) hlen (w__law_names sp__law_name) (fun cdv A outer s H E hr G Ex hK hca hpm lk => ?_) hw
  have hU := hr.rm.units
  have hU5 : (A.deeper (envOfC "_law_names" (defScope s__law_names) s.heap.objs.size f cdv)).units + 65 < cLine := by have := hr.rm.un; omega
  subst hK hca
  exact (ds_cons (ds_asg (d_lst da_nil) (dg_own sc__law_names.nd rfl (by first | exact .inl rfl | exact .inr rfl) (pmne hpm)))
  (ds_cons (ds_fg (vs := [4]) (ds_fg0 (vs := [4]) (ds_for (L2.passes_of rfl) rfl (di_r1 (by rfl) B.range (da_cons (le_var (pv 1)) da_nil)) (dg_name sc__law_names.nd rfl (by first | exact .inl rfl | exact .inr rfl) (pmne hpm))
  (dss_fg (vs := [4]) (ds_one (ds_expr (d_append rfl (le_var (pv 3)) (da_cons (d_c c__law_name hr (da_cons (le_var (pv 0)) (da_cons (d_add rfl (d_list (hK := rfl) (hg := by rfl) (hm := B.list) (ha := (da_cons (le_var (pv 2)) da_nil))) (le_var (pv 3))) da_nil))) da_nil))))))))
  (ds_one (ds_ret (le_var (pv 3))))))
abbrev s__law_games : Stmt := top 37
theorem sc__law_games : FnScope ["_law_pot_here", "_law_folk", "_law_many", "_law_there", "_law_taken", "_law_found", "_law_k", "_law_own", "_law_near", "_law_far"] ["_law_pot_here", "_law_folk", "_law_many"] (defScope s__law_games) := ⟨rfl, rfl, rfl, by decide +kernel, rfl, by decide +kernel, by decide +kernel⟩
theorem ok__law_games (sp__law_name : Spd) (sp__law_draw : Spd) {sp : Spd} {dvs0 : List V} {kws0 : List (Str × V)} (F : FunD K "_law_games" "_law_games" (defArgs s__law_games) (defBody s__law_games) (defScope s__law_games) dvs0 kws0 f fd) (B : Bt mg) (c__law_name : Cal P w K ca mg base 2 "_law_name" [0] sp__law_name) (c__law_draw : Cal P w K ca mg base 1 "_law_draw" [0] sp__law_draw)
    (hlen : ∀ ds Qd Ed, sp ds Qd Ed → ds.length = 3) (hw : ∀ ds Qd Ed, sp ds Qd Ed → w__law_games sp__law_name sp__law_draw (fun c fs xs _ => Ed c fs xs) (endD [0] Qd) (startD ["_law_pot_here", "_law_folk", "_law_many", "_law_there", "_law_taken", "_law_found", "_law_k", "_law_own", "_law_near", "_law_far"] ds)) :
    FnG P w K mg base (L2.CX P w) 3 f fd ["_law_pot_here", "_law_folk", "_law_many"] (lift K ca [0] sp) := by
  refine fn_lift (k := 2) F sc__law_games (by decide) hlen (w__law_games sp__law_name sp__law_draw) (fun cdv A outer s H E hr G Ex hK hca hpm lk => ?_) hw
  have hU := hr.rm.units
  have hU5 : (A.deeper (envOfC "_law_games" (defScope s__law_games) s.heap.objs.size f cdv)).units + 65 < cLine := by have := hr.rm.un; omega
  subst hK hca
  exact (ds_cons (ds_par3 rfl sc__law_games.nd rfl rfl rfl (by decide) (by decide) (by decide) rfl rfl rfl (pmne hpm) (pmne hpm) (pmne hpm) (da_cons (d_list (hK := rfl) (hg := by rfl) (hm := B.list) (ha := (da_cons (le_var (pv 1)) da_nil))) (da_cons (d_list (hK := rfl) (hg := by rfl) (hm := B.list) (ha := (da_cons (le_var (pv 1)) da_nil))) (da_cons (d_lst da_nil) da_nil))))
  (ds_cons (ds_fg (vs := [6, 7, 8, 9]) (ds_fg0 (vs := [6, 7, 8, 9]) (ds_for (L2.passes_of rfl) rfl (di_r1 (by rfl) B.range (da_cons (le_var (pv 2)) da_nil)) (dg_name sc__law_games.nd rfl (by first | exact .inl rfl | exact .inr rfl) (pmne hpm))
  (dss_fg (vs := [6, 7, 8, 9]) (ds_cons (ds_asg (d_c c__law_name hr (da_cons (le_var (pv 0)) (da_cons (le_var (pv 4)) da_nil))) (dg_name sc__law_games.nd rfl (by first | exact .inl rfl | exact .inr rfl) (pmne hpm)))
  (ds_cons (ds_asg (d_popAt rfl (le_var (pv 3)) (da_cons (d_c c__law_draw hr (da_cons (le_var (pv 0)) (da_cons (d_len1 (by rfl) (by rfl) B.len (da_cons (le_var (pv 3)) da_nil)) da_nil))) da_nil)) (dg_name sc__law_games.nd rfl (by first | exact .inl rfl | exact .inr rfl) (pmne hpm)))
  (ds_cons (ds_asg (d_popAt rfl (le_var (pv 3)) (da_cons (d_c c__law_draw hr (da_cons (le_var (pv 0)) (da_cons (d_len1 (by rfl) (by rfl) B.len (da_cons (le_var (pv 3)) da_nil)) da_nil))) da_nil)) (dg_name sc__law_games.nd rfl (by first | exact .inl rfl | exact .inr rfl) (pmne hpm)))
  (ds_cons (ds_expr (d_append rfl (le_var (pv 4)) (da_cons (le_var (pv 7)) da_nil)))
  (ds_cons (ds_asg (d_add rfl (le_var (pv 3)) (d_lst (da_cons (d_add rfl (le_var (pv 7)) d_str) (da_cons (d_add rfl (le_var (pv 7)) d_str) da_nil)))) (dg_own sc__law_games.nd rfl (by first | exact .inl rfl | exact .inr rfl) (pmne hpm)))
  (ds_one (ds_expr (d_append rfl (le_var (pv 5)) (da_cons (d_tup (da_cons (le_var (pv 7)) (da_cons (le_var (pv 8)) (da_cons (le_var (pv 9)) da_nil)))) da_nil)))))))))))))
  (ds_one (ds_ret (d_tup (da_cons (le_var (pv 5)) (da_cons (le_var (pv 3)) da_nil)))))))
abbrev s__law_spread : Stmt := top 36
theorem sc__law_spread : FnScope ["_law_pot_here", "_law_things", "_law_left", "_law_found", "_law_k"] ["_law_pot_here", "_law_things"] (defScope s__law_spread) := ⟨rfl, rfl, rfl, by decide +kernel, rfl, by decide +kernel, by decide +kernel⟩
theorem ok__law_spread (sp__law_draw : Spd) {sp : Spd} {dvs0 : List V} {kws0 : List (Str × V)} (F : FunD K "_law_spread" "_law_spread" (defArgs s__law_spread) (defBody s__law_spread) (defScope s__law_spread) dvs0 kws0 f fd) (B : Bt mg) (c__law_draw : Cal P w K ca mg base 1 "_law_draw" [0] sp__law_draw)
    (hlen : ∀ ds Qd Ed, sp ds Qd Ed → ds.length = 2) (hw : ∀ ds Qd Ed, sp ds Qd Ed → w__law_spread sp__law_draw (fun c fs xs _ => Ed c fs xs) (endD [0] Qd) (startD ["_law_pot_here", "_law_things", "_law_left", "_law_found", "_law_k"] ds)) :
    FnG P w K mg base (L2.CX P w) 2 f fd ["_law_pot_here", "_law_things"] (lift K ca [0] sp) := by
  refine fn_lift (k := 1) F sc__law_spread (by decide) hlen (w__law_spread sp__law_draw) (fun cdv A outer s H E hr G Ex hK hca hpm lk => ?_) hw
  have hU := hr.rm.units
  have hU5 : (A.deeper (envOfC "_law_spread" (defScope s__law_spread) s.heap.objs.size f cdv)).units + 65 < cLine := by have := hr.rm.un; omega
  subst hK hca
  exact (ds_cons (ds_par rfl sc__law_spread.nd rfl rfl (by decide) rfl rfl (pmne hpm) (pmne hpm) (da_cons (d_list (hK := rfl) (hg := by rfl) (hm := B.list) (ha := (da_cons (le_var (pv 1)) da_nil))) (da_cons (d_lst da_nil) da_nil)))
  (ds_cons (ds_fg (vs := [4]) (ds_fg0 (vs := [4]) (ds_for (L2.passes_of rfl) rfl (di_r1 (by rfl) B.range (da_cons (d_len1 (by rfl) (by rfl) B.len (da_cons (le_var (pv 2)) da_nil)) da_nil)) (dg_name sc__law_spread.nd rfl (by first | exact .inl rfl | exact .inr rfl) (pmne hpm))
  (dss_fg (vs := [4]) (ds_one (ds_expr (d_append rfl (le_var (pv 3)) (da_cons (d_popAt rfl (le_var (pv 2)) (da_cons (d_c c__law_draw hr (da_cons (le_var (pv 0)) (da_cons (d_len1 (by rfl) (by rfl) B.len (da_cons (le_var (pv 2)) da_nil)) da_nil))) da_nil)) da_nil))))))))
  (ds_one (ds_ret (le_var (pv 3))))))
abbrev s__law_spots : Stmt := top 38
theorem sc__law_spots : FnScope ["_law_pot_here", "_law_left", "_law_row", "_law_groups", "_law_each", "_law_group"] ["_law_pot_here", "_law_left"] (defScope s__law_spots) := ⟨rfl, rfl, rfl, by decide +kernel, rfl, by decide +kernel, by decide +kernel⟩
theorem ok__law_spots (sp__law_spread : Spd) (sp__law_draw : Spd) {sp : Spd} {dvs0 : List V} {kws0 : List (Str × V)} (F : FunD K "_law_spots" "_law_spots" (defArgs s__law_spots) (defBody s__law_spots) (defScope s__law_spots) dvs0 kws0 f fd) (B : Bt mg) (c__law_spread : Cal P w K ca mg base 2 "_law_spread" [0] sp__law_spread) (c__law_draw : Cal P w K ca mg base 1 "_law_draw" [0] sp__law_draw)
    (hlen : ∀ ds Qd Ed, sp ds Qd Ed → ds.length = 2) (hw : ∀ ds Qd Ed, sp ds Qd Ed → w__law_spots sp__law_spread sp__law_draw (fun c fs xs _ => Ed c fs xs) (endD [0] Qd) (startD ["_law_pot_here", "_law_left", "_law_row", "_law_groups", "_law_each", "_law_group"] ds)) :
    FnG P w K mg base (L2.CX P w) 3 f fd ["_law_pot_here", "_law_left"] (lift K ca [0] sp) := by
  refine fn_lift (k := 2) F sc__law_spots (by decide) hlen (w__law_spots sp__law_spread sp__law_draw) (fun cdv A outer s H E hr G Ex hK hca hpm lk => ?_) hw
  have hU := hr.rm.units
  have hU5 : (A.deeper (envOfC "_law_spots" (defScope s__law_spots) s.heap.objs.size f cdv)).units + 65 < cLine := by have := hr.rm.un; omega
  subst hK hca
  exact (ds_cons (ds_asg (d_c c__law_spread hr (da_cons (le_var (pv 0)) (da_cons (le_var (pv 1)) da_nil))) (dg_name sc__law_spots.nd rfl (by first | exact .inl rfl | exact .inr rfl) (pmne hpm)))
  (ds_cons (ds_asg (d_lst (da_cons (d_lst (da_cons (d_ixA hU rfl (le_var (pv 2)) d_int) da_nil)) da_nil)) (dg_own sc__law_spots.nd rfl (by first | exact .inl rfl | exact .inr rfl) (pmne hpm)))
  (ds_cons (ds_fg (vs := [4]) (ds_fg0 (vs := [4]) (ds_for (L2.passes_of rfl) rfl (di_any rfl (d_sl rfl (le_var (pv 2)) (do_some d_int) do_none)) (dg_name sc__law_spots.nd rfl (by first | exact .inl rfl | exact .inr rfl) (pmne hpm))
  (dss_fg (vs := [4]) (ds_one (ds_if (dt_cm c_gt (d_c c__law_draw hr (da_cons (le_var (pv 0)) (da_cons d_int da_nil))) d_int) (ds_one (ds_expr (d_append rfl (le_var (pv 3)) (da_cons (d_lst (da_cons (le_var (pv 4)) da_nil)) da_nil)))) (ds_one (ds_asg (d_add rfl (d_ixA hU rfl (le_var (pv 3)) (d_ng d_int)) (d_lst (da_cons (le_var (pv 4)) da_nil))) (dg_setA (pg_sub (le_var (pv 3)) (d_ng d_int) (set_any hU)))))))))))
  (ds_one (ds_ret (d_tuple (hK := rfl) (hg := by rfl) (hm := B.tuple) (ha := (da_cons (d_lc (X := cxOf (L2.CX P w) P w G.K mg base _ _ _ f cdv A outer s H E) rfl sc__law_spots.nd (di_any rfl (le_var (pv 3))) (blkOk_by (own := [("_law_group", 5)]) (N := ["_law_pot_here", "_law_left", "_law_row", "_law_groups", "_law_each", "_law_group"]) (sc := defScope s__law_spots) (by decide +kernel)) (fun s1 H1 C1 l1 p1 => (dg_name sc__law_spots.nd rfl (by first | exact .inl rfl | exact .inr rfl) (pmne hpm))) (fun s1 H1 C1 l1 p1 => dpt_nil) (fun s1 H1 C1 l1 p1 => (d_tuple (hK := rfl) (hg := by rfl) (hm := B.tuple) (ha := (da_cons (le_var (pv 5)) da_nil)))) (by decide) (pmni hpm) ) da_nil))))))))
abbrev s__law_facts : Stmt := top 39
theorem sc__law_facts : FnScope ["_law_pot_here", "_law_folk", "_law_many", "_law_line", "_law_found", "_law_k", "_law_low"] ["_law_pot_here", "_law_folk", "_law_many"] (defScope s__law_facts) := ⟨rfl, rfl, rfl, by decide +kernel, rfl, by decide +kernel, by decide +kernel⟩
theorem ok__law_facts (sp__law_spread : Spd) {sp : Spd} {dvs0 : List V} {kws0 : List (Str × V)} (F : FunD K "_law_facts" "_law_facts" (defArgs s__law_facts) (defBody s__law_facts) (defScope s__law_facts) dvs0 kws0 f fd) (B : Bt mg) (c__law_spread : Cal P w K ca mg base 2 "_law_spread" [0] sp__law_spread)
    (hlen : ∀ ds Qd Ed, sp ds Qd Ed → ds.length = 3) (hw : ∀ ds Qd Ed, sp ds Qd Ed → w__law_facts sp__law_spread (fun c fs xs _ => Ed c fs xs) (endD [0] Qd) (startD ["_law_pot_here", "_law_folk", "_law_many", "_law_line", "_law_found", "_law_k", "_law_low"] ds)) :
    FnG P w K mg base (L2.CX P w) 3 f fd ["_law_pot_here", "_law_folk", "_law_many"] (lift K ca [0] sp) := by
  refine fn_lift (k := 2) F sc__law_facts (by decide) hlen (w__law_facts sp__law_spread) (fun cdv A outer s H E hr G Ex hK hca hpm lk => ?_) hw
  have hU := hr.rm.units
  have hU5 : (A.deeper (envOfC "_law_facts" (defScope s__law_facts) s.heap.objs.size f cdv)).units + 65 < cLine := by have := hr.rm.un; omega
  subst hK hca
  exact (ds_cons (ds_asg (d_tpo (da_cons (d_c c__law_spread hr (da_cons (le_var (pv 0)) (da_cons (le_var (pv 1)) da_nil))) (da_cons (d_lst da_nil) da_nil))) (dg_tup rfl rfl (dgs_cons (dg_name sc__law_facts.nd rfl (by first | exact .inl rfl | exact .inr rfl) (pmne hpm)) (dgs_cons (dg_name sc__law_facts.nd rfl (by first | exact .inl rfl | exact .inr rfl) (pmne hpm)) dgs_nil))))
  (ds_cons (ds_fg (vs := [5]) (ds_fg0 (vs := [5]) (ds_for (L2.passes_of rfl) rfl (di_r1 (by rfl) B.range (da_cons (d_len1 (by rfl) (by rfl) B.len (da_cons (le_var (pv 3)) da_nil)) da_nil)) (dg_name sc__law_facts.nd rfl (by first | exact .inl rfl | exact .inr rfl) (pmne hpm))
  (dss_fg (vs := [5]) (ds_one (ds_asg (d_add rfl (le_var (pv 4)) (d_lc (X := cxOf (L2.CX P w) P w G.K mg base _ _ _ f cdv A outer s H E) rfl sc__law_facts.nd (di_any rfl (d_sl rfl (le_var (pv 3)) (do_some (d_add rfl (le_var (pv 5)) d_int)) do_none)) (blkOk_by (own := [("_law_low", 6)]) (N := ["_law_pot_here", "_law_folk", "_law_many", "_law_line", "_law_found", "_law_k", "_law_low"]) (sc := defScope s__law_facts) (by decide +kernel)) (fun s1 H1 C1 l1 p1 => (dg_name sc__law_facts.nd rfl (by first | exact .inl rfl | exact .inr rfl) (pmne hpm))) (fun s1 H1 C1 l1 p1 => dpt_nil) (fun s1 H1 C1 l1 p1 => (d_tup (da_cons (d_ixA hU rfl (le_var (pv 3)) (le_var (pv 5))) (da_cons (le_var (pv 6)) da_nil)))) (by decide) (pmni hpm) )) (dg_name sc__law_facts.nd rfl (by first | exact .inl rfl | exact .inr rfl) (pmne hpm))))))))
  (ds_one (ds_ret (d_sl rfl (d_c c__law_spread hr (da_cons (le_var (pv 0)) (da_cons (le_var (pv 4)) da_nil))) do_none (do_some (le_var (pv 2))))))))
abbrev s__law_drawn : Stmt := top 40
theorem sc__law_drawn : FnScope ["_law_pot_here", "_law_way", "_law_folk", "_law_many", "_law_games_here", "_law_left", "_law_spots_here"] ["_law_pot_here", "_law_way"] (defScope s__law_drawn) := ⟨rfl, rfl, rfl, by decide +kernel, rfl, by decide +kernel, by decide +kernel⟩
theorem ok__law_drawn (sp__law_names : Spd) (sp__law_draw : Spd) (sp__law_games : Spd) (sp__law_spots : Spd) (sp__law_facts : Spd) {sp : Spd} {dvs0 : List V} {kws0 : List (Str × V)} (F : FunD K "_law_drawn" "_law_drawn" (defArgs s__law_drawn) (defBody s__law_drawn) (defScope s__law_drawn) dvs0 kws0 f fd) (B : Bt mg) (c__law_names : Cal P w K ca mg base 3 "_law_names" [0] sp__law_names) (c__law_draw : Cal P w K ca mg base 1 "_law_draw" [0] sp__law_draw) (c__law_games : Cal P w K ca mg base 3 "_law_games" [0] sp__law_games) (c__law_spots : Cal P w K ca mg base 3 "_law_spots" [0] sp__law_spots) (c__law_facts : Cal P w K ca mg base 3 "_law_facts" [0] sp__law_facts)
    (hlen : ∀ ds Qd Ed, sp ds Qd Ed → ds.length = 2) (hw : ∀ ds Qd Ed, sp ds Qd Ed → w__law_drawn sp__law_names sp__law_draw sp__law_games sp__law_spots sp__law_facts (fun c fs xs _ => Ed c fs xs) (endD [0] Qd) (startD ["_law_pot_here", "_law_way", "_law_folk", "_law_many", "_law_games_here", "_law_left", "_law_spots_here"] ds)) :
    FnG P w K mg base (L2.CX P w) 4 f fd ["_law_pot_here", "_law_way"] (lift K ca [0] sp) := by
  refine fn_lift (k := 3) F sc__law_drawn (by decide) hlen (w__law_drawn sp__law_names sp__law_draw sp__law_games sp__law_spots sp__law_facts) (fun cdv A outer s H E hr G Ex hK hca hpm lk => ?_) hw
  have hU := hr.rm.units
  have hU5 : (A.deeper (envOfC "_law_drawn" (defScope s__law_drawn) s.heap.objs.size f cdv)).units + 65 < cLine := by have := hr.rm.un; omega
  subst hK hca
  exact (ds_cons (ds_asg (d_c c__law_names hr (da_cons (le_var (pv 0)) (da_cons (d_if (dt_cm (c_eq rfl hU) (le_var (pv 1)) d_int) d_int (d_add rfl d_int (d_c c__law_draw hr (da_cons (le_var (pv 0)) (da_cons d_int da_nil))))) (da_cons (d_lst da_nil) da_nil)))) (dg_name sc__law_drawn.nd rfl (by first | exact .inl rfl | exact .inr rfl) (pmne hpm)))
  (ds_cons (ds_asg (d_if (dt_cm (c_eq rfl hU) (le_var (pv 1)) d_int) d_int (d_add rfl d_int (d_c c__law_draw hr (da_cons (le_var (pv 0)) (da_cons (d_if (dt_cm (c_eq rfl hU) (le_var (pv 1)) d_int) d_int d_int) da_nil))))) (dg_name sc__law_drawn.nd rfl (by first | exact .inl rfl | exact .inr rfl) (pmne hpm)))
  (ds_cons (ds_asg (d_c c__law_games hr (da_cons (le_var (pv 0)) (da_cons (le_var (pv 2)) (da_cons (le_var (pv 3)) da_nil)))) (dg_tup rfl rfl (dgs_cons (dg_name sc__law_drawn.nd rfl (by first | exact .inl rfl | exact .inr rfl) (pmne hpm)) (dgs_cons (dg_name sc__law_drawn.nd rfl (by first | exact .inl rfl | exact .inr rfl) (pmne hpm)) dgs_nil))))
  (ds_cons (ds_asg (d_c c__law_spots hr (da_cons (le_var (pv 0)) (da_cons (le_var (pv 5)) da_nil))) (dg_name sc__law_drawn.nd rfl (by first | exact .inl rfl | exact .inr rfl) (pmne hpm)))
  (ds_cons (ds_asg (d_ixA hU rfl (d_lst (da_cons d_int (da_cons d_int (da_cons d_int (da_cons d_int (da_cons d_int (da_cons d_int da_nil))))))) (d_c c__law_draw hr (da_cons (le_var (pv 0)) (da_cons d_int da_nil)))) (dg_name sc__law_drawn.nd rfl (by first | exact .inl rfl | exact .inr rfl) (pmne hpm)))
  (ds_one (ds_ret (d_tup (da_cons (d_tuple (hK := rfl) (hg := by rfl) (hm := B.tuple) (ha := (da_cons (le_var (pv 2)) da_nil))) (da_cons (d_tuple (hK := rfl) (hg := by rfl) (hm := B.tuple) (ha := (da_cons (le_var (pv 4)) da_nil))) (da_cons (le_var (pv 6)) (da_cons (d_tuple (hK := rfl) (hg := by rfl) (hm := B.tuple) (ha := (da_cons (d_c c__law_facts hr (da_cons (le_var (pv 0)) (da_cons (le_var (pv 2)) (da_cons (le_var (pv 3)) da_nil)))) da_nil))) da_nil))))))))))))
abbrev s_is_name : Stmt := top 20
theorem sc_is_name : FnScope ["value", "sign"] ["value"] (defScope s_is_name) := ⟨rfl, rfl, rfl, by decide +kernel, rfl, by decide +kernel, by decide +kernel⟩
theorem ok_is_name {sp : Spd} {dvs0 : List V} {kws0 : List (Str × V)} (F : FunD K "is_name" "is_name" (defArgs s_is_name) (defBody s_is_name) (defScope s_is_name) dvs0 kws0 f fd) (B : Bt mg) (g_LONGEST_NAME : ∃ t, mg "LONGEST_NAME" = some (.int 8 t)) (g_LETTERS : ∃ t, mg "LETTERS" = some (.str "abcdefghijklmnopqrstuvwxyz" t)) (g_DIGITS : ∃ t, mg "DIGITS" = some (.str "0123456789" t))
    (hlen : ∀ ds Qd Ed, sp ds Qd Ed → ds.length = 1) (hw : ∀ ds Qd Ed, sp ds Qd Ed → w_is_name (fun c fs xs _ => Ed c fs xs) (endD [] Qd) (startD ["value", "sign"] ds)) :
    FnG P w K mg base (L2.CX P w) 1 f fd ["value"] (lift K ca [] sp) := by
  refine fn_lift (k := 0) F sc_is_name (by decide) hlen (w_is_name) (fun cdv A outer s H E hr G Ex hK hca hpm lk => ?_) hw
  have hU := hr.rm.units
  have hU5 : (A.deeper (envOfC "is_name" (defScope s_is_name) s.heap.objs.size f cdv)).units + 65 < cLine := by have := hr.rm.un; omega
  subst hK hca
  exact (ds_cons (ds_if ((dw_or (dt_not (dt_truth (d_isT (x := "str") rfl (by rfl) B.isinstance (by rfl) B.str (by decide +kernel) (le_var (pv 0))) rfl)) (dw_or1 (dt_not (dt_ch c_le c_le d_int (d_len1 (by rfl) (by rfl) B.len (da_cons (le_var (pv 0)) da_nil)) (d_glI g_LONGEST_NAME)))))).pt (ds_one (ds_ret d_bl)) ds_nil)
  (ds_one (ds_ret (d_and (d_cm (c_inB rfl hU5) (d_ixA hU rfl (le_var (pv 0)) d_int) (d_glS g_LETTERS)) (d_one (d_all (hc := rfl) (hK := rfl) (hg := by rfl) (hm := B.all) (ha := (da_cons (d_lc (X := cxOf (L2.CX P w) P w G.K mg base _ _ _ f cdv A outer s H E) rfl sc_is_name.nd (di_any rfl (le_var (pv 0))) (blkOk_by (own := [("sign", 1)]) (N := ["value", "sign"]) (sc := defScope s_is_name) (by decide +kernel)) (fun s1 H1 C1 l1 p1 => (dg_name sc_is_name.nd rfl (by first | exact .inl rfl | exact .inr rfl) (pmne hpm))) (fun s1 H1 C1 l1 p1 => dpt_nil) (fun s1 H1 C1 l1 p1 => (d_cm (c_inB rfl hU5) (le_var (pv 1)) (d_add rfl (d_glS g_LETTERS) (d_glS g_DIGITS)))) (by decide) (pmni hpm) ) da_nil))))))))
abbrev s_check_entries : Stmt := top 22
theorem sc_check_entries : FnScope ["value", "index", "entry"] ["value"] (defScope s_check_entries) := ⟨rfl, rfl, rfl, by decide +kernel, rfl, by decide +kernel, by decide +kernel⟩
theorem ok_check_entries (sp_is_name : Spd) {sp : Spd} {dvs0 : List V} {kws0 : List (Str × V)} (F : FunD K "check_entries" "check_entries" (defArgs s_check_entries) (defBody s_check_entries) (defScope s_check_entries) dvs0 kws0 f fd) (B : Bt mg) (g_MOST_ENTRIES : ∃ t, mg "MOST_ENTRIES" = some (.int 8 t)) (c_is_name : Cal P w K ca mg base 1 "is_name" [] sp_is_name)
    (hlen : ∀ ds Qd Ed, sp ds Qd Ed → ds.length = 1) (hw : ∀ ds Qd Ed, sp ds Qd Ed → w_check_entries sp_is_name (fun c fs xs _ => Ed c fs xs) (endD [] Qd) (startD ["value", "index", "entry"] ds)) :
    FnG P w K mg base (L2.CX P w) 3 f fd ["value"] (lift K ca [] sp) := by
  refine fn_lift (k := 2) F sc_check_entries (by decide) hlen (w_check_entries sp_is_name) (fun cdv A outer s H E hr G Ex hK hca hpm lk => ?_) hw
  have hU := hr.rm.units
  have hU5 : (A.deeper (envOfC "check_entries" (defScope s_check_entries) s.heap.objs.size f cdv)).units + 65 < cLine := by have := hr.rm.un; omega
  subst hK hca
  exact (ds_cons (ds_if ((dw_or (dt_not (dt_truth (d_isT (x := "tuple") rfl (by rfl) B.isinstance (by rfl) B.tuple (by decide +kernel) (le_var (pv 0))) rfl)) (dw_or1 (dt_cm c_lt (d_len1 (by rfl) (by rfl) B.len (da_cons (le_var (pv 0)) da_nil)) d_int)))).pt (ds_one ds_never) ds_nil)
  (ds_one (ds_fg (vs := [1, 2]) (ds_fg0 (vs := [1, 2]) (ds_for (L2.passes_of rfl) rfl (di_enum rfl (by rfl) B.enumerate (le_var (pv 0))) (dg_tup rfl rfl (dgs_cons (dg_name sc_check_entries.nd rfl (by first | exact .inl rfl | exact .inr rfl) (pmne hpm)) (dgs_cons (dg_name sc_check_entries.nd rfl (by first | exact .inl rfl | exact .inr rfl) (pmne hpm)) dgs_nil)))
  (dss_fg (vs := [1, 2]) (ds_one (ds_if ((dw_or (dt_cm (c_eq rfl hU) (le_var (pv 1)) (d_glI g_MOST_ENTRIES)) (dw_or (dt_not (dt_truth (d_c c_is_name hr (da_cons (le_var (pv 2)) da_nil)) rfl)) (dw_or1 (dt_cm (c_inB rfl hU5) (le_var (pv 2)) (d_sl rfl (le_var (pv 0)) do_none (do_some (le_var (pv 1))))))))).pt (ds_one ds_never) ds_nil))))))))
abbrev s_is_match : Stmt := top 24
theorem sc_is_match : FnScope ["value", "names", "there", "part", "name", "one", "other"] ["value", "names", "there"] (defScope s_is_match) := ⟨rfl, rfl, rfl, by decide +kernel, rfl, by decide +kernel, by decide +kernel⟩
theorem ok_is_match (sp_is_name : Spd) {sp : Spd} {dvs0 : List V} {kws0 : List (Str × V)} (F : FunD K "is_match" "is_match" (defArgs s_is_match) (defBody s_is_match) (defScope s_is_match) dvs0 kws0 f fd) (B : Bt mg) (c_is_name : Cal P w K ca mg base 1 "is_name" [] sp_is_name)
    (hlen : ∀ ds Qd Ed, sp ds Qd Ed → ds.length = 3) (hw : ∀ ds Qd Ed, sp ds Qd Ed → w_is_match sp_is_name (fun c fs xs _ => Ed c fs xs) (endD [] Qd) (startD ["value", "names", "there", "part", "name", "one", "other"] ds)) :
    FnG P w K mg base (L2.CX P w) 2 f fd ["value", "names", "there"] (lift K ca [] sp) := by
  refine fn_lift (k := 1) F sc_is_match (by decide) hlen (w_is_match sp_is_name) (fun cdv A outer s H E hr G Ex hK hca hpm lk => ?_) hw
  have hU := hr.rm.units
  have hU5 : (A.deeper (envOfC "is_match" (defScope s_is_match) s.heap.objs.size f cdv)).units + 65 < cLine := by have := hr.rm.un; omega
  subst hK hca
  exact (ds_cons (ds_if ((dw_or (dt_not (dt_truth (d_isT (x := "tuple") rfl (by rfl) B.isinstance (by rfl) B.tuple (by decide +kernel) (le_var (pv 0))) rfl)) (dw_or (dt_cm (c_ne rfl hU) (d_len1 (by rfl) (by rfl) B.len (da_cons (le_var (pv 0)) da_nil)) d_int) (dw_or1 (dt_not (dt_truth (d_all (hc := rfl) (hK := rfl) (hg := by rfl) (hm := B.all) (ha := (da_cons (d_lc (X := cxOf (L2.CX P w) P w G.K mg base _ _ _ f cdv A outer s H E) rfl sc_is_match.nd (di_any rfl (le_var (pv 0))) (blkOk_by (own := [("part", 3)]) (N := ["value", "names", "there", "part", "name", "one", "other"]) (sc := defScope s_is_match) (by decide +kernel)) (fun s1 H1 C1 l1 p1 => (dg_name sc_is_match.nd rfl (by first | exact .inl rfl | exact .inr rfl) (pmne hpm))) (fun s1 H1 C1 l1 p1 => dpt_nil) (fun s1 H1 C1 l1 p1 => (d_isT (x := "str") rfl (by rfl) B.isinstance (by rfl) B.str (by decide +kernel) (le_var (pv 3)))) (by decide) (pmni hpm) ) da_nil))) rfl)))))).pt (ds_one (ds_ret d_bl)) ds_nil)
  (ds_cons (ds_asg (le_var (pv 0)) (dg_tup rfl rfl (dgs_cons (dg_name sc_is_match.nd rfl (by first | exact .inl rfl | exact .inr rfl) (pmne hpm)) (dgs_cons (dg_name sc_is_match.nd rfl (by first | exact .inl rfl | exact .inr rfl) (pmne hpm)) (dgs_cons (dg_name sc_is_match.nd rfl (by first | exact .inl rfl | exact .inr rfl) (pmne hpm)) dgs_nil)))))
  (ds_one (ds_ret (d_and (d_c c_is_name hr (da_cons (le_var (pv 4)) da_nil)) (d_and (d_cm (c_notInB rfl hU5) (le_var (pv 4)) (le_var (pv 1))) (d_and (d_cm (c_inB rfl hU5) (le_var (pv 5)) (le_var (pv 2))) (d_and (d_cm (c_inB rfl hU5) (le_var (pv 6)) (le_var (pv 2))) (d_one (d_cm (c_ne rfl hU) (le_var (pv 5)) (le_var (pv 6))))))))))))
abbrev s_check_matches : Stmt := top 23
theorem sc_check_matches : FnScope ["entries", "value", "there", "names", "sites", "index", "match", "name", "one", "other", "source"] ["entries", "value"] (defScope s_check_matches) := ⟨rfl, rfl, rfl, by decide +kernel, rfl, by decide +kernel, by decide +kernel⟩
theorem ok_check_matches (sp_is_match : Spd) {sp : Spd} {dvs0 : List V} {kws0 : List (Str × V)} (F : FunD K "check_matches" "check_matches" (defArgs s_check_matches) (defBody s_check_matches) (defScope s_check_matches) dvs0 kws0 f fd) (B : Bt mg) (g_MOST_MATCHES : ∃ t, mg "MOST_MATCHES" = some (.int 24 t)) (c_is_match : Cal P w K ca mg base 2 "is_match" [] sp_is_match)
    (hlen : ∀ ds Qd Ed, sp ds Qd Ed → ds.length = 2) (hw : ∀ ds Qd Ed, sp ds Qd Ed → w_check_matches sp_is_match (fun c fs xs _ => Ed c fs xs) (endD [] Qd) (startD ["entries", "value", "there", "names", "sites", "index", "match", "name", "one", "other", "source"] ds)) :
    FnG P w K mg base (L2.CX P w) 3 f fd ["entries", "value"] (lift K ca [] sp) := by
  refine fn_lift (k := 2) F sc_check_matches (by decide) hlen (w_check_matches sp_is_match) (fun cdv A outer s H E hr G Ex hK hca hpm lk => ?_) hw
  have hU := hr.rm.units
  have hU5 : (A.deeper (envOfC "check_matches" (defScope s_check_matches) s.heap.objs.size f cdv)).units + 65 < cLine := by have := hr.rm.un; omega
  subst hK hca
  exact (ds_cons (ds_if ((dw_or (dt_not (dt_truth (d_isT (x := "tuple") rfl (by rfl) B.isinstance (by rfl) B.tuple (by decide +kernel) (le_var (pv 1))) rfl)) (dw_or1 (dt_cm (c_eq rfl hU) (d_len1 (by rfl) (by rfl) B.len (da_cons (le_var (pv 1)) da_nil)) d_int)))).pt (ds_one ds_never) ds_nil)
  (ds_cons (ds_par3 rfl sc_check_matches.nd rfl rfl rfl (by decide) (by decide) (by decide) rfl rfl rfl (pmne hpm) (pmne hpm) (pmne hpm) (da_cons (d_list (hK := rfl) (hg := by rfl) (hm := B.list) (ha := (da_cons (le_var (pv 0)) da_nil))) (da_cons (d_list (hK := rfl) (hg := by rfl) (hm := B.list) (ha := (da_cons (le_var (pv 0)) da_nil))) (da_cons (d_lst da_nil) da_nil))))
  (ds_cons (ds_fg (vs := [5, 6, 7, 8, 9]) (ds_fg0 (vs := [5, 6, 7, 8, 9]) (ds_for (L2.passes_of rfl) rfl (di_enum rfl (by rfl) B.enumerate (le_var (pv 1))) (dg_tup rfl rfl (dgs_cons (dg_name sc_check_matches.nd rfl (by first | exact .inl rfl | exact .inr rfl) (pmne hpm)) (dgs_cons (dg_name sc_check_matches.nd rfl (by first | exact .inl rfl | exact .inr rfl) (pmne hpm)) dgs_nil)))
  (dss_fg (vs := [5, 6, 7, 8, 9]) (ds_cons (ds_if ((dw_or (dt_cm (c_eq rfl hU) (le_var (pv 5)) (d_glI g_MOST_MATCHES)) (dw_or1 (dt_not (dt_truth (d_c c_is_match hr (da_cons (le_var (pv 6)) (da_cons (le_var (pv 3)) (da_cons (le_var (pv 2)) da_nil)))) rfl))))).pt (ds_one ds_never) ds_nil)
  (ds_cons (ds_asg (le_var (pv 6)) (dg_tup rfl rfl (dgs_cons (dg_name sc_check_matches.nd rfl (by first | exact .inl rfl | exact .inr rfl) (pmne hpm)) (dgs_cons (dg_name sc_check_matches.nd rfl (by first | exact .inl rfl | exact .inr rfl) (pmne hpm)) (dgs_cons (dg_name sc_check_matches.nd rfl (by first | exact .inl rfl | exact .inr rfl) (pmne hpm)) dgs_nil)))))
  (ds_cons (ds_expr (d_append rfl (le_var (pv 3)) (da_cons (le_var (pv 7)) da_nil)))
  (ds_cons (ds_expr (d_append rfl (le_var (pv 4)) (da_cons (d_tup (da_cons (d_index rfl (le_var (pv 2)) (da_cons (le_var (pv 8)) da_nil)) (da_cons (d_index rfl (le_var (pv 2)) (da_cons (le_var (pv 9)) da_nil)) da_nil))) da_nil)))
  (ds_one (ds_asg (d_add rfl (d_lc (X := cxOf (L2.CX P w) P w G.K mg base _ _ _ f cdv A outer s H E) rfl sc_check_matches.nd (di_any rfl (le_var (pv 2))) (blkOk_by (own := [("source", 10)]) (N := ["entries", "value", "there", "names", "sites", "index", "match", "name", "one", "other", "source"]) (sc := defScope s_check_matches) (by decide +kernel)) (fun s1 H1 C1 l1 p1 => (dg_name sc_check_matches.nd rfl (by first | exact .inl rfl | exact .inr rfl) (pmne hpm))) (fun s1 H1 C1 l1 p1 => (dpt_one (dt_cm (c_notInB rfl hU5) (le_var (pv 10)) (d_tup (da_cons (le_var (pv 8)) (da_cons (le_var (pv 9)) da_nil)))))) (fun s1 H1 C1 l1 p1 => (le_var (pv 10))) (by decide) (pmni hpm) ) (d_lst (da_cons (d_add rfl (le_var (pv 7)) d_str) (da_cons (d_add rfl (le_var (pv 7)) d_str) da_nil)))) (dg_name sc_check_matches.nd rfl (by first | exact .inl rfl | exact .inr rfl) (pmne hpm))))))))))))
  (ds_one (ds_ret (d_tup (da_cons (d_tuple (hK := rfl) (hg := by rfl) (hm := B.tuple) (ha := (da_cons (le_var (pv 4)) da_nil))) (da_cons (le_var (pv 2)) da_nil))))))))
abbrev s_check_places : Stmt := top 25
theorem sc_check_places : FnScope ["ends", "value", "found", "index", "group", "end"] ["ends", "value"] (defScope s_check_places) := ⟨rfl, rfl, rfl, by decide +kernel, rfl, by decide +kernel, by decide +kernel⟩
theorem ok_check_places {sp : Spd} {dvs0 : List V} {kws0 : List (Str × V)} (F : FunD K "check_places" "check_places" (defArgs s_check_places) (defBody s_check_places) (defScope s_check_places) dvs0 kws0 f fd) (B : Bt mg)
    (hlen : ∀ ds Qd Ed, sp ds Qd Ed → ds.length = 2) (hw : ∀ ds Qd Ed, sp ds Qd Ed → w_check_places (fun c fs xs _ => Ed c fs xs) (endD [] Qd) (startD ["ends", "value", "found", "index", "group", "end"] ds)) :
    FnG P w K mg base (L2.CX P w) 3 f fd ["ends", "value"] (lift K ca [] sp) := by
  refine fn_lift (k := 2) F sc_check_places (by decide) hlen (w_check_places) (fun cdv A outer s H E hr G Ex hK hca hpm lk => ?_) hw
  have hU := hr.rm.units
  have hU5 : (A.deeper (envOfC "check_places" (defScope s_check_places) s.heap.objs.size f cdv)).units + 65 < cLine := by have := hr.rm.un; omega
  subst hK hca
  exact (ds_cons (ds_if ((dw_or (dt_not (dt_truth (d_isT (x := "tuple") rfl (by rfl) B.isinstance (by rfl) B.tuple (by decide +kernel) (le_var (pv 1))) rfl)) (dw_or1 (dt_cm (c_eq rfl hU) (d_len1 (by rfl) (by rfl) B.len (da_cons (le_var (pv 1)) da_nil)) d_int)))).pt (ds_one ds_never) ds_nil)
  (ds_cons (ds_asg d_dn (dg_own sc_check_places.nd rfl (by first | exact .inl rfl | exact .inr rfl) (pmne hpm)))
  (ds_cons (ds_fg (vs := [3, 4, 5]) (ds_fg0 (vs := [3, 4, 5]) (ds_for (L2.passes_of rfl) rfl (di_enum rfl (by rfl) B.enumerate (le_var (pv 1))) (dg_tup rfl rfl (dgs_cons (dg_name sc_check_places.nd rfl (by first | exact .inl rfl | exact .inr rfl) (pmne hpm)) (dgs_cons (dg_name sc_check_places.nd rfl (by first | exact .inl rfl | exact .inr rfl) (pmne hpm)) dgs_nil)))
  (dss_fg (vs := [3, 4, 5]) (ds_cons (ds_if ((dw_or (dt_not (dt_truth (d_isT (x := "tuple") rfl (by rfl) B.isinstance (by rfl) B.tuple (by decide +kernel) (le_var (pv 4))) rfl)) (dw_or1 (dt_cm (c_eq rfl hU) (d_len1 (by rfl) (by rfl) B.len (da_cons (le_var (pv 4)) da_nil)) d_int)))).pt (ds_one ds_never) ds_nil)
  (ds_one (ds_fg (vs := [5]) (ds_fg0 (vs := [5]) (ds_for (L2.passes_of rfl) rfl (di_any rfl (le_var (pv 4))) (dg_name sc_check_places.nd rfl (by first | exact .inl rfl | exact .inr rfl) (pmne hpm))
  (dss_fg (vs := [5]) (ds_cons (ds_if ((dw_or (dt_not (dt_truth (d_isT (x := "str") rfl (by rfl) B.isinstance (by rfl) B.str (by decide +kernel) (le_var (pv 5))) rfl)) (dw_or (dt_cm (c_notInB rfl hU5) (le_var (pv 5)) (le_var (pv 0))) (dw_or1 (dt_cm (c_inB rfl hU5) (le_var (pv 5)) (le_var (pv 2))))))).pt (ds_one ds_never) ds_nil)
  (ds_one (ds_asg (le_var (pv 3)) (dg_setA (pg_sub (le_var (pv 2)) (le_var (pv 5)) (set_any hU))))))))))))))))
  (ds_cons (ds_if (dt_cm (c_ne rfl hU) (d_len1 (by rfl) (by rfl) B.len (da_cons (le_var (pv 2)) da_nil)) (d_len1 (by rfl) (by rfl) B.len (da_cons (le_var (pv 0)) da_nil))) (ds_one ds_never) ds_nil)
  (ds_one (ds_ret (d_tuple (hK := rfl) (hg := by rfl) (hm := B.tuple) (ha := (da_cons (d_lc (X := cxOf (L2.CX P w) P w G.K mg base _ _ _ f cdv A outer s H E) rfl sc_check_places.nd (di_any rfl (le_var (pv 0))) (blkOk_by (own := [("end", 5)]) (N := ["ends", "value", "found", "index", "group", "end"]) (sc := defScope s_check_places) (by decide +kernel)) (fun s1 H1 C1 l1 p1 => (dg_name sc_check_places.nd rfl (by first | exact .inl rfl | exact .inr rfl) (pmne hpm))) (fun s1 H1 C1 l1 p1 => dpt_nil) (fun s1 H1 C1 l1 p1 => (d_ixA hU rfl (le_var (pv 2)) (le_var (pv 5)))) (by decide) (pmni hpm) ) da_nil)))))))))
abbrev s_is_fact : Stmt := top 27
theorem sc_is_fact : FnScope ["value", "entries", "entry"] ["value", "entries"] (defScope s_is_fact) := ⟨rfl, rfl, rfl, by decide +kernel, rfl, by decide +kernel, by decide +kernel⟩
theorem ok_is_fact {sp : Spd} {dvs0 : List V} {kws0 : List (Str × V)} (F : FunD K "is_fact" "is_fact" (defArgs s_is_fact) (defBody s_is_fact) (defScope s_is_fact) dvs0 kws0 f fd) (B : Bt mg)
    (hlen : ∀ ds Qd Ed, sp ds Qd Ed → ds.length = 2) (hw : ∀ ds Qd Ed, sp ds Qd Ed → w_is_fact (fun c fs xs _ => Ed c fs xs) (endD [] Qd) (startD ["value", "entries", "entry"] ds)) :
    FnG P w K mg base (L2.CX P w) 1 f fd ["value", "entries"] (lift K ca [] sp) := by
  refine fn_lift (k := 0) F sc_is_fact (by decide) hlen (w_is_fact) (fun cdv A outer s H E hr G Ex hK hca hpm lk => ?_) hw
  have hU := hr.rm.units
  have hU5 : (A.deeper (envOfC "is_fact" (defScope s_is_fact) s.heap.objs.size f cdv)).units + 65 < cLine := by have := hr.rm.un; omega
  subst hK hca
  exact (ds_cons (ds_if ((dw_or (dt_not (dt_truth (d_isT (x := "tuple") rfl (by rfl) B.isinstance (by rfl) B.tuple (by decide +kernel) (le_var (pv 0))) rfl)) (dw_or1 (dt_cm (c_ne rfl hU) (d_len1 (by rfl) (by rfl) B.len (da_cons (le_var (pv 0)) da_nil)) d_int)))).pt (ds_one (ds_ret d_bl)) ds_nil)
  (ds_one (ds_ret (d_all (hc := rfl) (hK := rfl) (hg := by rfl) (hm := B.all) (ha := (da_cons (d_lc (X := cxOf (L2.CX P w) P w G.K mg base _ _ _ f cdv A outer s H E) rfl sc_is_fact.nd (di_any rfl (le_var (pv 0))) (blkOk_by (own := [("entry", 2)]) (N := ["value", "entries", "entry"]) (sc := defScope s_is_fact) (by decide +kernel)) (fun s1 H1 C1 l1 p1 => (dg_name sc_is_fact.nd rfl (by first | exact .inl rfl | exact .inr rfl) (pmne hpm))) (fun s1 H1 C1 l1 p1 => dpt_nil) (fun s1 H1 C1 l1 p1 => (d_and (d_isT (x := "str") rfl (by rfl) B.isinstance (by rfl) B.str (by decide +kernel) (le_var (pv 2))) (d_one (d_cm (c_inB rfl hU5) (le_var (pv 2)) (le_var (pv 1)))))) (by decide) (pmni hpm) ) da_nil))))))
abbrev s_has_ring : Stmt := top 12
theorem sc_has_ring : FnScope ["weaker", "entry"] ["weaker"] (defScope s_has_ring) := ⟨rfl, rfl, rfl, by decide +kernel, rfl, by decide +kernel, by decide +kernel⟩
theorem ok_has_ring {sp : Spd} {dvs0 : List V} {kws0 : List (Str × V)} (F : FunD K "has_ring" "has_ring" (defArgs s_has_ring) (defBody s_has_ring) (defScope s_has_ring) dvs0 kws0 f fd) (B : Bt mg)
    (hlen : ∀ ds Qd Ed, sp ds Qd Ed → ds.length = 1) (hw : ∀ ds Qd Ed, sp ds Qd Ed → w_has_ring (fun c fs xs _ => Ed c fs xs) (endD [] Qd) (startD ["weaker", "entry"] ds)) :
    FnG P w K mg base (L2.CX P w) 1 f fd ["weaker"] (lift K ca [] sp) := by
  refine fn_lift (k := 0) F sc_has_ring (by decide) hlen (w_has_ring) (fun cdv A outer s H E hr G Ex hK hca hpm lk => ?_) hw
  have hU := hr.rm.units
  have hU5 : (A.deeper (envOfC "has_ring" (defScope s_has_ring) s.heap.objs.size f cdv)).units + 65 < cLine := by have := hr.rm.un; omega
  subst hK hca
  exact (ds_one (ds_ret (d_any (hc := rfl) (hK := rfl) (hg := by rfl) (hm := B.any) (ha := (da_cons (d_lock hpm fun _ _ _ _ hpm hlk => d_lc (X := cxOf (L2.CX P w) P w G.K mg base _ _ _ f cdv A outer s H E) rfl sc_has_ring.nd (di_dk hlk (pv 0)) (blkOk_by (own := [("entry", 1)]) (N := ["weaker", "entry"]) (sc := defScope s_has_ring) (by decide +kernel)) (fun s1 H1 C1 l1 p1 => (dg_name sc_has_ring.nd rfl (by first | exact .inl rfl | exact .inr rfl) (pmne hpm))) (fun s1 H1 C1 l1 p1 => dpt_nil) (fun s1 H1 C1 l1 p1 => (d_cm (c_inB rfl hU5) (le_var (pv 1)) (d_ixA hU rfl (le_var (pv 0)) (le_var (pv 1))))) (by decide) (pmni hpm) ) da_nil)))))
abbrev s_all_facts : Stmt := top 11
theorem sc_all_facts : FnScope ["entries", "known", "weaker", "low", "entry", "middle"] ["entries", "known"] (defScope s_all_facts) := ⟨rfl, rfl, rfl, by decide +kernel, rfl, by decide +kernel, by decide +kernel⟩
theorem ok_all_facts {sp : Spd} {dvs0 : List V} {kws0 : List (Str × V)} (F : FunD K "all_facts" "all_facts" (defArgs s_all_facts) (defBody s_all_facts) (defScope s_all_facts) dvs0 kws0 f fd) (B : Bt mg)
    (hlen : ∀ ds Qd Ed, sp ds Qd Ed → ds.length = 2) (hw : ∀ ds Qd Ed, sp ds Qd Ed → w_all_facts (fun c fs xs _ => Ed c fs xs) (endD [] Qd) (startD ["entries", "known", "weaker", "low", "entry", "middle"] ds)) :
    FnG P w K mg base (L2.CX P w) 1 f fd ["entries", "known"] (lift K ca [] sp) := by
  refine fn_lift (k := 0) F sc_all_facts (by decide) hlen (w_all_facts) (fun cdv A outer s H E hr G Ex hK hca hpm lk => ?_) hw
  have hU := hr.rm.units
  have hU5 : (A.deeper (envOfC "all_facts" (defScope s_all_facts) s.heap.objs.size f cdv)).units + 65 < cLine := by have := hr.rm.un; omega
  subst hK hca
  exact (ds_cons (ds_asg (d_dc (X := cxOf (L2.CX P w) P w G.K mg base _ _ _ f cdv A outer s H E) rfl sc_all_facts.nd (di_any rfl (le_var (pv 0))) (blkOk_by (own := [("entry", 4)]) (N := ["entries", "known", "weaker", "low", "entry", "middle"]) (sc := defScope s_all_facts) (by decide +kernel)) (fun s1 H1 C1 l1 p1 => (dg_name sc_all_facts.nd rfl (by first | exact .inl rfl | exact .inr rfl) (pmne hpm))) (fun s1 H1 C1 l1 p1 => dpt_nil) (fun s1 H1 C1 l1 p1 => (le_var (pv 4))) (fun s1 H1 C1 l1 p1 => (d_lc (X := Cx.blk (cxOf (L2.CX P w) P w G.K mg base _ _ _ f cdv A outer s H E) s1 H1 _ (compEnvC _ l1 C1 _) p1) rfl sc_all_facts.nd (di_any rfl (le_var (pv 0))) (blkOk_by (own := [("low", 3)]) (N := ["entries", "known", "weaker", "low", "entry", "middle"]) (by kernel_rfl)) (fun s2 H2 C2 l2 p2 => (dg_name sc_all_facts.nd rfl (by first | exact .inl rfl | exact .inr rfl) (pmne hpm))) (fun s2 H2 C2 l2 p2 => (dpt_one (dt_cm (c_inB rfl hU5) (d_tup (da_cons (le_var (pv 4)) (da_cons (le_var (pv 3)) da_nil))) (le_var (pv 1))))) (fun s2 H2 C2 l2 p2 => (le_var (pv 3))) (by decide) (pmni hpm) )) (by decide) (pmni hpm) ) (dg_own sc_all_facts.nd rfl (by first | exact .inl rfl | exact .inr rfl) (pmne hpm)))
  (ds_cons (ds_fg (vs := [4, 5]) (ds_fg0 (vs := [4, 5]) (ds_for (L2.passes_of rfl) rfl (di_any rfl (le_var (pv 0))) (dg_name sc_all_facts.nd rfl (by first | exact .inl rfl | exact .inr rfl) (pmne hpm))
  (dss_fg (vs := [4, 5]) (ds_one (ds_fg (vs := [4]) (ds_fg0 (vs := [4]) (ds_for (L2.passes_of rfl) rfl (di_any rfl (le_var (pv 0))) (dg_name sc_all_facts.nd rfl (by first | exact .inl rfl | exact .inr rfl) (pmne hpm))
  (dss_fg (vs := [4]) (ds_one (ds_if (dt_cm (c_inB rfl hU5) (le_var (pv 5)) (d_ixA hU rfl (le_var (pv 2)) (le_var (pv 4)))) (ds_one (ds_asg (d_lc (X := cxOf (L2.CX P w) P w G.K mg base _ _ _ f cdv A outer s H E) rfl sc_all_facts.nd (di_any rfl (le_var (pv 0))) (blkOk_by (own := [("low", 3)]) (N := ["entries", "known", "weaker", "low", "entry", "middle"]) (sc := defScope s_all_facts) (by decide +kernel)) (fun s1 H1 C1 l1 p1 => (dg_name sc_all_facts.nd rfl (by first | exact .inl rfl | exact .inr rfl) (pmne hpm))) (fun s1 H1 C1 l1 p1 => (dpt_one ((dw_or (dt_cm (c_inB rfl hU5) (le_var (pv 3)) (d_ixA hU rfl (le_var (pv 2)) (le_var (pv 4)))) (dw_or1 (dt_cm (c_inB rfl hU5) (le_var (pv 3)) (d_ixA hU rfl (le_var (pv 2)) (le_var (pv 5))))))).pt)) (fun s1 H1 C1 l1 p1 => (le_var (pv 3))) (by decide) (pmni hpm) ) (dg_setA (pg_sub (le_var (pv 2)) (le_var (pv 4)) (set_any hU))))) ds_nil)))))))))))
  (ds_one (ds_ret (le_var (pv 2))))))
abbrev s_check_known : Stmt := top 26
theorem sc_check_known : FnScope ["entries", "value", "index", "fact"] ["entries", "value"] (defScope s_check_known) := ⟨rfl, rfl, rfl, by decide +kernel, rfl, by decide +kernel, by decide +kernel⟩
theorem ok_check_known (sp_is_fact : Spd) (sp_has_ring : Spd) (sp_all_facts : Spd) {sp : Spd} {dvs0 : List V} {kws0 : List (Str × V)} (F : FunD K "check_known" "check_known" (defArgs s_check_known) (defBody s_check_known) (defScope s_check_known) dvs0 kws0 f fd) (B : Bt mg) (g_MOST_KNOWN : ∃ t, mg "MOST_KNOWN" = some (.int 12 t)) (c_is_fact : Cal P w K ca mg base 1 "is_fact" [] sp_is_fact) (c_has_ring : Cal P w K ca mg base 1 "has_ring" [] sp_has_ring) (c_all_facts : Cal P w K ca mg base 1 "all_facts" [] sp_all_facts)
    (hlen : ∀ ds Qd Ed, sp ds Qd Ed → ds.length = 2) (hw : ∀ ds Qd Ed, sp ds Qd Ed → w_check_known sp_is_fact sp_has_ring sp_all_facts (fun c fs xs _ => Ed c fs xs) (endD [] Qd) (startD ["entries", "value", "index", "fact"] ds)) :
    FnG P w K mg base (L2.CX P w) 3 f fd ["entries", "value"] (lift K ca [] sp) := by
  refine fn_lift (k := 2) F sc_check_known (by decide) hlen (w_check_known sp_is_fact sp_has_ring sp_all_facts) (fun cdv A outer s H E hr G Ex hK hca hpm lk => ?_) hw
  have hU := hr.rm.units
  have hU5 : (A.deeper (envOfC "check_known" (defScope s_check_known) s.heap.objs.size f cdv)).units + 65 < cLine := by have := hr.rm.un; omega
  subst hK hca
  exact (ds_cons (ds_if (dt_not (dt_truth (d_isT (x := "tuple") rfl (by rfl) B.isinstance (by rfl) B.tuple (by decide +kernel) (le_var (pv 1))) rfl)) (ds_one ds_never) ds_nil)
  (ds_one (ds_fg (vs := [2, 3]) (ds_fg0 (vs := [2, 3]) (ds_for (L2.passes_of rfl) rfl (di_enum rfl (by rfl) B.enumerate (le_var (pv 1))) (dg_tup rfl rfl (dgs_cons (dg_name sc_check_known.nd rfl (by first | exact .inl rfl | exact .inr rfl) (pmne hpm)) (dgs_cons (dg_name sc_check_known.nd rfl (by first | exact .inl rfl | exact .inr rfl) (pmne hpm)) dgs_nil)))
  (dss_fg (vs := [2, 3]) (ds_cons (ds_if ((dw_or (dt_cm (c_eq rfl hU) (le_var (pv 2)) (d_glI g_MOST_KNOWN)) (dw_or (dt_not (dt_truth (d_c c_is_fact hr (da_cons (le_var (pv 3)) (da_cons (le_var (pv 0)) da_nil))) rfl)) (dw_or1 (dt_cm (c_inB rfl hU5) (le_var (pv 3)) (d_sl rfl (le_var (pv 1)) do_none (do_some (le_var (pv 2))))))))).pt (ds_one ds_never) ds_nil)
  (ds_one (ds_if (dt_truth (d_c c_has_ring hr (da_cons (d_c c_all_facts hr (da_cons (le_var (pv 0)) (da_cons (d_sl rfl (le_var (pv 1)) do_none (do_some (d_add rfl (le_var (pv 2)) d_int))) da_nil))) da_nil)) rfl) (ds_one ds_never) ds_nil)))))))))
abbrev s_Plan__init_ : Stmt := inClass (top 29) 0
theorem sc_Plan__init_ : FnScope ["self", "entries", "matches", "places", "known"] ["self", "entries", "matches", "places", "known"] (defScope s_Plan__init_) := ⟨rfl, rfl, rfl, by decide +kernel, rfl, by decide +kernel, by decide +kernel⟩
theorem ok_Plan__init_ (sp_check_entries : Spd) (sp_check_matches : Spd) (sp_check_places : Spd) (sp_check_known : Spd) (sp_all_facts : Spd) {sp : Spd} {dvs0 : List V} {kws0 : List (Str × V)} (F : FunD K "__init__" "Plan.__init__" (defArgs s_Plan__init_) (defBody s_Plan__init_) (defScope s_Plan__init_) dvs0 kws0 f fd) (B : Bt mg) (c_check_entries : Cal P w K ca mg base 3 "check_entries" [] sp_check_entries) (cl_Plan : Cls K (ca "Plan")) (na_Plan_ends : NoAttr K (ca "Plan") "ends") (na_Plan_sites : NoAttr K (ca "Plan") "sites") (c_check_matches : Cal P w K ca mg base 3 "check_matches" [] sp_check_matches) (na_Plan_end_places : NoAttr K (ca "Plan") "end_places") (c_check_places : Cal P w K ca mg base 3 "check_places" [] sp_check_places) (c_check_known : Cal P w K ca mg base 3 "check_known" [] sp_check_known) (na_Plan_weaker : NoAttr K (ca "Plan") "weaker") (c_all_facts : Cal P w K ca mg base 1 "all_facts" [] sp_all_facts) (na_Plan_held_entries : NoAttr K (ca "Plan") "held_entries") (na_Plan_held_matches : NoAttr K (ca "Plan") "held_matches") (na_Plan_held_places : NoAttr K (ca "Plan") "held_places") (na_Plan_held_known : NoAttr K (ca "Plan") "held_known")
    (hlen : ∀ ds Qd Ed, sp ds Qd Ed → ds.length = 5) (hw : ∀ ds Qd Ed, sp ds Qd Ed → w_Plan__init_ sp_check_entries sp_check_matches sp_check_places sp_check_known sp_all_facts (fun c fs xs _ => Ed c fs xs) (endD [0] Qd) (startD ["self", "entries", "matches", "places", "known"] ds)) :
    FnG P w K mg base (L2.CX P w) 4 f fd ["self", "entries", "matches", "places", "known"] (lift K ca [0] sp) := by
  refine fn_lift (k := 3) F sc_Plan__init_ (by decide) hlen (w_Plan__init_ sp_check_entries sp_check_matches sp_check_places sp_check_known sp_all_facts) (fun cdv A outer s H E hr G Ex hK hca hpm lk => ?_) hw
  have hU := hr.rm.units
  have hU5 : (A.deeper (envOfC "Plan.__init__" (defScope s_Plan__init_) s.heap.objs.size f cdv)).units + 65 < cLine := by have := hr.rm.un; omega
  subst hK hca
  exact (ds_cons (ds_expr (d_c c_check_entries hr (da_cons (le_var (pv 1)) da_nil)))
  (ds_cons (ds_asg (d_c c_check_matches hr (da_cons (le_var (pv 1)) (da_cons (le_var (pv 2)) da_nil))) (dg_tup rfl rfl (dgs_cons (dg_attr cl_Plan na_Plan_sites (le_var (pv 0))) (dgs_cons (dg_attr cl_Plan na_Plan_ends (le_var (pv 0))) dgs_nil))))
  (ds_cons (ds_asg (d_c c_check_places hr (da_cons (d_fld cl_Plan na_Plan_ends (le_var (pv 0))) (da_cons (le_var (pv 3)) da_nil))) (dg_attr cl_Plan na_Plan_end_places (le_var (pv 0))))
  (ds_cons (ds_expr (d_c c_check_known hr (da_cons (le_var (pv 1)) (da_cons (le_var (pv 4)) da_nil))))
  (ds_cons (ds_asg (d_c c_all_facts hr (da_cons (le_var (pv 1)) (da_cons (le_var (pv 4)) da_nil))) (dg_attr cl_Plan na_Plan_weaker (le_var (pv 0))))
  (ds_cons (ds_asg (le_var (pv 1)) (dg_attr cl_Plan na_Plan_held_entries (le_var (pv 0))))
  (ds_cons (ds_asg (le_var (pv 2)) (dg_attr cl_Plan na_Plan_held_matches (le_var (pv 0))))
  (ds_cons (ds_asg (le_var (pv 3)) (dg_attr cl_Plan na_Plan_held_places (le_var (pv 0))))
  (ds_one (ds_asg (le_var (pv 4)) (dg_attr cl_Plan na_Plan_held_known (le_var (pv 0)))))))))))))
abbrev s_Plan_known : Stmt := inClass (top 29) 5
theorem sc_Plan_known : FnScope ["self"] ["self"] (defScope s_Plan_known) := ⟨rfl, rfl, rfl, by decide +kernel, rfl, by decide +kernel, by decide +kernel⟩
theorem ok_Plan_known {sp : Spd} {dvs0 : List V} {kws0 : List (Str × V)} (F : FunD K "known" "Plan.known" (defArgs s_Plan_known) (defBody s_Plan_known) (defScope s_Plan_known) dvs0 kws0 f fd) (B : Bt mg) (cl_Plan : Cls K (ca "Plan")) (na_Plan_held_known : NoAttr K (ca "Plan") "held_known")
    (hlen : ∀ ds Qd Ed, sp ds Qd Ed → ds.length = 1) (hw : ∀ ds Qd Ed, sp ds Qd Ed → w_Plan_known (fun c fs xs _ => Ed c fs xs) (endD [] Qd) (startD ["self"] ds)) :
    FnG P w K mg base (L2.CX P w) 1 f fd ["self"] (lift K ca [] sp) := by
  refine fn_lift (k := 0) F sc_Plan_known (by decide) hlen (w_Plan_known) (fun cdv A outer s H E hr G Ex hK hca hpm lk => ?_) hw
  have hU := hr.rm.units
  have hU5 : (A.deeper (envOfC "Plan.known" (defScope s_Plan_known) s.heap.objs.size f cdv)).units + 65 < cLine := by have := hr.rm.un; omega
  subst hK hca
  exact (ds_one (ds_ret (d_fld cl_Plan na_Plan_held_known (le_var (pv 0)))))
abbrev s_Plan_places : Stmt := inClass (top 29) 4
theorem sc_Plan_places : FnScope ["self"] ["self"] (defScope s_Plan_places) := ⟨rfl, rfl, rfl, by decide +kernel, rfl, by decide +kernel, by decide +kernel⟩
theorem ok_Plan_places {sp : Spd} {dvs0 : List V} {kws0 : List (Str × V)} (F : FunD K "places" "Plan.places" (defArgs s_Plan_places) (defBody s_Plan_places) (defScope s_Plan_places) dvs0 kws0 f fd) (B : Bt mg) (cl_Plan : Cls K (ca "Plan")) (na_Plan_held_places : NoAttr K (ca "Plan") "held_places")
    (hlen : ∀ ds Qd Ed, sp ds Qd Ed → ds.length = 1) (hw : ∀ ds Qd Ed, sp ds Qd Ed → w_Plan_places (fun c fs xs _ => Ed c fs xs) (endD [] Qd) (startD ["self"] ds)) :
    FnG P w K mg base (L2.CX P w) 1 f fd ["self"] (lift K ca [] sp) := by
  refine fn_lift (k := 0) F sc_Plan_places (by decide) hlen (w_Plan_places) (fun cdv A outer s H E hr G Ex hK hca hpm lk => ?_) hw
  have hU := hr.rm.units
  have hU5 : (A.deeper (envOfC "Plan.places" (defScope s_Plan_places) s.heap.objs.size f cdv)).units + 65 < cLine := by have := hr.rm.un; omega
  subst hK hca
  exact (ds_one (ds_ret (d_fld cl_Plan na_Plan_held_places (le_var (pv 0)))))
abbrev s_Plan_matches : Stmt := inClass (top 29) 3
theorem sc_Plan_matches : FnScope ["self"] ["self"] (defScope s_Plan_matches) := ⟨rfl, rfl, rfl, by decide +kernel, rfl, by decide +kernel, by decide +kernel⟩
theorem ok_Plan_matches {sp : Spd} {dvs0 : List V} {kws0 : List (Str × V)} (F : FunD K "matches" "Plan.matches" (defArgs s_Plan_matches) (defBody s_Plan_matches) (defScope s_Plan_matches) dvs0 kws0 f fd) (B : Bt mg) (cl_Plan : Cls K (ca "Plan")) (na_Plan_held_matches : NoAttr K (ca "Plan") "held_matches")
    (hlen : ∀ ds Qd Ed, sp ds Qd Ed → ds.length = 1) (hw : ∀ ds Qd Ed, sp ds Qd Ed → w_Plan_matches (fun c fs xs _ => Ed c fs xs) (endD [] Qd) (startD ["self"] ds)) :
    FnG P w K mg base (L2.CX P w) 1 f fd ["self"] (lift K ca [] sp) := by
  refine fn_lift (k := 0) F sc_Plan_matches (by decide) hlen (w_Plan_matches) (fun cdv A outer s H E hr G Ex hK hca hpm lk => ?_) hw
  have hU := hr.rm.units
  have hU5 : (A.deeper (envOfC "Plan.matches" (defScope s_Plan_matches) s.heap.objs.size f cdv)).units + 65 < cLine := by have := hr.rm.un; omega
  subst hK hca
  exact (ds_one (ds_ret (d_fld cl_Plan na_Plan_held_matches (le_var (pv 0)))))
abbrev s_Plan_entries : Stmt := inClass (top 29) 2
theorem sc_Plan_entries : FnScope ["self"] ["self"] (defScope s_Plan_entries) := ⟨rfl, rfl, rfl, by decide +kernel, rfl, by decide +kernel, by decide +kernel⟩
theorem ok_Plan_entries {sp : Spd} {dvs0 : List V} {kws0 : List (Str × V)} (F : FunD K "entries" "Plan.entries" (defArgs s_Plan_entries) (defBody s_Plan_entries) (defScope s_Plan_entries) dvs0 kws0 f fd) (B : Bt mg) (cl_Plan : Cls K (ca "Plan")) (na_Plan_held_entries : NoAttr K (ca "Plan") "held_entries")
    (hlen : ∀ ds Qd Ed, sp ds Qd Ed → ds.length = 1) (hw : ∀ ds Qd Ed, sp ds Qd Ed → w_Plan_entries (fun c fs xs _ => Ed c fs xs) (endD [] Qd) (startD ["self"] ds)) :
    FnG P w K mg base (L2.CX P w) 1 f fd ["self"] (lift K ca [] sp) := by
  refine fn_lift (k := 0) F sc_Plan_entries (by decide) hlen (w_Plan_entries) (fun cdv A outer s H E hr G Ex hK hca hpm lk => ?_) hw
  have hU := hr.rm.units
  have hU5 : (A.deeper (envOfC "Plan.entries" (defScope s_Plan_entries) s.heap.objs.size f cdv)).units + 65 < cLine := by have := hr.rm.un; omega
  subst hK hca
  exact (ds_one (ds_ret (d_fld cl_Plan na_Plan_held_entries (le_var (pv 0)))))
abbrev s_Plan__len_ : Stmt := inClass (top 29) 7
theorem sc_Plan__len_ : FnScope ["self"] ["self"] (defScope s_Plan__len_) := ⟨rfl, rfl, rfl, by decide +kernel, rfl, by decide +kernel, by decide +kernel⟩
theorem ok_Plan__len_ {sp : Spd} {dvs0 : List V} {kws0 : List (Str × V)} (F : FunD K "__len__" "Plan.__len__" (defArgs s_Plan__len_) (defBody s_Plan__len_) (defScope s_Plan__len_) dvs0 kws0 f fd) (B : Bt mg) (cl_Plan : Cls K (ca "Plan")) (na_Plan_held_matches : NoAttr K (ca "Plan") "held_matches")
    (hlen : ∀ ds Qd Ed, sp ds Qd Ed → ds.length = 1) (hw : ∀ ds Qd Ed, sp ds Qd Ed → w_Plan__len_ (fun c fs xs _ => Ed c fs xs) (endD [] Qd) (startD ["self"] ds)) :
    FnG P w K mg base (L2.CX P w) 1 f fd ["self"] (lift K ca [] sp) := by
  refine fn_lift (k := 0) F sc_Plan__len_ (by decide) hlen (w_Plan__len_) (fun cdv A outer s H E hr G Ex hK hca hpm lk => ?_) hw
  have hU := hr.rm.units
  have hU5 : (A.deeper (envOfC "Plan.__len__" (defScope s_Plan__len_) s.heap.objs.size f cdv)).units + 65 < cLine := by have := hr.rm.un; omega
  subst hK hca
  exact (ds_one (ds_ret (d_len1 (by rfl) (by rfl) B.len (da_cons (d_fld cl_Plan na_Plan_held_matches (le_var (pv 0))) da_nil))))
abbrev s_Plan__bool_ : Stmt := inClass (top 29) 8
theorem sc_Plan__bool_ : FnScope ["self"] ["self"] (defScope s_Plan__bool_) := ⟨rfl, rfl, rfl, by decide +kernel, rfl, by decide +kernel, by decide +kernel⟩
theorem ok_Plan__bool_ {sp : Spd} {dvs0 : List V} {kws0 : List (Str × V)} (F : FunD K "__bool__" "Plan.__bool__" (defArgs s_Plan__bool_) (defBody s_Plan__bool_) (defScope s_Plan__bool_) dvs0 kws0 f fd) (B : Bt mg)
    (hlen : ∀ ds Qd Ed, sp ds Qd Ed → ds.length = 1) (hw : ∀ ds Qd Ed, sp ds Qd Ed → w_Plan__bool_ (fun c fs xs _ => Ed c fs xs) (endD [] Qd) (startD ["self"] ds)) :
    FnG P w K mg base (L2.CX P w) 1 f fd ["self"] (lift K ca [] sp) := by
  refine fn_lift (k := 0) F sc_Plan__bool_ (by decide) hlen (w_Plan__bool_) (fun cdv A outer s H E hr G Ex hK hca hpm lk => ?_) hw
  have hU := hr.rm.units
  have hU5 : (A.deeper (envOfC "Plan.__bool__" (defScope s_Plan__bool_) s.heap.objs.size f cdv)).units + 65 < cLine := by have := hr.rm.un; omega
  subst hK hca
  exact (ds_one (ds_ret d_bl))
abbrev s_Plan__str_ : Stmt := inClass (top 29) 10
theorem sc_Plan__str_ : FnScope ["self", "rows", "match", "group", "high", "low"] ["self"] (defScope s_Plan__str_) := ⟨rfl, rfl, rfl, by decide +kernel, rfl, by decide +kernel, by decide +kernel⟩
theorem ok_Plan__str_ {sp : Spd} {dvs0 : List V} {kws0 : List (Str × V)} (F : FunD K "__str__" "Plan.__str__" (defArgs s_Plan__str_) (defBody s_Plan__str_) (defScope s_Plan__str_) dvs0 kws0 f fd) (B : Bt mg) (cl_Plan : Cls K (ca "Plan")) (na_Plan_held_matches : NoAttr K (ca "Plan") "held_matches") (na_Plan_held_entries : NoAttr K (ca "Plan") "held_entries") (na_Plan_held_places : NoAttr K (ca "Plan") "held_places") (na_Plan_held_known : NoAttr K (ca "Plan") "held_known")
    (hlen : ∀ ds Qd Ed, sp ds Qd Ed → ds.length = 1) (hw : ∀ ds Qd Ed, sp ds Qd Ed → w_Plan__str_ (fun c fs xs _ => Ed c fs xs) (endD [] Qd) (startD ["self", "rows", "match", "group", "high", "low"] ds)) :
    FnG P w K mg base (L2.CX P w) 1 f fd ["self"] (lift K ca [] sp) := by
  refine fn_lift (k := 0) F sc_Plan__str_ (by decide) hlen (w_Plan__str_) (fun cdv A outer s H E hr G Ex hK hca hpm lk => ?_) hw
  have hU := hr.rm.units
  have hU5 : (A.deeper (envOfC "Plan.__str__" (defScope s_Plan__str_) s.heap.objs.size f cdv)).units + 65 < cLine := by have := hr.rm.un; omega
  subst hK hca
  exact (ds_cons (ds_asg (d_lst (da_cons (d_join rfl d_str (da_cons (d_lst (da_cons d_str (da_star rfl (d_fld cl_Plan na_Plan_held_entries (le_var (pv 0))) da_nil))) da_nil)) (da_star rfl (d_lc (X := cxOf (L2.CX P w) P w G.K mg base _ _ _ f cdv A outer s H E) rfl sc_Plan__str_.nd (di_any rfl (d_fld cl_Plan na_Plan_held_matches (le_var (pv 0)))) (blkOk_by (own := [("match", 2)]) (N := ["self", "rows", "match", "group", "high", "low"]) (sc := defScope s_Plan__str_) (by decide +kernel)) (fun s1 H1 C1 l1 p1 => (dg_name sc_Plan__str_.nd rfl (by first | exact .inl rfl | exact .inr rfl) (pmne hpm))) (fun s1 H1 C1 l1 p1 => dpt_nil) (fun s1 H1 C1 l1 p1 => (d_join rfl d_str (da_cons (le_var (pv 2)) da_nil))) (by decide) (pmni hpm) ) da_nil))) (dg_own sc_Plan__str_.nd rfl (by first | exact .inl rfl | exact .inr rfl) (pmne hpm)))
  (ds_cons (ds_expr (d_append rfl (le_var (pv 1)) (da_cons (d_add rfl d_str (d_join rfl d_str (da_cons (d_lc (X := cxOf (L2.CX P w) P w G.K mg base _ _ _ f cdv A outer s H E) rfl sc_Plan__str_.nd (di_any rfl (d_fld cl_Plan na_Plan_held_places (le_var (pv 0)))) (blkOk_by (own := [("group", 3)]) (N := ["self", "rows", "match", "group", "high", "low"]) (sc := defScope s_Plan__str_) (by decide +kernel)) (fun s1 H1 C1 l1 p1 => (dg_name sc_Plan__str_.nd rfl (by first | exact .inl rfl | exact .inr rfl) (pmne hpm))) (fun s1 H1 C1 l1 p1 => dpt_nil) (fun s1 H1 C1 l1 p1 => (d_join rfl d_str (da_cons (le_var (pv 3)) da_nil))) (by decide) (pmni hpm) ) da_nil))) da_nil)))
  (ds_cons (ds_if (dt_cm (c_ne rfl hU) (d_fld cl_Plan na_Plan_held_known (le_var (pv 0))) (d_tup da_nil)) (ds_one (ds_expr (d_append rfl (le_var (pv 1)) (da_cons (d_join rfl d_str (da_cons (d_lst (da_cons d_str (da_star rfl (d_lc (X := cxOf (L2.CX P w) P w G.K mg base _ _ _ f cdv A outer s H E) rfl sc_Plan__str_.nd (di_any rfl (d_fld cl_Plan na_Plan_held_known (le_var (pv 0)))) (blkOk_by (own := [("high", 4), ("low", 5)]) (N := ["self", "rows", "match", "group", "high", "low"]) (sc := defScope s_Plan__str_) (by decide +kernel)) (fun s1 H1 C1 l1 p1 => (dg_tup rfl rfl (dgs_cons (dg_name sc_Plan__str_.nd rfl (by first | exact .inl rfl | exact .inr rfl) (pmne hpm)) (dgs_cons (dg_name sc_Plan__str_.nd rfl (by first | exact .inl rfl | exact .inr rfl) (pmne hpm)) dgs_nil)))) (fun s1 H1 C1 l1 p1 => dpt_nil) (fun s1 H1 C1 l1 p1 => (d_fs (DJ.cons (d_fmt (le_var (pv 4))) (DJ.cons d_str (DJ.cons (d_fmt (le_var (pv 5))) DJ.nil))))) (by decide) (pmni hpm) ) da_nil))) da_nil)) da_nil)))) ds_nil)
  (ds_one (ds_ret (d_join rfl d_str (da_cons (le_var (pv 1)) da_nil)))))))
abbrev s__law_text : Stmt := top 41
theorem sc__law_text : FnScope ["_law_parts", "_law_folk", "_law_games_here", "_law_spots_here", "_law_facts_here", "_law_rows", "_law_game", "_law_spot", "_law_high", "_law_low"] ["_law_parts"] (defScope s__law_text) := ⟨rfl, rfl, rfl, by decide +kernel, rfl, by decide +kernel, by decide +kernel⟩
theorem ok__law_text {sp : Spd} {dvs0 : List V} {kws0 : List (Str × V)} (F : FunD K "_law_text" "_law_text" (defArgs s__law_text) (defBody s__law_text) (defScope s__law_text) dvs0 kws0 f fd) (B : Bt mg)
    (hlen : ∀ ds Qd Ed, sp ds Qd Ed → ds.length = 1) (hw : ∀ ds Qd Ed, sp ds Qd Ed → w__law_text (fun c fs xs _ => Ed c fs xs) (endD [] Qd) (startD ["_law_parts", "_law_folk", "_law_games_here", "_law_spots_here", "_law_facts_here", "_law_rows", "_law_game", "_law_spot", "_law_high", "_law_low"] ds)) :
    FnG P w K mg base (L2.CX P w) 1 f fd ["_law_parts"] (lift K ca [] sp) := by
  refine fn_lift (k := 0) F sc__law_text (by decide) hlen (w__law_text) (fun cdv A outer s H E hr G Ex hK hca hpm lk => ?_) hw
  have hU := hr.rm.units
  have hU5 : (A.deeper (envOfC "_law_text" (defScope s__law_text) s.heap.objs.size f cdv)).units + 65 < cLine := by have := hr.rm.un; omega
  subst hK hca
  exact (ds_cons (ds_asg (le_var (pv 0)) (dg_tup rfl rfl (dgs_cons (dg_name sc__law_text.nd rfl (by first | exact .inl rfl | exact .inr rfl) (pmne hpm)) (dgs_cons (dg_name sc__law_text.nd rfl (by first | exact .inl rfl | exact .inr rfl) (pmne hpm)) (dgs_cons (dg_name sc__law_text.nd rfl (by first | exact .inl rfl | exact .inr rfl) (pmne hpm)) (dgs_cons (dg_name sc__law_text.nd rfl (by first | exact .inl rfl | exact .inr rfl) (pmne hpm)) dgs_nil))))))
  (ds_cons (ds_asg (d_add rfl (d_lst (da_cons (d_join rfl d_str (da_cons (d_add rfl (d_lst (da_cons d_str da_nil)) (d_list (hK := rfl) (hg := by rfl) (hm := B.list) (ha := (da_cons (le_var (pv 1)) da_nil)))) da_nil)) da_nil)) (d_lc (X := cxOf (L2.CX P w) P w G.K mg base _ _ _ f cdv A outer s H E) rfl sc__law_text.nd (di_any rfl (le_var (pv 2))) (blkOk_by (own := [("_law_game", 6)]) (N := ["_law_parts", "_law_folk", "_law_games_here", "_law_spots_here", "_law_facts_here", "_law_rows", "_law_game", "_law_spot", "_law_high", "_law_low"]) (sc := defScope s__law_text) (by decide +kernel)) (fun s1 H1 C1 l1 p1 => (dg_name sc__law_text.nd rfl (by first | exact .inl rfl | exact .inr rfl) (pmne hpm))) (fun s1 H1 C1 l1 p1 => dpt_nil) (fun s1 H1 C1 l1 p1 => (d_join rfl d_str (da_cons (d_list (hK := rfl) (hg := by rfl) (hm := B.list) (ha := (da_cons (le_var (pv 6)) da_nil))) da_nil))) (by decide) (pmni hpm) )) (dg_own sc__law_text.nd rfl (by first | exact .inl rfl | exact .inr rfl) (pmne hpm)))
  (ds_cons (ds_expr (d_append rfl (le_var (pv 5)) (da_cons (d_add rfl d_str (d_join rfl d_str (da_cons (d_lc (X := cxOf (L2.CX P w) P w G.K mg base _ _ _ f cdv A outer s H E) rfl sc__law_text.nd (di_any rfl (le_var (pv 3))) (blkOk_by (own := [("_law_spot", 7)]) (N := ["_law_parts", "_law_folk", "_law_games_here", "_law_spots_here", "_law_facts_here", "_law_rows", "_law_game", "_law_spot", "_law_high", "_law_low"]) (sc := defScope s__law_text) (by decide +kernel)) (fun s1 H1 C1 l1 p1 => (dg_name sc__law_text.nd rfl (by first | exact .inl rfl | exact .inr rfl) (pmne hpm))) (fun s1 H1 C1 l1 p1 => dpt_nil) (fun s1 H1 C1 l1 p1 => (d_join rfl d_str (da_cons (d_list (hK := rfl) (hg := by rfl) (hm := B.list) (ha := (da_cons (le_var (pv 7)) da_nil))) da_nil))) (by decide) (pmni hpm) ) da_nil))) da_nil)))
  (ds_cons (ds_if (dt_cm c_gt (d_len1 (by rfl) (by rfl) B.len (da_cons (le_var (pv 4)) da_nil)) d_int) (ds_one (ds_expr (d_append rfl (le_var (pv 5)) (da_cons (d_join rfl d_str (da_cons (d_add rfl (d_lst (da_cons d_str da_nil)) (d_lc (X := cxOf (L2.CX P w) P w G.K mg base _ _ _ f cdv A outer s H E) rfl sc__law_text.nd (di_any rfl (le_var (pv 4))) (blkOk_by (own := [("_law_high", 8), ("_law_low", 9)]) (N := ["_law_parts", "_law_folk", "_law_games_here", "_law_spots_here", "_law_facts_here", "_law_rows", "_law_game", "_law_spot", "_law_high", "_law_low"]) (sc := defScope s__law_text) (by decide +kernel)) (fun s1 H1 C1 l1 p1 => (dg_tup rfl rfl (dgs_cons (dg_name sc__law_text.nd rfl (by first | exact .inl rfl | exact .inr rfl) (pmne hpm)) (dgs_cons (dg_name sc__law_text.nd rfl (by first | exact .inl rfl | exact .inr rfl) (pmne hpm)) dgs_nil)))) (fun s1 H1 C1 l1 p1 => dpt_nil) (fun s1 H1 C1 l1 p1 => (d_add rfl (d_add rfl (le_var (pv 8)) d_str) (le_var (pv 9)))) (by decide) (pmni hpm) )) da_nil)) da_nil)))) ds_nil)
  (ds_one (ds_ret (d_join rfl d_str (da_cons (le_var (pv 5)) da_nil))))))))
abbrev s_Plan__getitem_ : Stmt := inClass (top 29) 6
theorem sc_Plan__getitem_ : FnScope ["self", "name", "own", "one", "other"] ["self", "name"] (defScope s_Plan__getitem_) := ⟨rfl, rfl, rfl, by decide +kernel, rfl, by decide +kernel, by decide +kernel⟩
theorem ok_Plan__getitem_ {sp : Spd} {dvs0 : List V} {kws0 : List (Str × V)} (F : FunD K "__getitem__" "Plan.__getitem__" (defArgs s_Plan__getitem_) (defBody s_Plan__getitem_) (defScope s_Plan__getitem_) dvs0 kws0 f fd) (B : Bt mg) (cl_Plan : Cls K (ca "Plan")) (na_Plan_held_matches : NoAttr K (ca "Plan") "held_matches")
    (hlen : ∀ ds Qd Ed, sp ds Qd Ed → ds.length = 2) (hw : ∀ ds Qd Ed, sp ds Qd Ed → w_Plan__getitem_ (fun c fs xs _ => Ed c fs xs) (endD [] Qd) (startD ["self", "name", "own", "one", "other"] ds)) :
    FnG P w K mg base (L2.CX P w) 3 f fd ["self", "name"] (lift K ca [] sp) := by
  refine fn_lift (k := 2) F sc_Plan__getitem_ (by decide) hlen (w_Plan__getitem_) (fun cdv A outer s H E hr G Ex hK hca hpm lk => ?_) hw
  have hU := hr.rm.units
  have hU5 : (A.deeper (envOfC "Plan.__getitem__" (defScope s_Plan__getitem_) s.heap.objs.size f cdv)).units + 65 < cLine := by have := hr.rm.un; omega
  subst hK hca
  exact (ds_cons (ds_fg (vs := [2, 3, 4]) (ds_fg0 (vs := [2, 3, 4]) (ds_for (L2.passes_of rfl) rfl (di_any rfl (d_fld cl_Plan na_Plan_held_matches (le_var (pv 0)))) (dg_tup rfl rfl (dgs_cons (dg_name sc_Plan__getitem_.nd rfl (by first | exact .inl rfl | exact .inr rfl) (pmne hpm)) (dgs_cons (dg_name sc_Plan__getitem_.nd rfl (by first | exact .inl rfl | exact .inr rfl) (pmne hpm)) (dgs_cons (dg_name sc_Plan__getitem_.nd rfl (by first | exact .inl rfl | exact .inr rfl) (pmne hpm)) dgs_nil))))
  (dss_fg (vs := [2, 3, 4]) (ds_one (ds_if ((dw_and (dt_truth (d_isT (x := "str") rfl (by rfl) B.isinstance (by rfl) B.str (by decide +kernel) (le_var (pv 1))) rfl) (dw_and1 (dt_cm (c_eq rfl hU) (le_var (pv 2)) (le_var (pv 1)))))).pt (ds_one (ds_ret (d_tup (da_cons (le_var (pv 3)) (da_cons (le_var (pv 4)) da_nil))))) ds_nil))))))
  (ds_one ds_never))
abbrev s__law_shows : Stmt := top 42
theorem sc__law_shows : FnScope ["_law_box", "_law_parts", "_law_folk", "_law_games_here", "_law_spots_here", "_law_facts_here", "_law_game"] ["_law_box", "_law_parts"] (defScope s__law_shows) := ⟨rfl, rfl, rfl, by decide +kernel, rfl, by decide +kernel, by decide +kernel⟩
theorem ok__law_shows (sp_Plan_known : Spd) (sp_Plan_places : Spd) (sp_Plan_matches : Spd) (sp_Plan_entries : Spd) (sp_Plan__len_ : Spd) (sp_Plan__bool_ : Spd) (sp_Plan__str_ : Spd) (sp__law_text : Spd) (sp_Plan__getitem_ : Spd) {sp : Spd} {dvs0 : List V} {kws0 : List (Str × V)} (F : FunD K "_law_shows" "_law_shows" (defArgs s__law_shows) (defBody s__law_shows) (defScope s__law_shows) dvs0 kws0 f fd) (B : Bt mg) (p_Plan_known : Prp P w K ca mg base 1 "Plan" "known" sp_Plan_known) (p_Plan_places : Prp P w K ca mg base 1 "Plan" "places" sp_Plan_places) (p_Plan_matches : Prp P w K ca mg base 1 "Plan" "matches" sp_Plan_matches) (p_Plan_entries : Prp P w K ca mg base 1 "Plan" "entries" sp_Plan_entries) (m_Plan__len_ : Met P w K ca mg base 1 "Plan" "__len__" [] sp_Plan__len_) (m_Plan__bool_ : Met P w K ca mg base 1 "Plan" "__bool__" [] sp_Plan__bool_) (m_Plan__str_ : Met P w K ca mg base 1 "Plan" "__str__" [] sp_Plan__str_) (c__law_text : Cal P w K ca mg base 1 "_law_text" [] sp__law_text) (m_Plan__getitem_ : Met P w K ca mg base 3 "Plan" "__getitem__" [] sp_Plan__getitem_)
    (hlen : ∀ ds Qd Ed, sp ds Qd Ed → ds.length = 2) (hw : ∀ ds Qd Ed, sp ds Qd Ed → w__law_shows sp_Plan_known sp_Plan_places sp_Plan_matches sp_Plan_entries sp_Plan__len_ sp_Plan__bool_ sp_Plan__str_ sp__law_text sp_Plan__getitem_ (fun c fs xs _ => Ed c fs xs) (endD [] Qd) (startD ["_law_box", "_law_parts", "_law_folk", "_law_games_here", "_law_spots_here", "_law_facts_here", "_law_game"] ds)) :
    FnG P w K mg base (L2.CX P w) 5 f fd ["_law_box", "_law_parts"] (lift K ca [] sp) := by
  refine fn_lift (k := 4) F sc__law_shows (by decide) hlen (w__law_shows sp_Plan_known sp_Plan_places sp_Plan_matches sp_Plan_entries sp_Plan__len_ sp_Plan__bool_ sp_Plan__str_ sp__law_text sp_Plan__getitem_) (fun cdv A outer s H E hr G Ex hK hca hpm lk => ?_) hw
  have hU := hr.rm.units
  have hU5 : (A.deeper (envOfC "_law_shows" (defScope s__law_shows) s.heap.objs.size f cdv)).units + 65 < cLine := by have := hr.rm.un; omega
  subst hK hca
  exact (ds_cons (ds_asg (le_var (pv 1)) (dg_tup rfl rfl (dgs_cons (dg_name sc__law_shows.nd rfl (by first | exact .inl rfl | exact .inr rfl) (pmne hpm)) (dgs_cons (dg_name sc__law_shows.nd rfl (by first | exact .inl rfl | exact .inr rfl) (pmne hpm)) (dgs_cons (dg_name sc__law_shows.nd rfl (by first | exact .inl rfl | exact .inr rfl) (pmne hpm)) (dgs_cons (dg_name sc__law_shows.nd rfl (by first | exact .inl rfl | exact .inr rfl) (pmne hpm)) dgs_nil))))))
  (ds_cons (ds_if (dt_cm (c_ne rfl hU) (d_repr hr rfl (by rfl) B.repr (da_cons (d_lst (da_cons (d_prop p_Plan_entries hr (le_var (pv 0))) (da_cons (d_prop p_Plan_matches hr (le_var (pv 0))) (da_cons (d_prop p_Plan_places hr (le_var (pv 0))) (da_cons (d_prop p_Plan_known hr (le_var (pv 0))) da_nil))))) da_nil)) (d_repr hr rfl (by rfl) B.repr (da_cons (d_lst (da_cons (le_var (pv 2)) (da_cons (le_var (pv 3)) (da_cons (le_var (pv 4)) (da_cons (le_var (pv 5)) da_nil))))) da_nil))) (ds_one (ds_ret d_bl)) ds_nil)
  (ds_cons (ds_if ((dw_or (dt_cm (c_ne rfl hU) (d_repr hr rfl (by rfl) B.repr (da_cons (d_lenI m_Plan__len_ hr (by rfl) B.len (da_cons (le_var (pv 0)) da_nil)) da_nil)) (d_repr hr rfl (by rfl) B.repr (da_cons (d_len1 (by rfl) (by rfl) B.len (da_cons (le_var (pv 3)) da_nil)) da_nil))) (dw_or (dt_not (dt_truth (d_boolI m_Plan__bool_ hr (by rfl) B.bool (da_cons (le_var (pv 0)) da_nil)) rfl)) (dw_or1 (dt_cm (c_ne rfl hU) (d_strI m_Plan__str_ hr (by rfl) B.str (da_cons (le_var (pv 0)) da_nil)) (d_c c__law_text hr (da_cons (le_var (pv 1)) da_nil))))))).pt (ds_one (ds_ret d_bl)) ds_nil)
  (ds_one (ds_ret (d_all (hc := rfl) (hK := rfl) (hg := by rfl) (hm := B.all) (ha := (da_cons (d_lc (X := cxOf (L2.CX P w) P w G.K mg base _ _ _ f cdv A outer s H E) rfl sc__law_shows.nd (di_any rfl (le_var (pv 3))) (blkOk_by (own := [("_law_game", 6)]) (N := ["_law_box", "_law_parts", "_law_folk", "_law_games_here", "_law_spots_here", "_law_facts_here", "_law_game"]) (sc := defScope s__law_shows) (by decide +kernel)) (fun s1 H1 C1 l1 p1 => (dg_name sc__law_shows.nd rfl (by first | exact .inl rfl | exact .inr rfl) (pmne hpm))) (fun s1 H1 C1 l1 p1 => dpt_nil) (fun s1 H1 C1 l1 p1 => (d_cm (c_eq rfl hU) (d_repr hr rfl (by rfl) B.repr (da_cons (d_ixI m_Plan__getitem_ hr takes0 xlk0 (le_var (pv 0)) (d_ixA hU rfl (le_var (pv 6)) d_int)) da_nil)) (d_repr hr rfl (by rfl) B.repr (da_cons (d_tup (da_cons (d_ixA hU rfl (le_var (pv 6)) d_int) (da_cons (d_ixA hU rfl (le_var (pv 6)) d_int) da_nil))) da_nil)))) (by decide) (pmni hpm) ) da_nil))))))))
abbrev s__law_right : Stmt := top 43
theorem sc__law_right : FnScope ["_law_pot_here", "_law_way", "_law_parts", "_law_folk", "_law_games_here", "_law_spots_here", "_law_facts_here", "_law_held", "_law_box", "_law_mate", "_law_bare", "_law_more", "_law_full"] ["_law_pot_here", "_law_way"] (defScope s__law_right) := ⟨rfl, rfl, rfl, by decide +kernel, rfl, by decide +kernel, by decide +kernel⟩
theorem ok__law_right (sp__law_drawn : Spd) (sp_Plan__init_ : Spd) (sp__law_facts : Spd) (sp__law_shows : Spd) {sp : Spd} {dvs0 : List V} {kws0 : List (Str × V)} (F : FunD K "_law_right" "_law_right" (defArgs s__law_right) (defBody s__law_right) (defScope s__law_right) dvs0 kws0 f fd) (B : Bt mg) (c__law_drawn : Cal P w K ca mg base 4 "_law_drawn" [0] sp__law_drawn) (mk_Plan_4 : KMak P w K ca mg base 4 "Plan" 4 [] [0, 1, 2, 3] [] sp_Plan__init_) (mk_Plan_0_known_places_matches_entries : KMak P w K ca mg base 4 "Plan" 0 ["known", "places", "matches", "entries"] [3, 2, 1, 0] [] sp_Plan__init_) (mk_Plan_3 : KMak P w K ca mg base 4 "Plan" 3 [] [0, 1, 2, 3] [(.tup [])] sp_Plan__init_) (c__law_facts : Cal P w K ca mg base 3 "_law_facts" [0] sp__law_facts) (c__law_shows : Cal P w K ca mg base 5 "_law_shows" [] sp__law_shows)
    (hlen : ∀ ds Qd Ed, sp ds Qd Ed → ds.length = 2) (hw : ∀ ds Qd Ed, sp ds Qd Ed → w__law_right sp__law_drawn sp_Plan__init_ sp__law_facts sp__law_shows (fun c fs xs _ => Ed c fs xs) (endD [0] Qd) (startD ["_law_pot_here", "_law_way", "_law_parts", "_law_folk", "_law_games_here", "_law_spots_here", "_law_facts_here", "_law_held", "_law_box", "_law_mate", "_law_bare", "_law_more", "_law_full"] ds)) :
    FnG P w K mg base (L2.CX P w) 6 f fd ["_law_pot_here", "_law_way"] (lift K ca [0] sp) := by
  refine fn_lift (k := 5) F sc__law_right (by decide) hlen (w__law_right sp__law_drawn sp_Plan__init_ sp__law_facts sp__law_shows) (fun cdv A outer s H E hr G Ex hK hca hpm lk => ?_) hw
  have hU := hr.rm.units
  have hU5 : (A.deeper (envOfC "_law_right" (defScope s__law_right) s.heap.objs.size f cdv)).units + 65 < cLine := by have := hr.rm.un; omega
  subst hK hca
  exact (ds_cons (ds_asg (d_c c__law_drawn hr (da_cons (le_var (pv 0)) (da_cons (le_var (pv 1)) da_nil))) (dg_name sc__law_right.nd rfl (by first | exact .inl rfl | exact .inr rfl) (pmne hpm)))
  (ds_cons (ds_asg (le_var (pv 2)) (dg_tup rfl rfl (dgs_cons (dg_name sc__law_right.nd rfl (by first | exact .inl rfl | exact .inr rfl) (pmne hpm)) (dgs_cons (dg_name sc__law_right.nd rfl (by first | exact .inl rfl | exact .inr rfl) (pmne hpm)) (dgs_cons (dg_name sc__law_right.nd rfl (by first | exact .inl rfl | exact .inr rfl) (pmne hpm)) (dgs_cons (dg_name sc__law_right.nd rfl (by first | exact .inl rfl | exact .inr rfl) (pmne hpm)) dgs_nil))))))
  (ds_cons (ds_asg (d_repr hr rfl (by rfl) B.repr (da_cons (le_var (pv 2)) da_nil)) (dg_name sc__law_right.nd rfl (by first | exact .inl rfl | exact .inr rfl) (pmne hpm)))
  (ds_cons (ds_asg (d_makeP mk_Plan_4 hr takes0 xlk0 (da_cons (le_var (pv 3)) (da_cons (le_var (pv 4)) (da_cons (le_var (pv 5)) (da_cons (le_var (pv 6)) da_nil)))) dk_nil) (dg_name sc__law_right.nd rfl (by first | exact .inl rfl | exact .inr rfl) (pmne hpm)))
  (ds_cons (ds_asg (d_makeP0 mk_Plan_0_known_places_matches_entries hr takes0 xlk0 (dk_cons (le_var (pv 6)) (dk_cons (le_var (pv 5)) (dk_cons (le_var (pv 4)) (dk_cons (le_var (pv 3)) dk_nil))))) (dg_name sc__law_right.nd rfl (by first | exact .inl rfl | exact .inr rfl) (pmne hpm)))
  (ds_cons (ds_asg (d_makeP mk_Plan_3 hr takes0 xlk0 (da_cons (le_var (pv 3)) (da_cons (le_var (pv 4)) (da_cons (le_var (pv 5)) da_nil))) dk_nil) (dg_name sc__law_right.nd rfl (by first | exact .inl rfl | exact .inr rfl) (pmne hpm)))
  (ds_cons (ds_asg (d_tup (da_cons (le_var (pv 3)) (da_cons (le_var (pv 4)) (da_cons (le_var (pv 5)) (da_cons (d_tuple (hK := rfl) (hg := by rfl) (hm := B.tuple) (ha := (da_cons (d_c c__law_facts hr (da_cons (le_var (pv 0)) (da_cons (le_var (pv 3)) (da_cons d_int da_nil)))) da_nil))) da_nil))))) (dg_name sc__law_right.nd rfl (by first | exact .inl rfl | exact .inr rfl) (pmne hpm)))
  (ds_cons (ds_asg (d_makeP mk_Plan_4 hr takes0 xlk0 (da_cons (d_ixA hU rfl (le_var (pv 11)) d_int) (da_cons (d_ixA hU rfl (le_var (pv 11)) d_int) (da_cons (d_ixA hU rfl (le_var (pv 11)) d_int) (da_cons (d_ixA hU rfl (le_var (pv 11)) d_int) da_nil)))) dk_nil) (dg_name sc__law_right.nd rfl (by first | exact .inl rfl | exact .inr rfl) (pmne hpm)))
  (ds_cons (ds_if ((dw_or (dt_not (dt_truth (d_c c__law_shows hr (da_cons (le_var (pv 12)) (da_cons (le_var (pv 11)) da_nil))) rfl)) (dw_or1 (dt_not (dt_truth (d_c c__law_shows hr (da_cons (le_var (pv 10)) (da_cons (d_tup (da_cons (le_var (pv 3)) (da_cons (le_var (pv 4)) (da_cons (le_var (pv 5)) (da_cons (d_tup da_nil) da_nil))))) da_nil))) rfl))))).pt (ds_one (ds_ret d_bl)) ds_nil)
  (ds_one (ds_ret (d_and (d_c c__law_shows hr (da_cons (le_var (pv 8)) (da_cons (le_var (pv 2)) da_nil))) (d_and (d_c c__law_shows hr (da_cons (le_var (pv 9)) (da_cons (le_var (pv 2)) da_nil))) (d_and (d_c c__law_shows hr (da_cons (le_var (pv 8)) (da_cons (le_var (pv 2)) da_nil))) (d_one (d_cm (c_eq rfl hU) (d_repr hr rfl (by rfl) B.repr (da_cons (le_var (pv 2)) da_nil)) (le_var (pv 7))))))))))))))))))
abbrev s_law : Stmt := top 44
theorem sc_law : FnScope ["_law_cells", "_law_k", "_law_pot_here"] ["_law_cells"] (defScope s_law) := ⟨rfl, rfl, rfl, by decide +kernel, rfl, by decide +kernel, by decide +kernel⟩
theorem ok_law (sp__law_pot : Spd) (sp__law_cell : Spd) (sp__law_right : Spd) (sp__law_draw : Spd) {sp : Spd} {dvs0 : List V} {kws0 : List (Str × V)} (F : FunD K "law" "law" (defArgs s_law) (defBody s_law) (defScope s_law) dvs0 kws0 f fd) (B : Bt mg) (c__law_pot : Cal P w K ca mg base 1 "_law_pot" [] sp__law_pot) (c__law_cell : Cal P w K ca mg base 1 "_law_cell" [] sp__law_cell) (c__law_right : Cal P w K ca mg base 6 "_law_right" [0] sp__law_right) (c__law_draw : Cal P w K ca mg base 1 "_law_draw" [0] sp__law_draw)
    (hlen : ∀ ds Qd Ed, sp ds Qd Ed → ds.length = 1) (hw : ∀ ds Qd Ed, sp ds Qd Ed → w_law sp__law_pot sp__law_cell sp__law_right sp__law_draw (fun c fs xs _ => Ed c fs xs) (endD [] Qd) (startD ["_law_cells", "_law_k", "_law_pot_here"] ds)) :
    FnG P w K mg base (L2.CX P w) 7 f fd ["_law_cells"] (lift K ca [] sp) := by
  refine fn_lift (k := 6) F sc_law (by decide) hlen (w_law sp__law_pot sp__law_cell sp__law_right sp__law_draw) (fun cdv A outer s H E hr G Ex hK hca hpm lk => ?_) hw
  have hU := hr.rm.units
  have hU5 : (A.deeper (envOfC "law" (defScope s_law) s.heap.objs.size f cdv)).units + 65 < cLine := by have := hr.rm.un; omega
  subst hK hca
  exact (ds_cons (ds_fg (vs := [1, 2]) (ds_fg0 (vs := [1, 2]) (ds_for (L2.passes_of rfl) rfl (di_r1 (by rfl) B.range (da_cons (d_max (hc := rfl) (hg := by rfl) (hm := B.max) (ha := (da_cons d_int (da_cons (d_min (hc := rfl) (hg := by rfl) (hm := B.min) (ha := (da_cons (d_lenS (by rfl) (by rfl) B.len (da_cons (le_var (pv 0)) da_nil)) (da_cons d_int da_nil)))) da_nil)))) da_nil)) (dg_name sc_law.nd rfl (by first | exact .inl rfl | exact .inr rfl) (pmne hpm))
  (dss_fg (vs := [1, 2]) (ds_cons (ds_asg (d_c c__law_pot hr (da_cons (d_c c__law_cell hr (da_cons (le_var (pv 0)) (da_cons (le_var (pv 1)) da_nil))) da_nil)) (dg_own sc_law.nd rfl (by first | exact .inl rfl | exact .inr rfl) (pmne hpm)))
  (ds_one (ds_if (dt_not (dt_truth (d_c c__law_right hr (da_cons (le_var (pv 2)) (da_cons (d_if (dt_cm (c_eq rfl hU) (le_var (pv 1)) d_int) d_int (d_add rfl d_int (d_c c__law_draw hr (da_cons (le_var (pv 2)) (da_cons d_int da_nil))))) da_nil))) rfl)) (ds_one (ds_ret d_bl)) ds_nil)))))))
  (ds_one (ds_ret d_bl)))
end
def dA__law_pot : He5.DefA := ⟨fun K => He.fAd K ("_law_pot", none), "_law_pot", "_law_pot", defArgs s__law_pot, defBody s__law_pot, defScope s__law_pot, [], []⟩
def dA__law_cell : He5.DefA := ⟨fun K => He.fAd K ("_law_cell", none), "_law_cell", "_law_cell", defArgs s__law_cell, defBody s__law_cell, defScope s__law_cell, [], []⟩
def dA__law_draw : He5.DefA := ⟨fun K => He.fAd K ("_law_draw", none), "_law_draw", "_law_draw", defArgs s__law_draw, defBody s__law_draw, defScope s__law_draw, [], []⟩
def dA__law_name : He5.DefA := ⟨fun K => He.fAd K ("_law_name", none), "_law_name", "_law_name", defArgs s__law_name, defBody s__law_name, defScope s__law_name, [], []⟩
def dA__law_names : He5.DefA := ⟨fun K => He.fAd K ("_law_names", none), "_law_names", "_law_names", defArgs s__law_names, defBody s__law_names, defScope s__law_names, [], []⟩
def dA__law_games : He5.DefA := ⟨fun K => He.fAd K ("_law_games", none), "_law_games", "_law_games", defArgs s__law_games, defBody s__law_games, defScope s__law_games, [], []⟩
def dA__law_spread : He5.DefA := ⟨fun K => He.fAd K ("_law_spread", none), "_law_spread", "_law_spread", defArgs s__law_spread, defBody s__law_spread, defScope s__law_spread, [], []⟩
def dA__law_spots : He5.DefA := ⟨fun K => He.fAd K ("_law_spots", none), "_law_spots", "_law_spots", defArgs s__law_spots, defBody s__law_spots, defScope s__law_spots, [], []⟩
def dA__law_facts : He5.DefA := ⟨fun K => He.fAd K ("_law_facts", none), "_law_facts", "_law_facts", defArgs s__law_facts, defBody s__law_facts, defScope s__law_facts, [], []⟩
def dA__law_drawn : He5.DefA := ⟨fun K => He.fAd K ("_law_drawn", none), "_law_drawn", "_law_drawn", defArgs s__law_drawn, defBody s__law_drawn, defScope s__law_drawn, [], []⟩
def dA_is_name : He5.DefA := ⟨fun K => He.fAd K ("is_name", none), "is_name", "is_name", defArgs s_is_name, defBody s_is_name, defScope s_is_name, [], []⟩
def dA_check_entries : He5.DefA := ⟨fun K => He.fAd K ("check_entries", none), "check_entries", "check_entries", defArgs s_check_entries, defBody s_check_entries, defScope s_check_entries, [], []⟩
def dA_is_match : He5.DefA := ⟨fun K => He.fAd K ("is_match", none), "is_match", "is_match", defArgs s_is_match, defBody s_is_match, defScope s_is_match, [], []⟩
def dA_check_matches : He5.DefA := ⟨fun K => He.fAd K ("check_matches", none), "check_matches", "check_matches", defArgs s_check_matches, defBody s_check_matches, defScope s_check_matches, [], []⟩
def dA_check_places : He5.DefA := ⟨fun K => He.fAd K ("check_places", none), "check_places", "check_places", defArgs s_check_places, defBody s_check_places, defScope s_check_places, [], []⟩
def dA_is_fact : He5.DefA := ⟨fun K => He.fAd K ("is_fact", none), "is_fact", "is_fact", defArgs s_is_fact, defBody s_is_fact, defScope s_is_fact, [], []⟩
def dA_has_ring : He5.DefA := ⟨fun K => He.fAd K ("has_ring", none), "has_ring", "has_ring", defArgs s_has_ring, defBody s_has_ring, defScope s_has_ring, [], []⟩
def dA_all_facts : He5.DefA := ⟨fun K => He.fAd K ("all_facts", none), "all_facts", "all_facts", defArgs s_all_facts, defBody s_all_facts, defScope s_all_facts, [], []⟩
def dA_check_known : He5.DefA := ⟨fun K => He.fAd K ("check_known", none), "check_known", "check_known", defArgs s_check_known, defBody s_check_known, defScope s_check_known, [], []⟩
def dA_Plan__init_ : He5.DefA := ⟨fun K => He.fAd K ("Plan", some "__init__"), "__init__", "Plan.__init__", defArgs s_Plan__init_, defBody s_Plan__init_, defScope s_Plan__init_, [.adr (He.dflAt ("Plan", some "__init__") 0)], []⟩
def dA_Plan_known : He5.DefA := ⟨fun K => He6.gAd K "Plan" "known", "known", "Plan.known", defArgs s_Plan_known, defBody s_Plan_known, defScope s_Plan_known, [], []⟩
def dA_Plan_places : He5.DefA := ⟨fun K => He6.gAd K "Plan" "places", "places", "Plan.places", defArgs s_Plan_places, defBody s_Plan_places, defScope s_Plan_places, [], []⟩
def dA_Plan_matches : He5.DefA := ⟨fun K => He6.gAd K "Plan" "matches", "matches", "Plan.matches", defArgs s_Plan_matches, defBody s_Plan_matches, defScope s_Plan_matches, [], []⟩
def dA_Plan_entries : He5.DefA := ⟨fun K => He6.gAd K "Plan" "entries", "entries", "Plan.entries", defArgs s_Plan_entries, defBody s_Plan_entries, defScope s_Plan_entries, [], []⟩
def dA_Plan__len_ : He5.DefA := ⟨fun K => He.fAd K ("Plan", some "__len__"), "__len__", "Plan.__len__", defArgs s_Plan__len_, defBody s_Plan__len_, defScope s_Plan__len_, [], []⟩
def dA_Plan__bool_ : He5.DefA := ⟨fun K => He.fAd K ("Plan", some "__bool__"), "__bool__", "Plan.__bool__", defArgs s_Plan__bool_, defBody s_Plan__bool_, defScope s_Plan__bool_, [], []⟩
def dA_Plan__str_ : He5.DefA := ⟨fun K => He.fAd K ("Plan", some "__str__"), "__str__", "Plan.__str__", defArgs s_Plan__str_, defBody s_Plan__str_, defScope s_Plan__str_, [], []⟩
def dA__law_text : He5.DefA := ⟨fun K => He.fAd K ("_law_text", none), "_law_text", "_law_text", defArgs s__law_text, defBody s__law_text, defScope s__law_text, [], []⟩
def dA_Plan__getitem_ : He5.DefA := ⟨fun K => He.fAd K ("Plan", some "__getitem__"), "__getitem__", "Plan.__getitem__", defArgs s_Plan__getitem_, defBody s_Plan__getitem_, defScope s_Plan__getitem_, [], []⟩
def dA__law_shows : He5.DefA := ⟨fun K => He.fAd K ("_law_shows", none), "_law_shows", "_law_shows", defArgs s__law_shows, defBody s__law_shows, defScope s__law_shows, [], []⟩
def dA__law_right : He5.DefA := ⟨fun K => He.fAd K ("_law_right", none), "_law_right", "_law_right", defArgs s__law_right, defBody s__law_right, defScope s__law_right, [], []⟩
def dA_law : He5.DefA := ⟨fun K => He.fAd K ("law", none), "law", "law", defArgs s_law, defBody s_law, defScope s_law, [], []⟩
def fnL : List He5.DefA := [dA__law_pot, dA__law_cell, dA__law_draw, dA__law_name, dA__law_names, dA__law_games, dA__law_spread, dA__law_spots, dA__law_facts, dA__law_drawn, dA_is_name, dA_check_entries, dA_is_match, dA_check_matches, dA_check_places, dA_is_fact, dA_has_ring, dA_all_facts, dA_check_known, dA_Plan__init_, dA_Plan_known, dA_Plan_places, dA_Plan_matches, dA_Plan_entries, dA_Plan__len_, dA_Plan__bool_, dA_Plan__str_, dA__law_text, dA_Plan__getitem_, dA__law_shows, dA__law_right, dA_law]
def faL : List He.Fa := [
  .free "len",
  .free "range",
  .free "list",
  .free "tuple",
  .free "str",
  .free "int",
  .free "bool",
  .free "repr",
  .free "abs",
  .free "min",
  .free "max",
  .free "sum",
  .free "all",
  .free "any",
  .free "sorted",
  .free "divmod",
  .free "isinstance",
  .free "enumerate",
  .free "zip",
  .free "dict",
  .free "set",
  .free "type",
  .glo "law",
  .glo "_law_draw",
  .glo "_law_name",
  .glo "_law_spread",
  .glo "_law_names",
  .glo "_law_games",
  .glo "_law_spots",
  .glo "_law_facts",
  .int "LONGEST_NAME" 8,
  .str "LETTERS" "abcdefghijklmnopqrstuvwxyz",
  .str "DIGITS" "0123456789",
  .int "MOST_ENTRIES" 8,
  .glo "is_name",
  .int "MOST_MATCHES" 24,
  .glo "is_match",
  .int "MOST_KNOWN" 12,
  .glo "is_fact",
  .glo "has_ring",
  .glo "all_facts",
  .glo "check_entries",
  .cls "Plan",
  .noat "Plan" "ends",
  .noat "Plan" "sites",
  .glo "check_matches",
  .noat "Plan" "end_places",
  .glo "check_places",
  .glo "check_known",
  .noat "Plan" "weaker",
  .noat "Plan" "held_entries",
  .noat "Plan" "held_matches",
  .noat "Plan" "held_places",
  .noat "Plan" "held_known",
  .meth "Plan" "__len__",
  .meth "Plan" "__bool__",
  .meth "Plan" "__str__",
  .glo "_law_text",
  .meth "Plan" "__getitem__",
  .glo "_law_drawn",
  .mkr "Plan",
  .glo "Plan",
  .glo "_law_shows",
  .glo "_law_pot",
  .glo "_law_cell",
  .glo "_law_right"]
def exL : List (PySem.W.Frag → Bool) := [He6.propB "Plan" "known", He6.propB "Plan" "places", He6.propB "Plan" "matches", He6.propB "Plan" "entries", He6.fnB "Plan" "__len__", He6.fnB "Plan" "__bool__", He6.fnB "Plan" "__str__", He6.fnB "Plan" "__getitem__", He6.nilB (He.dflAt ("Plan", some "__init__") 0)]
def loose0 : List Str := [("_wall" : Str), ("BadValue" : Str), ("BadName" : Str), ("InvalidText" : Str), ("InvalidEntries" : Str), ("InvalidMatches" : Str), ("InvalidPlaces" : Str), ("InvalidKnown" : Str), ("UnknownName" : Str), ("all_facts" : Str), ("has_ring" : Str), ("MOST_ENTRIES" : Str), ("MOST_MATCHES" : Str), ("MOST_KNOWN" : Str), ("LETTERS" : Str), ("DIGITS" : Str), ("LONGEST_NAME" : Str), ("is_name" : Str), ("check_entries" : Str), ("check_matches" : Str), ("is_match" : Str), ("check_places" : Str), ("check_known" : Str), ("is_fact" : Str), ("read_fact" : Str), ("Plan" : Str), ("_law_cell" : Str), ("_law_pot" : Str), ("_law_draw" : Str), ("_law_name" : Str), ("_law_names" : Str), ("_law_spread" : Str), ("_law_games" : Str), ("_law_spots" : Str), ("_law_facts" : Str)]
def loose1 : List Str := [("_law_drawn" : Str), ("_law_text" : Str), ("_law_shows" : Str), ("_law_right" : Str)]
def looseL : List Str := loose0 ++ loose1
abbrev R : PySem.W.OpenRow := PySem.W.OpenLaw.row PySem.Challenge.rw_matchplans_k02_plans_made
abbrev hk : PySem.W.Hook := He6.hookM 7 faL exL fnL
def ob (s : PySem.W.SharedT) : He.AlD := He6.obsMG 7 faL exL fnL (HandSHeadRun.getT s)
theorem ob_eq (s : PySem.W.SharedT) : ob s = hk.obs s.abs := He6.obsMG_eq (HandSHeadRun.getT_eq s)
theorem run (w : World) : HandSHeadRun.RunEq R (PySem.W.view R.prog [44]) hk ob 20000 looseL w := by
  intro os
  kernel_rfl
theorem facts {P : Program} {w : World} {K : PySem.W.Frag} {h : Heap} {mg : Str → Option Value} (X : K.In h) (G : h.Ns mainGlobals mg) (c : He6.SaysM faL exL fnL K) :
    ∃ fd : FuncData, (∀ (s : Shared) (v : Value), BindsTo s fd ⟨[v], []⟩ [("_law_cells", v)]) ∧ mg "law" = some (.ref (He.fAd K ("law", none))) ∧ ∀ base : Heap, FnG P w K mg base (L2.CX P w) 7 (He.fAd K ("law", none)) fd ["_law_cells"] (lift K (He.ga K) [] sp_law) := by
  have B : Bt mg := ⟨He.free_ok X G (c.fact 0 rfl), He.free_ok X G (c.fact 1 rfl), He.free_ok X G (c.fact 2 rfl), He.free_ok X G (c.fact 3 rfl), He.free_ok X G (c.fact 4 rfl), He.free_ok X G (c.fact 5 rfl), He.free_ok X G (c.fact 6 rfl), He.free_ok X G (c.fact 7 rfl), He.free_ok X G (c.fact 8 rfl), He.free_ok X G (c.fact 9 rfl), He.free_ok X G (c.fact 10 rfl), He.free_ok X G (c.fact 11 rfl), He.free_ok X G (c.fact 12 rfl), He.free_ok X G (c.fact 13 rfl), He.free_ok X G (c.fact 14 rfl), He.free_ok X G (c.fact 15 rfl), He.free_ok X G (c.fact 16 rfl), He.free_ok X G (c.fact 17 rfl), He.free_ok X G (c.fact 18 rfl), He.free_ok X G (c.fact 19 rfl), He.free_ok X G (c.fact 20 rfl), He.free_ok X G (c.fact 21 rfl)⟩
  obtain ⟨fd__law_pot, F__law_pot⟩ := c.def_ 0 (d := dA__law_pot) rfl
  obtain ⟨fd__law_cell, F__law_cell⟩ := c.def_ 1 (d := dA__law_cell) rfl
  obtain ⟨fd__law_draw, F__law_draw⟩ := c.def_ 2 (d := dA__law_draw) rfl
  obtain ⟨fd__law_name, F__law_name⟩ := c.def_ 3 (d := dA__law_name) rfl
  obtain ⟨fd__law_names, F__law_names⟩ := c.def_ 4 (d := dA__law_names) rfl
  obtain ⟨fd__law_games, F__law_games⟩ := c.def_ 5 (d := dA__law_games) rfl
  obtain ⟨fd__law_spread, F__law_spread⟩ := c.def_ 6 (d := dA__law_spread) rfl
  obtain ⟨fd__law_spots, F__law_spots⟩ := c.def_ 7 (d := dA__law_spots) rfl
  obtain ⟨fd__law_facts, F__law_facts⟩ := c.def_ 8 (d := dA__law_facts) rfl
  obtain ⟨fd__law_drawn, F__law_drawn⟩ := c.def_ 9 (d := dA__law_drawn) rfl
  obtain ⟨fd_is_name, F_is_name⟩ := c.def_ 10 (d := dA_is_name) rfl
  obtain ⟨fd_check_entries, F_check_entries⟩ := c.def_ 11 (d := dA_check_entries) rfl
  obtain ⟨fd_is_match, F_is_match⟩ := c.def_ 12 (d := dA_is_match) rfl
  obtain ⟨fd_check_matches, F_check_matches⟩ := c.def_ 13 (d := dA_check_matches) rfl
  obtain ⟨fd_check_places, F_check_places⟩ := c.def_ 14 (d := dA_check_places) rfl
  obtain ⟨fd_is_fact, F_is_fact⟩ := c.def_ 15 (d := dA_is_fact) rfl
  obtain ⟨fd_has_ring, F_has_ring⟩ := c.def_ 16 (d := dA_has_ring) rfl
  obtain ⟨fd_all_facts, F_all_facts⟩ := c.def_ 17 (d := dA_all_facts) rfl
  obtain ⟨fd_check_known, F_check_known⟩ := c.def_ 18 (d := dA_check_known) rfl
  obtain ⟨fd_Plan__init_, F_Plan__init_⟩ := c.def_ 19 (d := dA_Plan__init_) rfl
  obtain ⟨fd_Plan_known, F_Plan_known⟩ := c.def_ 20 (d := dA_Plan_known) rfl
  obtain ⟨fd_Plan_places, F_Plan_places⟩ := c.def_ 21 (d := dA_Plan_places) rfl
  obtain ⟨fd_Plan_matches, F_Plan_matches⟩ := c.def_ 22 (d := dA_Plan_matches) rfl
  obtain ⟨fd_Plan_entries, F_Plan_entries⟩ := c.def_ 23 (d := dA_Plan_entries) rfl
  obtain ⟨fd_Plan__len_, F_Plan__len_⟩ := c.def_ 24 (d := dA_Plan__len_) rfl
  obtain ⟨fd_Plan__bool_, F_Plan__bool_⟩ := c.def_ 25 (d := dA_Plan__bool_) rfl
  obtain ⟨fd_Plan__str_, F_Plan__str_⟩ := c.def_ 26 (d := dA_Plan__str_) rfl
  obtain ⟨fd__law_text, F__law_text⟩ := c.def_ 27 (d := dA__law_text) rfl
  obtain ⟨fd_Plan__getitem_, F_Plan__getitem_⟩ := c.def_ 28 (d := dA_Plan__getitem_) rfl
  obtain ⟨fd__law_shows, F__law_shows⟩ := c.def_ 29 (d := dA__law_shows) rfl
  obtain ⟨fd__law_right, F__law_right⟩ := c.def_ 30 (d := dA__law_right) rfl
  obtain ⟨fd_law, F_law⟩ := c.def_ 31 (d := dA_law) rfl
  refine ⟨fd_law, fun s v => FunD.bindsA (ps := ["_law_cells"]) F_law (fun _ _ _ _ _ _ us hl => match us, hl with | [_], _ => rfl) s [v] rfl, He.glo_ok X G (c.fact 22 rfl), fun base => ?_⟩
  have G__law_pot : FnG P w K mg base (L2.CX P w) 1 _ fd__law_pot ["_law_cell_here"] (lift K (He.ga K) [] sp__law_pot) := ok__law_pot F__law_pot B  (by first | (rintro _ _ _ ⟨_, rfl, _⟩; rfl) | (rintro _ _ _ ⟨_, _, rfl, _⟩; rfl) | (rintro _ _ _ ⟨_, _, _, rfl, _⟩; rfl) | (rintro _ _ _ ⟨_, _, _, _, rfl, _⟩; rfl) | (rintro _ _ _ ⟨_, _, _, _, _, rfl, _⟩; rfl) | (rintro _ _ _ ⟨_, _, _, _, _, _, rfl, _⟩; rfl)) hw__law_pot
  have G__law_cell : FnG P w K mg base (L2.CX P w) 1 _ fd__law_cell ["_law_cells", "_law_k"] (lift K (He.ga K) [] sp__law_cell) := ok__law_cell F__law_cell B  (by first | (rintro _ _ _ ⟨_, rfl, _⟩; rfl) | (rintro _ _ _ ⟨_, _, rfl, _⟩; rfl) | (rintro _ _ _ ⟨_, _, _, rfl, _⟩; rfl) | (rintro _ _ _ ⟨_, _, _, _, rfl, _⟩; rfl) | (rintro _ _ _ ⟨_, _, _, _, _, rfl, _⟩; rfl) | (rintro _ _ _ ⟨_, _, _, _, _, _, rfl, _⟩; rfl)) hw__law_cell
  have G__law_draw : FnG P w K mg base (L2.CX P w) 1 _ fd__law_draw ["_law_pot_here", "_law_many"] (lift K (He.ga K) [0] sp__law_draw) := ok__law_draw F__law_draw B  (by first | (rintro _ _ _ ⟨_, rfl, _⟩; rfl) | (rintro _ _ _ ⟨_, _, rfl, _⟩; rfl) | (rintro _ _ _ ⟨_, _, _, rfl, _⟩; rfl) | (rintro _ _ _ ⟨_, _, _, _, rfl, _⟩; rfl) | (rintro _ _ _ ⟨_, _, _, _, _, rfl, _⟩; rfl) | (rintro _ _ _ ⟨_, _, _, _, _, _, rfl, _⟩; rfl)) hw__law_draw
  have h__law_name_c__law_draw : Cal P w K (He.ga K) mg base 1 "_law_draw" [0] sp__law_draw := ⟨_, fd__law_draw, ["_law_pot_here", "_law_many"], G__law_draw, He.glo_ok X G (c.fact 23 rfl), F__law_draw.kp, (F__law_draw.bindsN fun _ _ _ _ _ _ us hl => match us, hl with | [_, _], _ => rfl)⟩
  have G__law_name : FnG P w K mg base (L2.CX P w) 2 _ fd__law_name ["_law_pot_here", "_law_taken"] (lift K (He.ga K) [0] sp__law_name) := ok__law_name sp__law_draw F__law_name B h__law_name_c__law_draw (by first | (rintro _ _ _ ⟨_, rfl, _⟩; rfl) | (rintro _ _ _ ⟨_, _, rfl, _⟩; rfl) | (rintro _ _ _ ⟨_, _, _, rfl, _⟩; rfl) | (rintro _ _ _ ⟨_, _, _, _, rfl, _⟩; rfl) | (rintro _ _ _ ⟨_, _, _, _, _, rfl, _⟩; rfl) | (rintro _ _ _ ⟨_, _, _, _, _, _, rfl, _⟩; rfl)) hw__law_name
  have h__law_names_c__law_name : Cal P w K (He.ga K) mg base 2 "_law_name" [0] sp__law_name := ⟨_, fd__law_name, ["_law_pot_here", "_law_taken"], G__law_name, He.glo_ok X G (c.fact 24 rfl), F__law_name.kp, (F__law_name.bindsN fun _ _ _ _ _ _ us hl => match us, hl with | [_, _], _ => rfl)⟩
  have G__law_names : FnG P w K mg base (L2.CX P w) 3 _ fd__law_names ["_law_pot_here", "_law_many", "_law_taken"] (lift K (He.ga K) [0] sp__law_names) := ok__law_names sp__law_name F__law_names B h__law_names_c__law_name (by first | (rintro _ _ _ ⟨_, rfl, _⟩; rfl) | (rintro _ _ _ ⟨_, _, rfl, _⟩; rfl) | (rintro _ _ _ ⟨_, _, _, rfl, _⟩; rfl) | (rintro _ _ _ ⟨_, _, _, _, rfl, _⟩; rfl) | (rintro _ _ _ ⟨_, _, _, _, _, rfl, _⟩; rfl) | (rintro _ _ _ ⟨_, _, _, _, _, _, rfl, _⟩; rfl)) hw__law_names
  have h__law_games_c__law_name : Cal P w K (He.ga K) mg base 2 "_law_name" [0] sp__law_name := ⟨_, fd__law_name, ["_law_pot_here", "_law_taken"], G__law_name, He.glo_ok X G (c.fact 24 rfl), F__law_name.kp, (F__law_name.bindsN fun _ _ _ _ _ _ us hl => match us, hl with | [_, _], _ => rfl)⟩
  have h__law_games_c__law_draw : Cal P w K (He.ga K) mg base 1 "_law_draw" [0] sp__law_draw := ⟨_, fd__law_draw, ["_law_pot_here", "_law_many"], G__law_draw, He.glo_ok X G (c.fact 23 rfl), F__law_draw.kp, (F__law_draw.bindsN fun _ _ _ _ _ _ us hl => match us, hl with | [_, _], _ => rfl)⟩
  have G__law_games : FnG P w K mg base (L2.CX P w) 3 _ fd__law_games ["_law_pot_here", "_law_folk", "_law_many"] (lift K (He.ga K) [0] sp__law_games) := ok__law_games sp__law_name sp__law_draw F__law_games B h__law_games_c__law_name h__law_games_c__law_draw (by first | (rintro _ _ _ ⟨_, rfl, _⟩; rfl) | (rintro _ _ _ ⟨_, _, rfl, _⟩; rfl) | (rintro _ _ _ ⟨_, _, _, rfl, _⟩; rfl) | (rintro _ _ _ ⟨_, _, _, _, rfl, _⟩; rfl) | (rintro _ _ _ ⟨_, _, _, _, _, rfl, _⟩; rfl) | (rintro _ _ _ ⟨_, _, _, _, _, _, rfl, _⟩; rfl)) hw__law_games
  have h__law_spread_c__law_draw : Cal P w K (He.ga K) mg base 1 "_law_draw" [0] sp__law_draw := ⟨_, fd__law_draw, ["_law_pot_here", "_law_many"], G__law_draw, He.glo_ok X G (c.fact 23 rfl), F__law_draw.kp, (F__law_draw.bindsN fun _ _ _ _ _ _ us hl => match us, hl with | [_, _], _ => rfl)⟩
  have G__law_spread : FnG P w K mg base (L2.CX P w) 2 _ fd__law_spread ["_law_pot_here", "_law_things"] (lift K (He.ga K) [0] sp__law_spread) := ok__law_spread sp__law_draw F__law_spread B h__law_spread_c__law_draw (by first | (rintro _ _ _ ⟨_, rfl, _⟩; rfl) | (rintro _ _ _ ⟨_, _, rfl, _⟩; rfl) | (rintro _ _ _ ⟨_, _, _, rfl, _⟩; rfl) | (rintro _ _ _ ⟨_, _, _, _, rfl, _⟩; rfl) | (rintro _ _ _ ⟨_, _, _, _, _, rfl, _⟩; rfl) | (rintro _ _ _ ⟨_, _, _, _, _, _, rfl, _⟩; rfl)) hw__law_spread
  have h__law_spots_c__law_spread : Cal P w K (He.ga K) mg base 2 "_law_spread" [0] sp__law_spread := ⟨_, fd__law_spread, ["_law_pot_here", "_law_things"], G__law_spread, He.glo_ok X G (c.fact 25 rfl), F__law_spread.kp, (F__law_spread.bindsN fun _ _ _ _ _ _ us hl => match us, hl with | [_, _], _ => rfl)⟩
  have h__law_spots_c__law_draw : Cal P w K (He.ga K) mg base 1 "_law_draw" [0] sp__law_draw := ⟨_, fd__law_draw, ["_law_pot_here", "_law_many"], G__law_draw, He.glo_ok X G (c.fact 23 rfl), F__law_draw.kp, (F__law_draw.bindsN fun _ _ _ _ _ _ us hl => match us, hl with | [_, _], _ => rfl)⟩
  have G__law_spots : FnG P w K mg base (L2.CX P w) 3 _ fd__law_spots ["_law_pot_here", "_law_left"] (lift K (He.ga K) [0] sp__law_spots) := ok__law_spots sp__law_spread sp__law_draw F__law_spots B h__law_spots_c__law_spread h__law_spots_c__law_draw (by first | (rintro _ _ _ ⟨_, rfl, _⟩; rfl) | (rintro _ _ _ ⟨_, _, rfl, _⟩; rfl) | (rintro _ _ _ ⟨_, _, _, rfl, _⟩; rfl) | (rintro _ _ _ ⟨_, _, _, _, rfl, _⟩; rfl) | (rintro _ _ _ ⟨_, _, _, _, _, rfl, _⟩; rfl) | (rintro _ _ _ ⟨_, _, _, _, _, _, rfl, _⟩; rfl)) hw__law_spots
  have h__law_facts_c__law_spread : Cal P w K (He.ga K) mg base 2 "_law_spread" [0] sp__law_spread := ⟨_, fd__law_spread, ["_law_pot_here", "_law_things"], G__law_spread, He.glo_ok X G (c.fact 25 rfl), F__law_spread.kp, (F__law_spread.bindsN fun _ _ _ _ _ _ us hl => match us, hl with | [_, _], _ => rfl)⟩
  have G__law_facts : FnG P w K mg base (L2.CX P w) 3 _ fd__law_facts ["_law_pot_here", "_law_folk", "_law_many"] (lift K (He.ga K) [0] sp__law_facts) := ok__law_facts sp__law_spread F__law_facts B h__law_facts_c__law_spread (by first | (rintro _ _ _ ⟨_, rfl, _⟩; rfl) | (rintro _ _ _ ⟨_, _, rfl, _⟩; rfl) | (rintro _ _ _ ⟨_, _, _, rfl, _⟩; rfl) | (rintro _ _ _ ⟨_, _, _, _, rfl, _⟩; rfl) | (rintro _ _ _ ⟨_, _, _, _, _, rfl, _⟩; rfl) | (rintro _ _ _ ⟨_, _, _, _, _, _, rfl, _⟩; rfl)) hw__law_facts
  have h__law_drawn_c__law_names : Cal P w K (He.ga K) mg base 3 "_law_names" [0] sp__law_names := ⟨_, fd__law_names, ["_law_pot_here", "_law_many", "_law_taken"], G__law_names, He.glo_ok X G (c.fact 26 rfl), F__law_names.kp, (F__law_names.bindsN fun _ _ _ _ _ _ us hl => match us, hl with | [_, _, _], _ => rfl)⟩
  have h__law_drawn_c__law_draw : Cal P w K (He.ga K) mg base 1 "_law_draw" [0] sp__law_draw := ⟨_, fd__law_draw, ["_law_pot_here", "_law_many"], G__law_draw, He.glo_ok X G (c.fact 23 rfl), F__law_draw.kp, (F__law_draw.bindsN fun _ _ _ _ _ _ us hl => match us, hl with | [_, _], _ => rfl)⟩
  have h__law_drawn_c__law_games : Cal P w K (He.ga K) mg base 3 "_law_games" [0] sp__law_games := ⟨_, fd__law_games, ["_law_pot_here", "_law_folk", "_law_many"], G__law_games, He.glo_ok X G (c.fact 27 rfl), F__law_games.kp, (F__law_games.bindsN fun _ _ _ _ _ _ us hl => match us, hl with | [_, _, _], _ => rfl)⟩
  have h__law_drawn_c__law_spots : Cal P w K (He.ga K) mg base 3 "_law_spots" [0] sp__law_spots := ⟨_, fd__law_spots, ["_law_pot_here", "_law_left"], G__law_spots, He.glo_ok X G (c.fact 28 rfl), F__law_spots.kp, (F__law_spots.bindsN fun _ _ _ _ _ _ us hl => match us, hl with | [_, _], _ => rfl)⟩
  have h__law_drawn_c__law_facts : Cal P w K (He.ga K) mg base 3 "_law_facts" [0] sp__law_facts := ⟨_, fd__law_facts, ["_law_pot_here", "_law_folk", "_law_many"], G__law_facts, He.glo_ok X G (c.fact 29 rfl), F__law_facts.kp, (F__law_facts.bindsN fun _ _ _ _ _ _ us hl => match us, hl with | [_, _, _], _ => rfl)⟩
  have G__law_drawn : FnG P w K mg base (L2.CX P w) 4 _ fd__law_drawn ["_law_pot_here", "_law_way"] (lift K (He.ga K) [0] sp__law_drawn) := ok__law_drawn sp__law_names sp__law_draw sp__law_games sp__law_spots sp__law_facts F__law_drawn B h__law_drawn_c__law_names h__law_drawn_c__law_draw h__law_drawn_c__law_games h__law_drawn_c__law_spots h__law_drawn_c__law_facts (by first | (rintro _ _ _ ⟨_, rfl, _⟩; rfl) | (rintro _ _ _ ⟨_, _, rfl, _⟩; rfl) | (rintro _ _ _ ⟨_, _, _, rfl, _⟩; rfl) | (rintro _ _ _ ⟨_, _, _, _, rfl, _⟩; rfl) | (rintro _ _ _ ⟨_, _, _, _, _, rfl, _⟩; rfl) | (rintro _ _ _ ⟨_, _, _, _, _, _, rfl, _⟩; rfl)) hw__law_drawn
  have h_is_name_g_LONGEST_NAME : ∃ t, mg "LONGEST_NAME" = some (.int 8 t) := He.int_ok X G (c.fact 30 rfl)
  have h_is_name_g_LETTERS : ∃ t, mg "LETTERS" = some (.str "abcdefghijklmnopqrstuvwxyz" t) := He.str_ok X G (c.fact 31 rfl)
  have h_is_name_g_DIGITS : ∃ t, mg "DIGITS" = some (.str "0123456789" t) := He.str_ok X G (c.fact 32 rfl)
  have G_is_name : FnG P w K mg base (L2.CX P w) 1 _ fd_is_name ["value"] (lift K (He.ga K) [] sp_is_name) := ok_is_name F_is_name B h_is_name_g_LONGEST_NAME h_is_name_g_LETTERS h_is_name_g_DIGITS (by first | (rintro _ _ _ ⟨_, rfl, _⟩; rfl) | (rintro _ _ _ ⟨_, _, rfl, _⟩; rfl) | (rintro _ _ _ ⟨_, _, _, rfl, _⟩; rfl) | (rintro _ _ _ ⟨_, _, _, _, rfl, _⟩; rfl) | (rintro _ _ _ ⟨_, _, _, _, _, rfl, _⟩; rfl) | (rintro _ _ _ ⟨_, _, _, _, _, _, rfl, _⟩; rfl)) hw_is_name
  have h_check_entries_g_MOST_ENTRIES : ∃ t, mg "MOST_ENTRIES" = some (.int 8 t) := He.int_ok X G (c.fact 33 rfl)
  have h_check_entries_c_is_name : Cal P w K (He.ga K) mg base 1 "is_name" [] sp_is_name := ⟨_, fd_is_name, ["value"], G_is_name, He.glo_ok X G (c.fact 34 rfl), F_is_name.kp, (F_is_name.bindsN fun _ _ _ _ _ _ us hl => match us, hl with | [_], _ => rfl)⟩
  have G_check_entries : FnG P w K mg base (L2.CX P w) 3 _ fd_check_entries ["value"] (lift K (He.ga K) [] sp_check_entries) := ok_check_entries sp_is_name F_check_entries B h_check_entries_g_MOST_ENTRIES h_check_entries_c_is_name (by first | (rintro _ _ _ ⟨_, rfl, _⟩; rfl) | (rintro _ _ _ ⟨_, _, rfl, _⟩; rfl) | (rintro _ _ _ ⟨_, _, _, rfl, _⟩; rfl) | (rintro _ _ _ ⟨_, _, _, _, rfl, _⟩; rfl) | (rintro _ _ _ ⟨_, _, _, _, _, rfl, _⟩; rfl) | (rintro _ _ _ ⟨_, _, _, _, _, _, rfl, _⟩; rfl)) hw_check_entries
  have h_is_match_c_is_name : Cal P w K (He.ga K) mg base 1 "is_name" [] sp_is_name := ⟨_, fd_is_name, ["value"], G_is_name, He.glo_ok X G (c.fact 34 rfl), F_is_name.kp, (F_is_name.bindsN fun _ _ _ _ _ _ us hl => match us, hl with | [_], _ => rfl)⟩
  have G_is_match : FnG P w K mg base (L2.CX P w) 2 _ fd_is_match ["value", "names", "there"] (lift K (He.ga K) [] sp_is_match) := ok_is_match sp_is_name F_is_match B h_is_match_c_is_name (by first | (rintro _ _ _ ⟨_, rfl, _⟩; rfl) | (rintro _ _ _ ⟨_, _, rfl, _⟩; rfl) | (rintro _ _ _ ⟨_, _, _, rfl, _⟩; rfl) | (rintro _ _ _ ⟨_, _, _, _, rfl, _⟩; rfl) | (rintro _ _ _ ⟨_, _, _, _, _, rfl, _⟩; rfl) | (rintro _ _ _ ⟨_, _, _, _, _, _, rfl, _⟩; rfl)) hw_is_match
  have h_check_matches_g_MOST_MATCHES : ∃ t, mg "MOST_MATCHES" = some (.int 24 t) := He.int_ok X G (c.fact 35 rfl)
  have h_check_matches_c_is_match : Cal P w K (He.ga K) mg base 2 "is_match" [] sp_is_match := ⟨_, fd_is_match, ["value", "names", "there"], G_is_match, He.glo_ok X G (c.fact 36 rfl), F_is_match.kp, (F_is_match.bindsN fun _ _ _ _ _ _ us hl => match us, hl with | [_, _, _], _ => rfl)⟩
  have G_check_matches : FnG P w K mg base (L2.CX P w) 3 _ fd_check_matches ["entries", "value"] (lift K (He.ga K) [] sp_check_matches) := ok_check_matches sp_is_match F_check_matches B h_check_matches_g_MOST_MATCHES h_check_matches_c_is_match (by first | (rintro _ _ _ ⟨_, rfl, _⟩; rfl) | (rintro _ _ _ ⟨_, _, rfl, _⟩; rfl) | (rintro _ _ _ ⟨_, _, _, rfl, _⟩; rfl) | (rintro _ _ _ ⟨_, _, _, _, rfl, _⟩; rfl) | (rintro _ _ _ ⟨_, _, _, _, _, rfl, _⟩; rfl) | (rintro _ _ _ ⟨_, _, _, _, _, _, rfl, _⟩; rfl)) hw_check_matches
  have G_check_places : FnG P w K mg base (L2.CX P w) 3 _ fd_check_places ["ends", "value"] (lift K (He.ga K) [] sp_check_places) := ok_check_places F_check_places B  (by first | (rintro _ _ _ ⟨_, rfl, _⟩; rfl) | (rintro _ _ _ ⟨_, _, rfl, _⟩; rfl) | (rintro _ _ _ ⟨_, _, _, rfl, _⟩; rfl) | (rintro _ _ _ ⟨_, _, _, _, rfl, _⟩; rfl) | (rintro _ _ _ ⟨_, _, _, _, _, rfl, _⟩; rfl) | (rintro _ _ _ ⟨_, _, _, _, _, _, rfl, _⟩; rfl)) hw_check_places
  have G_is_fact : FnG P w K mg base (L2.CX P w) 1 _ fd_is_fact ["value", "entries"] (lift K (He.ga K) [] sp_is_fact) := ok_is_fact F_is_fact B  (by first | (rintro _ _ _ ⟨_, rfl, _⟩; rfl) | (rintro _ _ _ ⟨_, _, rfl, _⟩; rfl) | (rintro _ _ _ ⟨_, _, _, rfl, _⟩; rfl) | (rintro _ _ _ ⟨_, _, _, _, rfl, _⟩; rfl) | (rintro _ _ _ ⟨_, _, _, _, _, rfl, _⟩; rfl) | (rintro _ _ _ ⟨_, _, _, _, _, _, rfl, _⟩; rfl)) hw_is_fact
  have G_has_ring : FnG P w K mg base (L2.CX P w) 1 _ fd_has_ring ["weaker"] (lift K (He.ga K) [] sp_has_ring) := ok_has_ring F_has_ring B  (by first | (rintro _ _ _ ⟨_, rfl, _⟩; rfl) | (rintro _ _ _ ⟨_, _, rfl, _⟩; rfl) | (rintro _ _ _ ⟨_, _, _, rfl, _⟩; rfl) | (rintro _ _ _ ⟨_, _, _, _, rfl, _⟩; rfl) | (rintro _ _ _ ⟨_, _, _, _, _, rfl, _⟩; rfl) | (rintro _ _ _ ⟨_, _, _, _, _, _, rfl, _⟩; rfl)) hw_has_ring
  have G_all_facts : FnG P w K mg base (L2.CX P w) 1 _ fd_all_facts ["entries", "known"] (lift K (He.ga K) [] sp_all_facts) := ok_all_facts F_all_facts B  (by first | (rintro _ _ _ ⟨_, rfl, _⟩; rfl) | (rintro _ _ _ ⟨_, _, rfl, _⟩; rfl) | (rintro _ _ _ ⟨_, _, _, rfl, _⟩; rfl) | (rintro _ _ _ ⟨_, _, _, _, rfl, _⟩; rfl) | (rintro _ _ _ ⟨_, _, _, _, _, rfl, _⟩; rfl) | (rintro _ _ _ ⟨_, _, _, _, _, _, rfl, _⟩; rfl)) hw_all_facts
  have h_check_known_g_MOST_KNOWN : ∃ t, mg "MOST_KNOWN" = some (.int 12 t) := He.int_ok X G (c.fact 37 rfl)
  have h_check_known_c_is_fact : Cal P w K (He.ga K) mg base 1 "is_fact" [] sp_is_fact := ⟨_, fd_is_fact, ["value", "entries"], G_is_fact, He.glo_ok X G (c.fact 38 rfl), F_is_fact.kp, (F_is_fact.bindsN fun _ _ _ _ _ _ us hl => match us, hl with | [_, _], _ => rfl)⟩
  have h_check_known_c_has_ring : Cal P w K (He.ga K) mg base 1 "has_ring" [] sp_has_ring := ⟨_, fd_has_ring, ["weaker"], G_has_ring, He.glo_ok X G (c.fact 39 rfl), F_has_ring.kp, (F_has_ring.bindsN fun _ _ _ _ _ _ us hl => match us, hl with | [_], _ => rfl)⟩
  have h_check_known_c_all_facts : Cal P w K (He.ga K) mg base 1 "all_facts" [] sp_all_facts := ⟨_, fd_all_facts, ["entries", "known"], G_all_facts, He.glo_ok X G (c.fact 40 rfl), F_all_facts.kp, (F_all_facts.bindsN fun _ _ _ _ _ _ us hl => match us, hl with | [_, _], _ => rfl)⟩
  have G_check_known : FnG P w K mg base (L2.CX P w) 3 _ fd_check_known ["entries", "value"] (lift K (He.ga K) [] sp_check_known) := ok_check_known sp_is_fact sp_has_ring sp_all_facts F_check_known B h_check_known_g_MOST_KNOWN h_check_known_c_is_fact h_check_known_c_has_ring h_check_known_c_all_facts (by first | (rintro _ _ _ ⟨_, rfl, _⟩; rfl) | (rintro _ _ _ ⟨_, _, rfl, _⟩; rfl) | (rintro _ _ _ ⟨_, _, _, rfl, _⟩; rfl) | (rintro _ _ _ ⟨_, _, _, _, rfl, _⟩; rfl) | (rintro _ _ _ ⟨_, _, _, _, _, rfl, _⟩; rfl) | (rintro _ _ _ ⟨_, _, _, _, _, _, rfl, _⟩; rfl)) hw_check_known
  have h_Plan__init__c_check_entries : Cal P w K (He.ga K) mg base 3 "check_entries" [] sp_check_entries := ⟨_, fd_check_entries, ["value"], G_check_entries, He.glo_ok X G (c.fact 41 rfl), F_check_entries.kp, (F_check_entries.bindsN fun _ _ _ _ _ _ us hl => match us, hl with | [_], _ => rfl)⟩
  have h_Plan__init__cl_Plan : Cls K (He.ga K "Plan") := He.cls_ok (c.fact 42 rfl)
  have h_Plan__init__na_Plan_ends : NoAttr K (He.ga K "Plan") "ends" := He.noat_ok (c.fact 43 rfl)
  have h_Plan__init__na_Plan_sites : NoAttr K (He.ga K "Plan") "sites" := He.noat_ok (c.fact 44 rfl)
  have h_Plan__init__c_check_matches : Cal P w K (He.ga K) mg base 3 "check_matches" [] sp_check_matches := ⟨_, fd_check_matches, ["entries", "value"], G_check_matches, He.glo_ok X G (c.fact 45 rfl), F_check_matches.kp, (F_check_matches.bindsN fun _ _ _ _ _ _ us hl => match us, hl with | [_, _], _ => rfl)⟩
  have h_Plan__init__na_Plan_end_places : NoAttr K (He.ga K "Plan") "end_places" := He.noat_ok (c.fact 46 rfl)
  have h_Plan__init__c_check_places : Cal P w K (He.ga K) mg base 3 "check_places" [] sp_check_places := ⟨_, fd_check_places, ["ends", "value"], G_check_places, He.glo_ok X G (c.fact 47 rfl), F_check_places.kp, (F_check_places.bindsN fun _ _ _ _ _ _ us hl => match us, hl with | [_, _], _ => rfl)⟩
  have h_Plan__init__c_check_known : Cal P w K (He.ga K) mg base 3 "check_known" [] sp_check_known := ⟨_, fd_check_known, ["entries", "value"], G_check_known, He.glo_ok X G (c.fact 48 rfl), F_check_known.kp, (F_check_known.bindsN fun _ _ _ _ _ _ us hl => match us, hl with | [_, _], _ => rfl)⟩
  have h_Plan__init__na_Plan_weaker : NoAttr K (He.ga K "Plan") "weaker" := He.noat_ok (c.fact 49 rfl)
  have h_Plan__init__c_all_facts : Cal P w K (He.ga K) mg base 1 "all_facts" [] sp_all_facts := ⟨_, fd_all_facts, ["entries", "known"], G_all_facts, He.glo_ok X G (c.fact 40 rfl), F_all_facts.kp, (F_all_facts.bindsN fun _ _ _ _ _ _ us hl => match us, hl with | [_, _], _ => rfl)⟩
  have h_Plan__init__na_Plan_held_entries : NoAttr K (He.ga K "Plan") "held_entries" := He.noat_ok (c.fact 50 rfl)
  have h_Plan__init__na_Plan_held_matches : NoAttr K (He.ga K "Plan") "held_matches" := He.noat_ok (c.fact 51 rfl)
  have h_Plan__init__na_Plan_held_places : NoAttr K (He.ga K "Plan") "held_places" := He.noat_ok (c.fact 52 rfl)
  have h_Plan__init__na_Plan_held_known : NoAttr K (He.ga K "Plan") "held_known" := He.noat_ok (c.fact 53 rfl)
  have G_Plan__init_ : FnG P w K mg base (L2.CX P w) 4 _ fd_Plan__init_ ["self", "entries", "matches", "places", "known"] (lift K (He.ga K) [0] sp_Plan__init_) := ok_Plan__init_ sp_check_entries sp_check_matches sp_check_places sp_check_known sp_all_facts F_Plan__init_ B h_Plan__init__c_check_entries h_Plan__init__cl_Plan h_Plan__init__na_Plan_ends h_Plan__init__na_Plan_sites h_Plan__init__c_check_matches h_Plan__init__na_Plan_end_places h_Plan__init__c_check_places h_Plan__init__c_check_known h_Plan__init__na_Plan_weaker h_Plan__init__c_all_facts h_Plan__init__na_Plan_held_entries h_Plan__init__na_Plan_held_matches h_Plan__init__na_Plan_held_places h_Plan__init__na_Plan_held_known (by first | (rintro _ _ _ ⟨_, rfl, _⟩; rfl) | (rintro _ _ _ ⟨_, _, rfl, _⟩; rfl) | (rintro _ _ _ ⟨_, _, _, rfl, _⟩; rfl) | (rintro _ _ _ ⟨_, _, _, _, rfl, _⟩; rfl) | (rintro _ _ _ ⟨_, _, _, _, _, rfl, _⟩; rfl) | (rintro _ _ _ ⟨_, _, _, _, _, _, rfl, _⟩; rfl)) hw_Plan__init_
  have h_Plan_known_cl_Plan : Cls K (He.ga K "Plan") := He.cls_ok (c.fact 42 rfl)
  have h_Plan_known_na_Plan_held_known : NoAttr K (He.ga K "Plan") "held_known" := He.noat_ok (c.fact 53 rfl)
  have G_Plan_known : FnG P w K mg base (L2.CX P w) 1 _ fd_Plan_known ["self"] (lift K (He.ga K) [] sp_Plan_known) := ok_Plan_known F_Plan_known B h_Plan_known_cl_Plan h_Plan_known_na_Plan_held_known (by first | (rintro _ _ _ ⟨_, rfl, _⟩; rfl) | (rintro _ _ _ ⟨_, _, rfl, _⟩; rfl) | (rintro _ _ _ ⟨_, _, _, rfl, _⟩; rfl) | (rintro _ _ _ ⟨_, _, _, _, rfl, _⟩; rfl) | (rintro _ _ _ ⟨_, _, _, _, _, rfl, _⟩; rfl) | (rintro _ _ _ ⟨_, _, _, _, _, _, rfl, _⟩; rfl)) hw_Plan_known
  have h_Plan_places_cl_Plan : Cls K (He.ga K "Plan") := He.cls_ok (c.fact 42 rfl)
  have h_Plan_places_na_Plan_held_places : NoAttr K (He.ga K "Plan") "held_places" := He.noat_ok (c.fact 52 rfl)
  have G_Plan_places : FnG P w K mg base (L2.CX P w) 1 _ fd_Plan_places ["self"] (lift K (He.ga K) [] sp_Plan_places) := ok_Plan_places F_Plan_places B h_Plan_places_cl_Plan h_Plan_places_na_Plan_held_places (by first | (rintro _ _ _ ⟨_, rfl, _⟩; rfl) | (rintro _ _ _ ⟨_, _, rfl, _⟩; rfl) | (rintro _ _ _ ⟨_, _, _, rfl, _⟩; rfl) | (rintro _ _ _ ⟨_, _, _, _, rfl, _⟩; rfl) | (rintro _ _ _ ⟨_, _, _, _, _, rfl, _⟩; rfl) | (rintro _ _ _ ⟨_, _, _, _, _, _, rfl, _⟩; rfl)) hw_Plan_places
  have h_Plan_matches_cl_Plan : Cls K (He.ga K "Plan") := He.cls_ok (c.fact 42 rfl)
  have h_Plan_matches_na_Plan_held_matches : NoAttr K (He.ga K "Plan") "held_matches" := He.noat_ok (c.fact 51 rfl)
  have G_Plan_matches : FnG P w K mg base (L2.CX P w) 1 _ fd_Plan_matches ["self"] (lift K (He.ga K) [] sp_Plan_matches) := ok_Plan_matches F_Plan_matches B h_Plan_matches_cl_Plan h_Plan_matches_na_Plan_held_matches (by first | (rintro _ _ _ ⟨_, rfl, _⟩; rfl) | (rintro _ _ _ ⟨_, _, rfl, _⟩; rfl) | (rintro _ _ _ ⟨_, _, _, rfl, _⟩; rfl) | (rintro _ _ _ ⟨_, _, _, _, rfl, _⟩; rfl) | (rintro _ _ _ ⟨_, _, _, _, _, rfl, _⟩; rfl) | (rintro _ _ _ ⟨_, _, _, _, _, _, rfl, _⟩; rfl)) hw_Plan_matches
  have h_Plan_entries_cl_Plan : Cls K (He.ga K "Plan") := He.cls_ok (c.fact 42 rfl)
  have h_Plan_entries_na_Plan_held_entries : NoAttr K (He.ga K "Plan") "held_entries" := He.noat_ok (c.fact 50 rfl)
  have G_Plan_entries : FnG P w K mg base (L2.CX P w) 1 _ fd_Plan_entries ["self"] (lift K (He.ga K) [] sp_Plan_entries) := ok_Plan_entries F_Plan_entries B h_Plan_entries_cl_Plan h_Plan_entries_na_Plan_held_entries (by first | (rintro _ _ _ ⟨_, rfl, _⟩; rfl) | (rintro _ _ _ ⟨_, _, rfl, _⟩; rfl) | (rintro _ _ _ ⟨_, _, _, rfl, _⟩; rfl) | (rintro _ _ _ ⟨_, _, _, _, rfl, _⟩; rfl) | (rintro _ _ _ ⟨_, _, _, _, _, rfl, _⟩; rfl) | (rintro _ _ _ ⟨_, _, _, _, _, _, rfl, _⟩; rfl)) hw_Plan_entries
  have h_Plan__len__cl_Plan : Cls K (He.ga K "Plan") := He.cls_ok (c.fact 42 rfl)
  have h_Plan__len__na_Plan_held_matches : NoAttr K (He.ga K "Plan") "held_matches" := He.noat_ok (c.fact 51 rfl)
  have G_Plan__len_ : FnG P w K mg base (L2.CX P w) 1 _ fd_Plan__len_ ["self"] (lift K (He.ga K) [] sp_Plan__len_) := ok_Plan__len_ F_Plan__len_ B h_Plan__len__cl_Plan h_Plan__len__na_Plan_held_matches (by first | (rintro _ _ _ ⟨_, rfl, _⟩; rfl) | (rintro _ _ _ ⟨_, _, rfl, _⟩; rfl) | (rintro _ _ _ ⟨_, _, _, rfl, _⟩; rfl) | (rintro _ _ _ ⟨_, _, _, _, rfl, _⟩; rfl) | (rintro _ _ _ ⟨_, _, _, _, _, rfl, _⟩; rfl) | (rintro _ _ _ ⟨_, _, _, _, _, _, rfl, _⟩; rfl)) hw_Plan__len_
  have G_Plan__bool_ : FnG P w K mg base (L2.CX P w) 1 _ fd_Plan__bool_ ["self"] (lift K (He.ga K) [] sp_Plan__bool_) := ok_Plan__bool_ F_Plan__bool_ B  (by first | (rintro _ _ _ ⟨_, rfl, _⟩; rfl) | (rintro _ _ _ ⟨_, _, rfl, _⟩; rfl) | (rintro _ _ _ ⟨_, _, _, rfl, _⟩; rfl) | (rintro _ _ _ ⟨_, _, _, _, rfl, _⟩; rfl) | (rintro _ _ _ ⟨_, _, _, _, _, rfl, _⟩; rfl) | (rintro _ _ _ ⟨_, _, _, _, _, _, rfl, _⟩; rfl)) hw_Plan__bool_
  have h_Plan__str__cl_Plan : Cls K (He.ga K "Plan") := He.cls_ok (c.fact 42 rfl)
  have h_Plan__str__na_Plan_held_matches : NoAttr K (He.ga K "Plan") "held_matches" := He.noat_ok (c.fact 51 rfl)
  have h_Plan__str__na_Plan_held_entries : NoAttr K (He.ga K "Plan") "held_entries" := He.noat_ok (c.fact 50 rfl)
  have h_Plan__str__na_Plan_held_places : NoAttr K (He.ga K "Plan") "held_places" := He.noat_ok (c.fact 52 rfl)
  have h_Plan__str__na_Plan_held_known : NoAttr K (He.ga K "Plan") "held_known" := He.noat_ok (c.fact 53 rfl)
  have G_Plan__str_ : FnG P w K mg base (L2.CX P w) 1 _ fd_Plan__str_ ["self"] (lift K (He.ga K) [] sp_Plan__str_) := ok_Plan__str_ F_Plan__str_ B h_Plan__str__cl_Plan h_Plan__str__na_Plan_held_matches h_Plan__str__na_Plan_held_entries h_Plan__str__na_Plan_held_places h_Plan__str__na_Plan_held_known (by first | (rintro _ _ _ ⟨_, rfl, _⟩; rfl) | (rintro _ _ _ ⟨_, _, rfl, _⟩; rfl) | (rintro _ _ _ ⟨_, _, _, rfl, _⟩; rfl) | (rintro _ _ _ ⟨_, _, _, _, rfl, _⟩; rfl) | (rintro _ _ _ ⟨_, _, _, _, _, rfl, _⟩; rfl) | (rintro _ _ _ ⟨_, _, _, _, _, _, rfl, _⟩; rfl)) hw_Plan__str_
  have G__law_text : FnG P w K mg base (L2.CX P w) 1 _ fd__law_text ["_law_parts"] (lift K (He.ga K) [] sp__law_text) := ok__law_text F__law_text B  (by first | (rintro _ _ _ ⟨_, rfl, _⟩; rfl) | (rintro _ _ _ ⟨_, _, rfl, _⟩; rfl) | (rintro _ _ _ ⟨_, _, _, rfl, _⟩; rfl) | (rintro _ _ _ ⟨_, _, _, _, rfl, _⟩; rfl) | (rintro _ _ _ ⟨_, _, _, _, _, rfl, _⟩; rfl) | (rintro _ _ _ ⟨_, _, _, _, _, _, rfl, _⟩; rfl)) hw__law_text
  have h_Plan__getitem__cl_Plan : Cls K (He.ga K "Plan") := He.cls_ok (c.fact 42 rfl)
  have h_Plan__getitem__na_Plan_held_matches : NoAttr K (He.ga K "Plan") "held_matches" := He.noat_ok (c.fact 51 rfl)
  have G_Plan__getitem_ : FnG P w K mg base (L2.CX P w) 3 _ fd_Plan__getitem_ ["self", "name"] (lift K (He.ga K) [] sp_Plan__getitem_) := ok_Plan__getitem_ F_Plan__getitem_ B h_Plan__getitem__cl_Plan h_Plan__getitem__na_Plan_held_matches (by first | (rintro _ _ _ ⟨_, rfl, _⟩; rfl) | (rintro _ _ _ ⟨_, _, rfl, _⟩; rfl) | (rintro _ _ _ ⟨_, _, _, rfl, _⟩; rfl) | (rintro _ _ _ ⟨_, _, _, _, rfl, _⟩; rfl) | (rintro _ _ _ ⟨_, _, _, _, _, rfl, _⟩; rfl) | (rintro _ _ _ ⟨_, _, _, _, _, _, rfl, _⟩; rfl)) hw_Plan__getitem_
  have h__law_shows_p_Plan_known : Prp P w K (He.ga K) mg base 1 "Plan" "known" sp_Plan_known := ⟨⟨_, _, fd_Plan_known, ["self"], G_Plan_known, He6.propB_ok (c.more 0 rfl), (F_Plan_known.bindsN fun _ _ _ _ _ _ us hl => match us, hl with | [_], _ => rfl)⟩, He.cls_ok (c.fact 42 rfl)⟩
  have h__law_shows_p_Plan_places : Prp P w K (He.ga K) mg base 1 "Plan" "places" sp_Plan_places := ⟨⟨_, _, fd_Plan_places, ["self"], G_Plan_places, He6.propB_ok (c.more 1 rfl), (F_Plan_places.bindsN fun _ _ _ _ _ _ us hl => match us, hl with | [_], _ => rfl)⟩, He.cls_ok (c.fact 42 rfl)⟩
  have h__law_shows_p_Plan_matches : Prp P w K (He.ga K) mg base 1 "Plan" "matches" sp_Plan_matches := ⟨⟨_, _, fd_Plan_matches, ["self"], G_Plan_matches, He6.propB_ok (c.more 2 rfl), (F_Plan_matches.bindsN fun _ _ _ _ _ _ us hl => match us, hl with | [_], _ => rfl)⟩, He.cls_ok (c.fact 42 rfl)⟩
  have h__law_shows_p_Plan_entries : Prp P w K (He.ga K) mg base 1 "Plan" "entries" sp_Plan_entries := ⟨⟨_, _, fd_Plan_entries, ["self"], G_Plan_entries, He6.propB_ok (c.more 3 rfl), (F_Plan_entries.bindsN fun _ _ _ _ _ _ us hl => match us, hl with | [_], _ => rfl)⟩, He.cls_ok (c.fact 42 rfl)⟩
  have h__law_shows_m_Plan__len_ : Met P w K (He.ga K) mg base 1 "Plan" "__len__" [] sp_Plan__len_ := ⟨⟨_, fd_Plan__len_, ["self"], G_Plan__len_, He.meth_ok (c.fact 54 rfl), (F_Plan__len_.bindsN fun _ _ _ _ _ _ us hl => match us, hl with | [_], _ => rfl), c.more 4 rfl⟩, He.cls_ok (c.fact 42 rfl)⟩
  have h__law_shows_m_Plan__bool_ : Met P w K (He.ga K) mg base 1 "Plan" "__bool__" [] sp_Plan__bool_ := ⟨⟨_, fd_Plan__bool_, ["self"], G_Plan__bool_, He.meth_ok (c.fact 55 rfl), (F_Plan__bool_.bindsN fun _ _ _ _ _ _ us hl => match us, hl with | [_], _ => rfl), c.more 5 rfl⟩, He.cls_ok (c.fact 42 rfl)⟩
  have h__law_shows_m_Plan__str_ : Met P w K (He.ga K) mg base 1 "Plan" "__str__" [] sp_Plan__str_ := ⟨⟨_, fd_Plan__str_, ["self"], G_Plan__str_, He.meth_ok (c.fact 56 rfl), (F_Plan__str_.bindsN fun _ _ _ _ _ _ us hl => match us, hl with | [_], _ => rfl), c.more 6 rfl⟩, He.cls_ok (c.fact 42 rfl)⟩
  have h__law_shows_c__law_text : Cal P w K (He.ga K) mg base 1 "_law_text" [] sp__law_text := ⟨_, fd__law_text, ["_law_parts"], G__law_text, He.glo_ok X G (c.fact 57 rfl), F__law_text.kp, (F__law_text.bindsN fun _ _ _ _ _ _ us hl => match us, hl with | [_], _ => rfl)⟩
  have h__law_shows_m_Plan__getitem_ : Met P w K (He.ga K) mg base 3 "Plan" "__getitem__" [] sp_Plan__getitem_ := ⟨⟨_, fd_Plan__getitem_, ["self", "name"], G_Plan__getitem_, He.meth_ok (c.fact 58 rfl), (F_Plan__getitem_.bindsN fun _ _ _ _ _ _ us hl => match us, hl with | [_, _], _ => rfl), c.more 7 rfl⟩, He.cls_ok (c.fact 42 rfl)⟩
  have G__law_shows : FnG P w K mg base (L2.CX P w) 5 _ fd__law_shows ["_law_box", "_law_parts"] (lift K (He.ga K) [] sp__law_shows) := ok__law_shows sp_Plan_known sp_Plan_places sp_Plan_matches sp_Plan_entries sp_Plan__len_ sp_Plan__bool_ sp_Plan__str_ sp__law_text sp_Plan__getitem_ F__law_shows B h__law_shows_p_Plan_known h__law_shows_p_Plan_places h__law_shows_p_Plan_matches h__law_shows_p_Plan_entries h__law_shows_m_Plan__len_ h__law_shows_m_Plan__bool_ h__law_shows_m_Plan__str_ h__law_shows_c__law_text h__law_shows_m_Plan__getitem_ (by first | (rintro _ _ _ ⟨_, rfl, _⟩; rfl) | (rintro _ _ _ ⟨_, _, rfl, _⟩; rfl) | (rintro _ _ _ ⟨_, _, _, rfl, _⟩; rfl) | (rintro _ _ _ ⟨_, _, _, _, rfl, _⟩; rfl) | (rintro _ _ _ ⟨_, _, _, _, _, rfl, _⟩; rfl) | (rintro _ _ _ ⟨_, _, _, _, _, _, rfl, _⟩; rfl)) hw__law_shows
  have h__law_right_c__law_drawn : Cal P w K (He.ga K) mg base 4 "_law_drawn" [0] sp__law_drawn := ⟨_, fd__law_drawn, ["_law_pot_here", "_law_way"], G__law_drawn, He.glo_ok X G (c.fact 59 rfl), F__law_drawn.kp, (F__law_drawn.bindsN fun _ _ _ _ _ _ us hl => match us, hl with | [_, _], _ => rfl)⟩
  have h__law_right_mk_Plan_4 : KMak P w K (He.ga K) mg base 4 "Plan" 4 [] [0, 1, 2, 3] [] sp_Plan__init_ := by
    obtain ⟨its, hK⟩ := F_Plan__init_.kbindsD (ps := ["self", "entries", "matches", "places", "known"]) 5 [] (gMk [0, 1, 2, 3] false) (by simp [He5.DefA.dvs, dA_Plan__init_]) gMk_rel (fun T kV doc pm an cdv ct us its ws h1 h2 h3 => match us, its, ws, h1, h2, h3 with | [_, _, _, _, _], [_], [], _, _, _ => ⟨_, rfl, rfl⟩)
    exact ⟨_, fd_Plan__init_, ["self", "entries", "matches", "places", "known"], _, _, G_Plan__init_, He.mkr_ok (c.fact 60 rfl), hK, (fun _ _ => .nil), He.glo_ok X G (c.fact 61 rfl)⟩
  have h__law_right_mk_Plan_0_known_places_matches_entries : KMak P w K (He.ga K) mg base 4 "Plan" 0 ["known", "places", "matches", "entries"] [3, 2, 1, 0] [] sp_Plan__init_ := by
    obtain ⟨its, hK⟩ := F_Plan__init_.kbindsD (ps := ["self", "entries", "matches", "places", "known"]) 1 ["known", "places", "matches", "entries"] (gMk [3, 2, 1, 0] false) (by simp [He5.DefA.dvs, dA_Plan__init_]) gMk_rel (fun T kV doc pm an cdv ct us its ws h1 h2 h3 => match us, its, ws, h1, h2, h3 with | [_], [_], [_, _, _, _], _, _, _ => ⟨_, rfl, rfl⟩)
    exact ⟨_, fd_Plan__init_, ["self", "entries", "matches", "places", "known"], _, _, G_Plan__init_, He.mkr_ok (c.fact 60 rfl), hK, (fun _ _ => .nil), He.glo_ok X G (c.fact 61 rfl)⟩
  have h__law_right_mk_Plan_3 : KMak P w K (He.ga K) mg base 4 "Plan" 3 [] [0, 1, 2, 3] [(.tup [])] sp_Plan__init_ := by
    obtain ⟨its, hK⟩ := F_Plan__init_.kbindsD (ps := ["self", "entries", "matches", "places", "known"]) 4 [] (gMk [0, 1, 2, 3] true) (by simp [He5.DefA.dvs, dA_Plan__init_]) gMk_rel (fun T kV doc pm an cdv ct us its ws h1 h2 h3 => match us, its, ws, h1, h2, h3 with | [_, _, _, _], [_], [], _, _, _ => ⟨_, rfl, rfl⟩)
    exact ⟨_, fd_Plan__init_, ["self", "entries", "matches", "places", "known"], _, _, G_Plan__init_, He.mkr_ok (c.fact 60 rfl), hK, (fun _ _ => .cons (fp := []) (fq := []) (.tup (He6.nilB_ok (c.more 8 rfl) _) .nil) .nil), He.glo_ok X G (c.fact 61 rfl)⟩
  have h__law_right_c__law_facts : Cal P w K (He.ga K) mg base 3 "_law_facts" [0] sp__law_facts := ⟨_, fd__law_facts, ["_law_pot_here", "_law_folk", "_law_many"], G__law_facts, He.glo_ok X G (c.fact 29 rfl), F__law_facts.kp, (F__law_facts.bindsN fun _ _ _ _ _ _ us hl => match us, hl with | [_, _, _], _ => rfl)⟩
  have h__law_right_c__law_shows : Cal P w K (He.ga K) mg base 5 "_law_shows" [] sp__law_shows := ⟨_, fd__law_shows, ["_law_box", "_law_parts"], G__law_shows, He.glo_ok X G (c.fact 62 rfl), F__law_shows.kp, (F__law_shows.bindsN fun _ _ _ _ _ _ us hl => match us, hl with | [_, _], _ => rfl)⟩
  have G__law_right : FnG P w K mg base (L2.CX P w) 6 _ fd__law_right ["_law_pot_here", "_law_way"] (lift K (He.ga K) [0] sp__law_right) := ok__law_right sp__law_drawn sp_Plan__init_ sp__law_facts sp__law_shows F__law_right B h__law_right_c__law_drawn h__law_right_mk_Plan_4 h__law_right_mk_Plan_0_known_places_matches_entries h__law_right_mk_Plan_3 h__law_right_c__law_facts h__law_right_c__law_shows (by first | (rintro _ _ _ ⟨_, rfl, _⟩; rfl) | (rintro _ _ _ ⟨_, _, rfl, _⟩; rfl) | (rintro _ _ _ ⟨_, _, _, rfl, _⟩; rfl) | (rintro _ _ _ ⟨_, _, _, _, rfl, _⟩; rfl) | (rintro _ _ _ ⟨_, _, _, _, _, rfl, _⟩; rfl) | (rintro _ _ _ ⟨_, _, _, _, _, _, rfl, _⟩; rfl)) hw__law_right
  have h_law_c__law_pot : Cal P w K (He.ga K) mg base 1 "_law_pot" [] sp__law_pot := ⟨_, fd__law_pot, ["_law_cell_here"], G__law_pot, He.glo_ok X G (c.fact 63 rfl), F__law_pot.kp, (F__law_pot.bindsN fun _ _ _ _ _ _ us hl => match us, hl with | [_], _ => rfl)⟩
  have h_law_c__law_cell : Cal P w K (He.ga K) mg base 1 "_law_cell" [] sp__law_cell := ⟨_, fd__law_cell, ["_law_cells", "_law_k"], G__law_cell, He.glo_ok X G (c.fact 64 rfl), F__law_cell.kp, (F__law_cell.bindsN fun _ _ _ _ _ _ us hl => match us, hl with | [_, _], _ => rfl)⟩
  have h_law_c__law_right : Cal P w K (He.ga K) mg base 6 "_law_right" [0] sp__law_right := ⟨_, fd__law_right, ["_law_pot_here", "_law_way"], G__law_right, He.glo_ok X G (c.fact 65 rfl), F__law_right.kp, (F__law_right.bindsN fun _ _ _ _ _ _ us hl => match us, hl with | [_, _], _ => rfl)⟩
  have h_law_c__law_draw : Cal P w K (He.ga K) mg base 1 "_law_draw" [0] sp__law_draw := ⟨_, fd__law_draw, ["_law_pot_here", "_law_many"], G__law_draw, He.glo_ok X G (c.fact 23 rfl), F__law_draw.kp, (F__law_draw.bindsN fun _ _ _ _ _ _ us hl => match us, hl with | [_, _], _ => rfl)⟩
  have G_law : FnG P w K mg base (L2.CX P w) 7 _ fd_law ["_law_cells"] (lift K (He.ga K) [] sp_law) := ok_law sp__law_pot sp__law_cell sp__law_right sp__law_draw F_law B h_law_c__law_pot h_law_c__law_cell h_law_c__law_right h_law_c__law_draw (by first | (rintro _ _ _ ⟨_, rfl, _⟩; rfl) | (rintro _ _ _ ⟨_, _, rfl, _⟩; rfl) | (rintro _ _ _ ⟨_, _, _, rfl, _⟩; rfl) | (rintro _ _ _ ⟨_, _, _, _, rfl, _⟩; rfl) | (rintro _ _ _ ⟨_, _, _, _, _, rfl, _⟩; rfl) | (rintro _ _ _ ⟨_, _, _, _, _, _, rfl, _⟩; rfl)) hw_law
  exact G_law
end L
open PySem PySem.W PySem.Calls PyProof.Rows
theorem PySem.Challenge.cw_matchplans_k02_plans_made_holds : PySem.Challenge.rw_matchplans_k02_plans_made.Holds := by
  w_on; o_law
  refine HandSHeadRun.head_any (r := OpenLaw.row PySem.Challenge.rw_matchplans_k02_plans_made) (q := view (OpenLaw.row PySem.Challenge.rw_matchplans_k02_plans_made).prog [44]) (H := L.hk) (ob := L.ob) (M := 20000) (loose := L.looseL) (d := HandSHeadRun.topDef (OpenLaw.row PySem.Challenge.rw_matchplans_k02_plans_made).prog 44) (kwd := []) L.ob_eq
    (by kernel_rfl) (fun s => by kernel_rfl) L.run (by kernel_rfl) (by kernel_rfl) (by kernel_rfl) (by rfl) (by first | assumption | decide +kernel) (by decide +kernel) ⟨rfl, rfl, rfl, rfl, rfl, by decide +kernel⟩ ?hw ?hc
  case hw => w_witness2
  case hc =>
    refine M.walk_ofG (l := PySem.Challenge.rw_matchplans_k02_plans_made) (n := 63) (k := 7) (x := "_law_cells") rfl (by decide) (by kernel_rfl) ⟨rfl, by decide, by decide⟩ ?F
    intro w mg fa h Y G hmg0
    obtain ⟨K, KX, c⟩ := Y
    have hmg : mg ("law" : PySem.Str) = some (.ref fa) := by
      have e : (HandSHeadRun.topDef (OpenLaw.row PySem.Challenge.rw_matchplans_k02_plans_made).prog 44).name = ("law" : PySem.Str) := by kernel_rfl
      rw [← e]
      exact hmg0
    obtain ⟨fd, hb, hl, hG⟩ := L.facts (P := (PySem.Challenge.rw_matchplans_k02_plans_made).prog) (w := w) KX G c
    have e := hmg.symm.trans hl
    cases e
    exact ⟨K, fd, M.lift K (He.ga K) [] L.sp_law, KX, hb, fun H a ns hn hS => M.law_end hS ⟨ns, rfl, rfl⟩, fun base _ _ => hG base⟩
