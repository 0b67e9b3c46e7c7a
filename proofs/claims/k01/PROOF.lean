import PyProof.Rows.All
import Wide.All
import OpenK.AllK
import Wide.FinOn
import HandS.ForMost
import HandS.Exc
import HandS.WordsExc
import HandS.Lambda
import HandS.Deep
import HandS.More
import HandS.Flow
import HandS.Defaults
import HandS.CallSlots
import HandS.TupAny
import HandS.IsInst
import HandS.Zip
import HandS.Small
import HandS.WordsDict
import HandS.ExcInit
import HandS.ExcField
import HandS.Style
import PyProof.ListStr
import PyProof.StrOps2
import HandS.StrMore
import HandS.Nested
import HandS.HeadHook4
import HandS.ListItems
import HandS.HeadWalk
import PySem.Challenge.RW_onethread_k01_whole_marks
import KE.KStateDown
import HandS.Head0
import HandS.Head1
import HandS.Head2
import HandS.HeadEnd
import KE.KIntText
import PyProof.Rows.RegReprOcc
import PyProof.StrLawsLast
set_option Elab.async false
set_option linter.all false
set_option maxRecDepth 100000
set_option maxHeartbeats 2000000
/-! BV1: data by value over the hand layer: what a value is worth, what it owns. -/
namespace BV
open PySem PySem.Spec PyProof.Rows L2

/-- what may be done with a value: read (shr), its own top changed (top), everything in it changed (all) -/
inductive Mode where
  | shr | top | all
  deriving DecidableEq, Inhabited
def Mode.pred : Mode → Mode
  | .all => .all
  | _ => .shr
def Mode.succ : Mode → Mode
  | .all => .all
  | _ => .top
def Mode.min : Mode → Mode → Mode
  | .shr, _ => .shr
  | _, .shr => .shr
  | .top, _ => .top
  | _, .top => .top
  | .all, .all => .all

inductive D where
  | non | bl (b : Bool) | int (i : Int) | str (x : Str) | ty (n : String) | glo (x : Str)
  | tup (xs : List D) | lst (xs : List D) | dic (t : Bool) (kvs : List (D × D)) | pin
  | ins (c : Str) (fs : List (Str × Mode × D))
  | clo (k : Nat) (ds : List D)
  | scr (ns : List Int)
  deriving Inhabited

/-- the world of a program: its written part, its module's names, what a closure is, the tables of code objects -/
structure Wd where
  K : PySem.W.Frag
  mg : Str → Option Value
  cl : Nat → Addr → List V → Hp → Prop
  T : List (Addr × Str)
  pin : Option Addr
  lm : Nat → List Nat → Addr → Hp → Prop
  lmS : ∀ k is f H H', lm k is f H → (∀ a φ, H a = some (.ext φ) → H' a = some (.ext φ)) → lm k is f H'
  clS : ∀ k f ws H H', cl k f ws H → (∀ a φ, H a = some (.ext φ) → H' a = some (.ext φ)) → cl k f ws H'

/-- the law's script, which nobody writes -/
def ScrAt (W : Wd) (H : Hp) (a : Addr) (ns : List Int) : Prop := (∃ o, H a = some (.frz o (.lst (ns.map V.int)))) ∨ (∀ H', SqL W.K H' a (ns.map V.int))
/-- a dict's key as data -/
def kD : Key → D
  | .inl i => .int i
  | .inr x => .str x
def kDs (ks : List Key) : D := .tup (ks.map kD)

mutual
/-- the value v is worth d; F: the changeable objects that it owns; P: where the shared ones may stand -/
inductive Own (W : Wd) (H : Hp) (P : Addr → Prop) : Mode → V → D → List Addr → Prop
  | non {m} : Own W H P m .non .non []
  | bl {m} (b : Bool) : Own W H P m (.bl b) (.bl b) []
  | int {m} (i : Int) : Own W H P m (.int i) (.int i) []
  | str {m} (x : Str) : Own W H P m (.str x) (.str x) []
  | ty {m} (n : String) : Own W H P m (.ty n) (.ty n) []
  | glo {m} {x : Str} {f : Addr} : W.mg x = some (.ref f) → Own W H P m (.ref f) (.glo x) []
  | tup {m} {a : Addr} {vs : List V} {ds : List D} {F : List Addr} : H a = some (.tup vs) → Owns W H P m vs ds F → Own W H P m (.ref a) (.tup ds) F
  | lstS {a : Addr} {vs : List V} {ds : List D} {F : List Addr} : P a → H a = some (.lst vs) → Owns W H P .shr vs ds F → Own W H P .shr (.ref a) (.lst ds) F
  | lstO {m} {a : Addr} {vs : List V} {ds : List D} {F : List Addr} : m ≠ .shr → H a = some (.lst vs) → Owns W H P m.pred vs ds F → Own W H P m (.ref a) (.lst ds) (a :: F)
  | dKS {a : Addr} {kvs : List (Key × V)} {ds : List D} {F : List Addr} : P a → H a = some (.dK kvs) → Owns W H P .shr (kvs.map (·.2)) ds F → Own W H P .shr (.ref a) (.dic false ((kvs.map fun p => kD p.1).zip ds)) F
  | dKO {m} {a : Addr} {kvs : List (Key × V)} {ds : List D} {F : List Addr} : m ≠ .shr → (kvs.map (·.1)).Nodup → H a = some (.dK kvs) → Owns W H P m.pred (kvs.map (·.2)) ds F → Own W H P m (.ref a) (.dic false ((kvs.map fun p => kD p.1).zip ds)) (a :: F)
  | dTS {a : Addr} {kvs : List (List Key × V)} {ds : List D} {F : List Addr} : P a → H a = some (.dT kvs) → Owns W H P .shr (kvs.map (·.2)) ds F → Own W H P .shr (.ref a) (.dic true ((kvs.map fun p => kDs p.1).zip ds)) F
  | dTO {m} {a : Addr} {kvs : List (List Key × V)} {ds : List D} {F : List Addr} : m ≠ .shr → (kvs.map (·.1)).Nodup → H a = some (.dT kvs) → Owns W H P m.pred (kvs.map (·.2)) ds F → Own W H P m (.ref a) (.dic true ((kvs.map fun p => kDs p.1).zip ds)) (a :: F)
  | insS {a C dx : Addr} {c : Str} {fs : List (Str × V)} {fds : List (Str × Mode × D)} {F : List Addr} : P a → W.mg c = some (.ref C) → H a = some (.ins C dx fs) → OwnF W H P .shr fs fds F → Own W H P .shr (.ref a) (.ins c fds) F
  | insO {m} {a C dx : Addr} {c : Str} {fs : List (Str × V)} {fds : List (Str × Mode × D)} {F : List Addr} : m ≠ .shr → W.mg c = some (.ref C) → H a = some (.ins C dx fs) → OwnF W H P m fs fds F → Own W H P m (.ref a) (.ins c fds) (a :: F)
  | scr {m} {a : Addr} {ns : List Int} : ScrAt W H a ns → Own W H P m (.ref a) (.scr ns) []
  | pin {m} {a : Addr} {vs : List V} : P a → W.pin = some a → H a = some (.lst vs) → Own W H P m (.ref a) .pin []
  | clo {m} {k : Nat} {f : Addr} {ws : List V} {ds : List D} {F : List Addr} : W.cl k f ws H → Owns W H P .shr ws ds F → Own W H P m (.ref f) (.clo k ds) F
inductive Owns (W : Wd) (H : Hp) (P : Addr → Prop) : Mode → List V → List D → List Addr → Prop
  | nil {m} : Owns W H P m [] [] []
  | cons {m} {v : V} {vs : List V} {d : D} {ds : List D} {F G : List Addr} : Own W H P m v d F → Owns W H P m vs ds G → Owns W H P m (v :: vs) (d :: ds) (F ++ G)
/-- fields: shared in a shared instance; each by its own mode in an owned one, in a wholly owned one all wholly -/
inductive OwnF (W : Wd) (H : Hp) (P : Addr → Prop) : Mode → List (Str × V) → List (Str × Mode × D) → List Addr → Prop
  | nil {m} : OwnF W H P m [] [] []
  | consS {f : Str} {v : V} {fs : List (Str × V)} {k : Mode} {d : D} {fds : List (Str × Mode × D)} {F G : List Addr} : Own W H P .shr v d F → OwnF W H P .shr fs fds G → OwnF W H P .shr ((f, v) :: fs) ((f, k, d) :: fds) (F ++ G)
  | consT {f : Str} {v : V} {fs : List (Str × V)} {k : Mode} {d : D} {fds : List (Str × Mode × D)} {F G : List Addr} : Own W H P k v d F → OwnF W H P .top fs fds G → OwnF W H P .top ((f, v) :: fs) ((f, k, d) :: fds) (F ++ G)
  | consA {f : Str} {v : V} {fs : List (Str × V)} {d : D} {fds : List (Str × Mode × D)} {F G : List Addr} : Own W H P .all v d F → OwnF W H P .all fs fds G → OwnF W H P .all ((f, v) :: fs) ((f, .all, d) :: fds) (F ++ G)
end

section
variable {W : Wd} {H H' : Hp} {P P' : Addr → Prop}

/-! ### a shared value owns nothing -/
mutual
theorem Own.shr_nil' : ∀ {m v d F}, Own W H P m v d F → m = .shr → F = []
  | _, _, _, _, .non, _ => rfl
  | _, _, _, _, .bl _, _ => rfl
  | _, _, _, _, .int _, _ => rfl
  | _, _, _, _, .str _, _ => rfl
  | _, _, _, _, .ty _, _ => rfl
  | _, _, _, _, .glo _, _ => rfl
  | _, _, _, _, .tup _ h, e => Owns.shr_nil' h e
  | _, _, _, _, .lstS _ _ h, _ => Owns.shr_nil' h rfl
  | _, _, _, _, .lstO n _ _, e => absurd e n
  | _, _, _, _, .dKS _ _ h, _ => Owns.shr_nil' h rfl
  | _, _, _, _, .dKO n _ _ _, e => absurd e n
  | _, _, _, _, .dTS _ _ h, _ => Owns.shr_nil' h rfl
  | _, _, _, _, .dTO n _ _ _, e => absurd e n
  | _, _, _, _, .insS _ _ _ h, _ => OwnF.shr_nil' h rfl
  | _, _, _, _, .insO n _ _ _, e => absurd e n
  | _, _, _, _, .scr _, _ => rfl
  | _, _, _, _, .pin .., _ => rfl
  | _, _, _, _, .clo _ h, _ => Owns.shr_nil' h rfl
theorem Owns.shr_nil' : ∀ {m vs ds F}, Owns W H P m vs ds F → m = .shr → F = []
  | _, _, _, _, .nil, _ => rfl
  | _, _, _, _, .cons h t, e => by rw [Own.shr_nil' h e, Owns.shr_nil' t e]; rfl
theorem OwnF.shr_nil' : ∀ {m fs fds F}, OwnF W H P m fs fds F → m = .shr → F = []
  | _, _, _, _, .nil, _ => rfl
  | _, _, _, _, .consS h t, _ => by rw [Own.shr_nil' h rfl, OwnF.shr_nil' t rfl]; rfl
  | _, _, _, _, .consT _ _, e => nomatch e
  | _, _, _, _, .consA _ _, e => nomatch e
end
theorem Own.shr_nil {v d F} (h : Own W H P .shr v d F) : F = [] := h.shr_nil' rfl
theorem Owns.shr_nil {vs ds F} (h : Owns W H P .shr vs ds F) : F = [] := h.shr_nil' rfl

/-- objects that are never changed -/
def Fixed : HO → Prop
  | .tup _ => True
  | .frz _ _ => True
  | .ext _ => True
  | _ => False
def Tbl : HO → Prop
  | .tbl _ => True
  | _ => False
/-- from H to H' nothing but the objects at O has changed (tables grow) -/
structure Fr (W : Wd) (O : Addr → Prop) (H H' : Hp) : Prop where
  keep : ∀ a o, H a = some o → (¬ O a ∨ Fixed o) → ¬ Tbl o → H' a = some o
  tabs : LamX.Tabs W.T H → LamX.Tabs W.T H'
  there : ∀ a, H a ≠ none → H' a ≠ none
theorem Fr.refl {O : Addr → Prop} : Fr W O H H := ⟨fun _ _ h _ _ => h, id, fun _ h => h⟩
theorem Fr.rd {O : Addr → Prop} (f : Fr W O H H') {a : Addr} {u : HO} (hO : ¬ O a) (ht : ¬ Tbl u) (r : Rd H a u) : Rd H' a u := by
  rcases r with r | ⟨o, r⟩
  · exact .inl (f.keep a _ r (.inl hO) ht)
  · exact .inr ⟨o, f.keep a _ r (.inr trivial) (fun z => z)⟩
theorem Fr.sqt {O : Addr → Prop} {K : PySem.W.Frag} (f : Fr W O H H') {a : Addr} {vs : List V} (r : SqT K H a vs) : SqT K H' a vs := by
  rcases r with (r | ⟨o, r⟩) | r
  · exact .inl (.inl (f.keep a _ r (.inr trivial) (fun z => z)))
  · exact .inl (.inr ⟨o, f.keep a _ r (.inr trivial) (fun z => z)⟩)
  · exact .inr r
theorem Fr.ext {O : Addr → Prop} (f : Fr W O H H') : ∀ a φ, H a = some (.ext φ) → H' a = some (.ext φ) := fun a φ h => f.keep a _ h (.inr trivial) (fun z => z)

/-! ### what changes elsewhere does not matter -/
mutual
theorem Own.frame {O : Addr → Prop} (f : Fr W O H H') (hP : ∀ a, P a → ¬ O a) : ∀ {m v d F}, Own W H P m v d F → (∀ a ∈ F, ¬ O a) → Own W H' P m v d F
  | _, _, _, _, .non, _ => .non
  | _, _, _, _, .bl b, _ => .bl b
  | _, _, _, _, .int i, _ => .int i
  | _, _, _, _, .str x, _ => .str x
  | _, _, _, _, .ty n, _ => .ty n
  | _, _, _, _, .glo e, _ => .glo e
  | _, _, _, _, .tup e h, hF => .tup (f.keep _ _ e (.inr trivial) (fun z => z)) (Owns.frame f hP h hF)
  | _, _, _, _, .lstS p e h, hF => .lstS p (f.keep _ _ e (.inl (hP _ p)) (fun z => z)) (Owns.frame f hP h hF)
  | _, _, _, _, .lstO n e h, hF => .lstO n (f.keep _ _ e (.inl (hF _ (List.mem_cons_self ..))) (fun z => z)) (Owns.frame f hP h fun a ha => hF a (List.mem_cons_of_mem _ ha))
  | _, _, _, _, .dKS p e h, hF => .dKS p (f.keep _ _ e (.inl (hP _ p)) (fun z => z)) (Owns.frame f hP h hF)
  | _, _, _, _, .dKO n k e h, hF => .dKO n k (f.keep _ _ e (.inl (hF _ (List.mem_cons_self ..))) (fun z => z)) (Owns.frame f hP h fun a ha => hF a (List.mem_cons_of_mem _ ha))
  | _, _, _, _, .dTS p e h, hF => .dTS p (f.keep _ _ e (.inl (hP _ p)) (fun z => z)) (Owns.frame f hP h hF)
  | _, _, _, _, .dTO n k e h, hF => .dTO n k (f.keep _ _ e (.inl (hF _ (List.mem_cons_self ..))) (fun z => z)) (Owns.frame f hP h fun a ha => hF a (List.mem_cons_of_mem _ ha))
  | _, _, _, _, .insS p c e h, hF => .insS p c (f.keep _ _ e (.inl (hP _ p)) (fun z => z)) (OwnF.frame f hP h hF)
  | _, _, _, _, .insO n c e h, hF => .insO n c (f.keep _ _ e (.inl (hF _ (List.mem_cons_self ..))) (fun z => z)) (OwnF.frame f hP h fun a ha => hF a (List.mem_cons_of_mem _ ha))
  | _, _, _, _, .scr e, _ => .scr (e.elim (fun ⟨o, e⟩ => .inl ⟨o, f.keep _ _ e (.inr trivial) (fun z => z)⟩) .inr)
  | _, _, _, _, .pin p e h, _ => .pin p e (f.keep _ _ h (.inl (hP _ p)) (fun z => z))
  | _, _, _, _, .clo c h, hF => .clo (W.clS _ _ _ _ _ c f.ext) (Owns.frame f hP h hF)
theorem Owns.frame {O : Addr → Prop} (f : Fr W O H H') (hP : ∀ a, P a → ¬ O a) : ∀ {m vs ds F}, Owns W H P m vs ds F → (∀ a ∈ F, ¬ O a) → Owns W H' P m vs ds F
  | _, _, _, _, .nil, _ => .nil
  | _, _, _, _, .cons h t, hF => .cons (Own.frame f hP h fun a ha => hF a (List.mem_append_left _ ha)) (Owns.frame f hP t fun a ha => hF a (List.mem_append_right _ ha))
theorem OwnF.frame {O : Addr → Prop} (f : Fr W O H H') (hP : ∀ a, P a → ¬ O a) : ∀ {m fs fds F}, OwnF W H P m fs fds F → (∀ a ∈ F, ¬ O a) → OwnF W H' P m fs fds F
  | _, _, _, _, .nil, _ => .nil
  | _, _, _, _, .consS h t, hF => .consS (Own.frame f hP h fun a ha => hF a (List.mem_append_left _ ha)) (OwnF.frame f hP t fun a ha => hF a (List.mem_append_right _ ha))
  | _, _, _, _, .consT h t, hF => .consT (Own.frame f hP h fun a ha => hF a (List.mem_append_left _ ha)) (OwnF.frame f hP t fun a ha => hF a (List.mem_append_right _ ha))
  | _, _, _, _, .consA h t, hF => .consA (Own.frame f hP h fun a ha => hF a (List.mem_append_left _ ha)) (OwnF.frame f hP t fun a ha => hF a (List.mem_append_right _ ha))
end

theorem Rd.some {a : Addr} {u : HO} (r : Rd H a u) : H a ≠ none := by
  rcases r with r | ⟨o, r⟩ <;> rw [r] <;> exact fun z => nomatch z

/-! ### where shared things may stand may be said otherwise -/
mutual
theorem Own.weak (hP : ∀ a, P a → H a ≠ none → P' a) : ∀ {m v d F}, Own W H P m v d F → Own W H P' m v d F
  | _, _, _, _, .non => .non
  | _, _, _, _, .bl b => .bl b
  | _, _, _, _, .int i => .int i
  | _, _, _, _, .str x => .str x
  | _, _, _, _, .ty n => .ty n
  | _, _, _, _, .glo e => .glo e
  | _, _, _, _, .tup e h => .tup e (Owns.weak hP h)
  | _, _, _, _, .lstS p e h => .lstS (hP _ p (by rw [e]; exact fun z => nomatch z)) e (Owns.weak hP h)
  | _, _, _, _, .lstO n e h => .lstO n e (Owns.weak hP h)
  | _, _, _, _, .dKS p e h => .dKS (hP _ p (by rw [e]; exact fun z => nomatch z)) e (Owns.weak hP h)
  | _, _, _, _, .dKO n k e h => .dKO n k e (Owns.weak hP h)
  | _, _, _, _, .dTS p e h => .dTS (hP _ p (by rw [e]; exact fun z => nomatch z)) e (Owns.weak hP h)
  | _, _, _, _, .dTO n k e h => .dTO n k e (Owns.weak hP h)
  | _, _, _, _, .insS p c e h => .insS (hP _ p (by rw [e]; exact fun z => nomatch z)) c e (OwnF.weak hP h)
  | _, _, _, _, .insO n c e h => .insO n c e (OwnF.weak hP h)
  | _, _, _, _, .scr e => .scr e
  | _, _, _, _, .pin p e h => .pin (hP _ p (by rw [h]; exact fun z => nomatch z)) e h
  | _, _, _, _, .clo c h => .clo c (Owns.weak hP h)
theorem Owns.weak (hP : ∀ a, P a → H a ≠ none → P' a) : ∀ {m vs ds F}, Owns W H P m vs ds F → Owns W H P' m vs ds F
  | _, _, _, _, .nil => .nil
  | _, _, _, _, .cons h t => .cons (Own.weak hP h) (Owns.weak hP t)
theorem OwnF.weak (hP : ∀ a, P a → H a ≠ none → P' a) : ∀ {m fs fds F}, OwnF W H P m fs fds F → OwnF W H P' m fs fds F
  | _, _, _, _, .nil => .nil
  | _, _, _, _, .consS h t => .consS (Own.weak hP h) (OwnF.weak hP t)
  | _, _, _, _, .consT h t => .consT (Own.weak hP h) (OwnF.weak hP t)
  | _, _, _, _, .consA h t => .consA (Own.weak hP h) (OwnF.weak hP t)
end

/-! ### what is owned is there -/
mutual
theorem Own.dom : ∀ {m v d F}, Own W H P m v d F → ∀ a ∈ F, H a ≠ none
  | _, _, _, _, .tup _ h => Owns.dom h
  | _, _, _, _, .lstS _ _ h => Owns.dom h
  | _, _, _, _, .scr _ => fun _ z => nomatch z
  | _, _, _, _, .lstO _ e h => fun a ha => by
    rcases List.mem_cons.mp ha with rfl | ha
    · rw [e]; exact fun z => nomatch z
    · exact Owns.dom h a ha
  | _, _, _, _, .dKS _ _ h => Owns.dom h
  | _, _, _, _, .dKO _ _ e h => fun a ha => by
    rcases List.mem_cons.mp ha with rfl | ha
    · rw [e]; exact fun z => nomatch z
    · exact Owns.dom h a ha
  | _, _, _, _, .dTS _ _ h => Owns.dom h
  | _, _, _, _, .dTO _ _ e h => fun a ha => by
    rcases List.mem_cons.mp ha with rfl | ha
    · rw [e]; exact fun z => nomatch z
    · exact Owns.dom h a ha
  | _, _, _, _, .insS _ _ _ h => OwnF.dom h
  | _, _, _, _, .insO _ _ e h => fun a ha => by
    rcases List.mem_cons.mp ha with rfl | ha
    · rw [e]; exact fun z => nomatch z
    · exact OwnF.dom h a ha
  | _, _, _, _, .pin .. => fun _ z => nomatch z
  | _, _, _, _, .clo _ h => Owns.dom h
  | _, _, _, _, .non => fun _ z => nomatch z
  | _, _, _, _, .bl _ => fun _ z => nomatch z
  | _, _, _, _, .int _ => fun _ z => nomatch z
  | _, _, _, _, .str _ => fun _ z => nomatch z
  | _, _, _, _, .ty _ => fun _ z => nomatch z
  | _, _, _, _, .glo _ => fun _ z => nomatch z
theorem Owns.dom : ∀ {m vs ds F}, Owns W H P m vs ds F → ∀ a ∈ F, H a ≠ none
  | _, _, _, _, .nil => fun _ z => nomatch z
  | _, _, _, _, .cons h t => fun a ha => (List.mem_append.mp ha).elim (Own.dom h a) (Owns.dom t a)
theorem OwnF.dom : ∀ {m fs fds F}, OwnF W H P m fs fds F → ∀ a ∈ F, H a ≠ none
  | _, _, _, _, .nil => fun _ z => nomatch z
  | _, _, _, _, .consS h t => fun a ha => (List.mem_append.mp ha).elim (Own.dom h a) (OwnF.dom t a)
  | _, _, _, _, .consT h t => fun a ha => (List.mem_append.mp ha).elim (Own.dom h a) (OwnF.dom t a)
  | _, _, _, _, .consA h t => fun a ha => (List.mem_append.mp ha).elim (Own.dom h a) (OwnF.dom t a)
end

/-! ### an owned value becomes a shared one -/
mutual
theorem Own.freeze (h1 : ∀ a, P a → H a ≠ none → P' a) : ∀ {m v d F}, Own W H P m v d F → (∀ a ∈ F, P' a) → Own W H P' .shr v d []
  | _, _, _, _, .non, _ => .non
  | _, _, _, _, .bl b, _ => .bl b
  | _, _, _, _, .int i, _ => .int i
  | _, _, _, _, .str x, _ => .str x
  | _, _, _, _, .ty n, _ => .ty n
  | _, _, _, _, .glo e, _ => .glo e
  | _, _, _, _, .tup e h, hF => .tup e (Owns.freeze h1 h hF)
  | _, _, _, _, .lstS p e h, hF => .lstS (h1 _ p (by rw [e]; exact fun z => nomatch z)) e (Owns.freeze h1 h hF)
  | _, _, _, _, .lstO n e h, hF => .lstS (hF _ (List.mem_cons_self ..)) e (Owns.freeze h1 h fun a ha => hF a (List.mem_cons_of_mem _ ha))
  | _, _, _, _, .dKS p e h, hF => .dKS (h1 _ p (by rw [e]; exact fun z => nomatch z)) e (Owns.freeze h1 h hF)
  | _, _, _, _, .dKO n k e h, hF => .dKS (hF _ (List.mem_cons_self ..)) e (Owns.freeze h1 h fun a ha => hF a (List.mem_cons_of_mem _ ha))
  | _, _, _, _, .dTS p e h, hF => .dTS (h1 _ p (by rw [e]; exact fun z => nomatch z)) e (Owns.freeze h1 h hF)
  | _, _, _, _, .dTO n k e h, hF => .dTS (hF _ (List.mem_cons_self ..)) e (Owns.freeze h1 h fun a ha => hF a (List.mem_cons_of_mem _ ha))
  | _, _, _, _, .insS p c e h, hF => .insS (h1 _ p (by rw [e]; exact fun z => nomatch z)) c e (OwnF.freeze h1 h hF)
  | _, _, _, _, .insO n c e h, hF => .insS (hF _ (List.mem_cons_self ..)) c e (OwnF.freeze h1 h fun a ha => hF a (List.mem_cons_of_mem _ ha))
  | _, _, _, _, .scr e, _ => .scr e
  | _, _, _, _, .pin p e h, _ => .pin (h1 _ p (by rw [h]; exact fun z => nomatch z)) e h
  | _, _, _, _, .clo c h, hF => .clo c (Owns.freeze h1 h hF)
theorem Owns.freeze (h1 : ∀ a, P a → H a ≠ none → P' a) : ∀ {m vs ds F}, Owns W H P m vs ds F → (∀ a ∈ F, P' a) → Owns W H P' .shr vs ds []
  | _, _, _, _, .nil, _ => .nil
  | _, _, _, _, .cons h t, hF => .cons (F := []) (Own.freeze h1 h fun a ha => hF a (List.mem_append_left _ ha)) (Owns.freeze h1 t fun a ha => hF a (List.mem_append_right _ ha))
theorem OwnF.freeze (h1 : ∀ a, P a → H a ≠ none → P' a) : ∀ {m fs fds F}, OwnF W H P m fs fds F → (∀ a ∈ F, P' a) → OwnF W H P' .shr fs fds []
  | _, _, _, _, .nil, _ => .nil
  | _, _, _, _, .consS h t, hF => .consS (F := []) (Own.freeze h1 h fun a ha => hF a (List.mem_append_left _ ha)) (OwnF.freeze h1 t fun a ha => hF a (List.mem_append_right _ ha))
  | _, _, _, _, .consT h t, hF => .consS (F := []) (Own.freeze h1 h fun a ha => hF a (List.mem_append_left _ ha)) (OwnF.freeze h1 t fun a ha => hF a (List.mem_append_right _ ha))
  | _, _, _, _, .consA h t, hF => .consS (F := []) (Own.freeze h1 h fun a ha => hF a (List.mem_append_left _ ha)) (OwnF.freeze h1 t fun a ha => hF a (List.mem_append_right _ ha))
end

/-! ### plain values: nothing in them can be changed -/
mutual
def D.imm : D → Bool
  | .tup ds => immAll ds
  | .lst _ => false
  | .dic _ _ => false
  | .pin => false
  | .ins _ _ => false
  | .clo _ _ => false
  | _ => true
def immAll : List D → Bool
  | [] => true
  | d :: ds => d.imm && immAll ds
end
mutual
theorem Own.of_imm : ∀ {m v d F}, Own W H P m v d F → d.imm = true → F = [] ∧ ∀ m' P', Own W H P' m' v d []
  | _, _, _, _, .non, _ => ⟨rfl, fun _ _ => .non⟩
  | _, _, _, _, .bl b, _ => ⟨rfl, fun _ _ => .bl b⟩
  | _, _, _, _, .int i, _ => ⟨rfl, fun _ _ => .int i⟩
  | _, _, _, _, .str x, _ => ⟨rfl, fun _ _ => .str x⟩
  | _, _, _, _, .ty n, _ => ⟨rfl, fun _ _ => .ty n⟩
  | _, _, _, _, .glo e, _ => ⟨rfl, fun _ _ => .glo e⟩
  | _, _, _, _, .tup e h, i => by
    obtain ⟨a, b⟩ := Owns.of_imm h (by simpa only [D.imm] using i)
    exact ⟨a, fun m' P' => .tup e (b m' P')⟩
  | _, _, _, _, .lstS .., i => by simp [D.imm] at i
  | _, _, _, _, .lstO .., i => by simp [D.imm] at i
  | _, _, _, _, .dKS .., i => by simp [D.imm] at i
  | _, _, _, _, .dKO .., i => by simp [D.imm] at i
  | _, _, _, _, .dTS .., i => by simp [D.imm] at i
  | _, _, _, _, .dTO .., i => by simp [D.imm] at i
  | _, _, _, _, .insS .., i => by simp [D.imm] at i
  | _, _, _, _, .insO .., i => by simp [D.imm] at i
  | _, _, _, _, .scr e, _ => ⟨rfl, fun _ _ => .scr e⟩
  | _, _, _, _, .pin .., i => by simp [D.imm] at i
  | _, _, _, _, .clo .., i => by simp [D.imm] at i
theorem Owns.of_imm : ∀ {m vs ds F}, Owns W H P m vs ds F → immAll ds = true → F = [] ∧ ∀ m' P', Owns W H P' m' vs ds []
  | _, _, _, _, .nil, _ => ⟨rfl, fun _ _ => .nil⟩
  | _, _, _, _, .cons h t, i => by
    simp only [immAll, Bool.and_eq_true] at i
    obtain ⟨a, b⟩ := Own.of_imm h i.1
    obtain ⟨c, d⟩ := Owns.of_imm t i.2
    exact ⟨by rw [a, c]; rfl, fun m' P' => .cons (F := []) (b m' P') (d m' P')⟩
end
end
/-! ### another world -/
section
variable {W W' : Wd} {H : Hp} {P : Addr → Prop}
/-- the same program, text and code tables -/
structure Wd.Like (W W' : Wd) : Prop where
  K : W'.K = W.K
  mg : W'.mg = W.mg
  T : W'.T = W.T
theorem ScrAt.world (hK : W'.K = W.K) {a : Addr} {ns : List Int} (h : ScrAt W H a ns) : ScrAt W' H a ns := by unfold ScrAt at h ⊢; rw [hK]; exact h
mutual
theorem Own.world (l : W.Like W') (hp : W'.pin = W.pin) (hc : ∀ k f ws, W.cl k f ws H → W'.cl k f ws H) : ∀ {m v d F}, Own W H P m v d F → Own W' H P m v d F
  | _, _, _, _, .non => .non
  | _, _, _, _, .bl b => .bl b
  | _, _, _, _, .int i => .int i
  | _, _, _, _, .str x => .str x
  | _, _, _, _, .ty n => .ty n
  | _, _, _, _, .glo e => .glo (by rw [l.mg]; exact e)
  | _, _, _, _, .tup e h => .tup e (Owns.world l hp hc h)
  | _, _, _, _, .lstS p e h => .lstS p e (Owns.world l hp hc h)
  | _, _, _, _, .lstO n e h => .lstO n e (Owns.world l hp hc h)
  | _, _, _, _, .dKS p e h => .dKS p e (Owns.world l hp hc h)
  | _, _, _, _, .dKO n k e h => .dKO n k e (Owns.world l hp hc h)
  | _, _, _, _, .dTS p e h => .dTS p e (Owns.world l hp hc h)
  | _, _, _, _, .dTO n k e h => .dTO n k e (Owns.world l hp hc h)
  | _, _, _, _, .insS p c e h => .insS p (by rw [l.mg]; exact c) e (OwnF.world l hp hc h)
  | _, _, _, _, .insO n c e h => .insO n (by rw [l.mg]; exact c) e (OwnF.world l hp hc h)
  | _, _, _, _, .scr e => .scr (e.world l.K)
  | _, _, _, _, .pin p e h => .pin p (by rw [hp]; exact e) h
  | _, _, _, _, .clo c h => .clo (hc _ _ _ c) (Owns.world l hp hc h)
theorem Owns.world (l : W.Like W') (hp : W'.pin = W.pin) (hc : ∀ k f ws, W.cl k f ws H → W'.cl k f ws H) : ∀ {m vs ds F}, Owns W H P m vs ds F → Owns W' H P m vs ds F
  | _, _, _, _, .nil => .nil
  | _, _, _, _, .cons h t => .cons (Own.world l hp hc h) (Owns.world l hp hc t)
theorem OwnF.world (l : W.Like W') (hp : W'.pin = W.pin) (hc : ∀ k f ws, W.cl k f ws H → W'.cl k f ws H) : ∀ {m fs fds F}, OwnF W H P m fs fds F → OwnF W' H P m fs fds F
  | _, _, _, _, .nil => .nil
  | _, _, _, _, .consS h t => .consS (Own.world l hp hc h) (OwnF.world l hp hc t)
  | _, _, _, _, .consT h t => .consT (Own.world l hp hc h) (OwnF.world l hp hc t)
  | _, _, _, _, .consA h t => .consA (Own.world l hp hc h) (OwnF.world l hp hc t)
end
theorem Fr.world {O : Addr → Prop} {H' : Hp} (l : W.Like W') (f : Fr W O H H') : Fr W' O H H' := ⟨f.keep, by rw [l.T]; exact f.tabs, f.there⟩
end
end BV
set_option maxHeartbeats 2000000
/-! BV2: states by value, readings. -/
namespace BV
open PySem PySem.Spec PyProof.Rows L2

abbrev Val := Mode × D
abbrev Env := List (Option Val)
inductive Out (α : Type) where
  | ok (a : α) (e : Env) | exc (c : Str) (fs : List (Str × D)) (e : Env) | bad
abbrev M (α : Type) := Env → Out α
def M.pure {α : Type} (a : α) : M α := fun e => .ok a e
def Out.bind {α β : Type} (o : Out α) (f : α → M β) : Out β := match o with
  | .ok a e => f a e
  | .exc c fs e => .exc c fs e
  | .bad => .bad
def M.bind {α β : Type} (m : M α) (f : α → M β) : M β := fun e => (m e).bind f
def M.bad {α : Type} : M α := fun _ => .bad

/-- a plain value may be had in any mode -/
def nrm (x : Val) : Val := if x.2.imm then (.all, x.2) else x

def OF (Fs : Nat → List Addr) : Addr → Prop := fun a => ∃ i, a ∈ Fs i

/-- σ holds what env says; Fs: what each slot owns; Z: what may not be shared -/
structure Sim (W : Wd) (H : Hp) (Z : Addr → Prop) (σ : L2.St) (env : Env) (Fs : Nat → List Addr) : Prop where
  rep : ∀ i x, env[i]? = some (some x) → ∃ v, σ[i]? = some (some v) ∧ Own W H (fun a => ¬ Z a) x.1 v x.2 (Fs i)
  off : ∀ i, (∀ x, env[i]? ≠ some (some x)) → Fs i = []
  dis : ∀ i j a, a ∈ Fs i → a ∈ Fs j → i = j
  nd : ∀ i, (Fs i).Nodup
  sub : ∀ i a, a ∈ Fs i → Z a
  zdom : ∀ a, Z a → H a ≠ none
  len : env.length = σ.length
  tabs : LamX.Tabs W.T H
theorem Sim.subO {W : Wd} {H : Hp} {Z : Addr → Prop} {σ : L2.St} {env : Env} {Fs : Nat → List Addr} (S : Sim W H Z σ env Fs) {a : Addr} (h : OF Fs a) : Z a := let ⟨i, hi⟩ := h; S.sub i a hi

/-- from one state to a later one; Fx: what is owned beside the slots -/
structure Step (W : Wd) (H : Hp) (Z : Addr → Prop) (Fs : Nat → List Addr) (H' : Hp) (Z' : Addr → Prop) (Fs' : Nat → List Addr) (Fx : List Addr) : Prop where
  fr : Fr W (OF Fs) H H'
  zin : ∀ a, Z' a → Z a ∨ H a = none
  zkeep : ∀ a, Z a → ¬ OF Fs a → Z' a
  own : ∀ a, (OF Fs' a ∨ a ∈ Fx) → OF Fs a ∨ H a = none

/-- a value at hand -/
structure Pend (W : Wd) (H : Hp) (Z : Addr → Prop) (Fs : Nat → List Addr) (x : Val) (v : V) (F : List Addr) : Prop where
  own : Own W H (fun a => ¬ Z a) x.1 v x.2 F
  nd : F.Nodup
  sub : ∀ a ∈ F, Z a
  dis : ∀ a ∈ F, ¬ OF Fs a

section
variable {W : Wd} {H H1 H2 : Hp} {Z Z1 Z2 : Addr → Prop} {Fs Fs1 Fs2 : Nat → List Addr} {Fx Fy : List Addr} {σ : L2.St} {env : Env} {x : Val} {v : V}

theorem Step.refl : Step W H Z Fs H Z Fs [] := ⟨Fr.refl, fun _ h => .inl h, fun _ h _ => h, fun a h => .inl (h.elim id fun z => nomatch z)⟩

theorem Step.seq (zd : ∀ a, Z a → H a ≠ none) (a : Step W H Z Fs H1 Z1 Fs1 Fx) (b : Step W H1 Z1 Fs1 H2 Z2 Fs2 Fy) : Step W H Z Fs H2 Z2 Fs2 (Fx ++ Fy) where
  fr := ⟨fun c o h k t => b.fr.keep c o (a.fr.keep c o h k t) (by
      rcases k with k | k
      · exact .inl fun z => (a.own c (.inl z)).elim k fun n => by rw [h] at n; cases n
      · exact .inr k) t, fun t => b.fr.tabs (a.fr.tabs t), fun c h => b.fr.there c (a.fr.there c h)⟩
  zin := fun c h => (b.zin c h).elim (a.zin c) fun n => .inr (Classical.byContradiction fun z => a.fr.there c z n)
  zkeep := fun c h n => b.zkeep c (a.zkeep c h n) fun z => (a.own c (.inl z)).elim n (zd c h)
  own := fun c h => by
    rcases h with h | h
    · rcases b.own c (.inl h) with h | h
      · exact a.own c (.inl h)
      · exact .inr (Classical.byContradiction fun z => a.fr.there c z h)
    · rcases List.mem_append.mp h with h | h
      · exact a.own c (.inr h)
      · rcases b.own c (.inr h) with h | h
        · exact a.own c (.inl h)
        · exact .inr (Classical.byContradiction fun z => a.fr.there c z h)

theorem Step.less {Fz : List Addr} (a : Step W H Z Fs H1 Z1 Fs1 Fx) (h : ∀ c ∈ Fz, c ∈ Fx) : Step W H Z Fs H1 Z1 Fs1 Fz :=
  ⟨a.fr, a.zin, a.zkeep, fun c k => a.own c (k.imp id (h c))⟩

/-- a value at hand stands what comes later -/
theorem Own.later {m : Mode} {d : D} {F : List Addr} (so : ∀ a, OF Fs1 a → Z1 a) (p : Own W H1 (fun a => ¬ Z1 a) m v d F) (hd : ∀ a ∈ F, ¬ OF Fs1 a) (b : Step W H1 Z1 Fs1 H2 Z2 Fs2 Fy) : Own W H2 (fun a => ¬ Z2 a) m v d F := by
  have h1 := Own.weak (P' := fun a => ¬ Z1 a ∧ ¬ Z2 a) (fun a n t => ⟨n, fun z => (b.zin a z).elim n t⟩) p
  have h2 := Own.frame b.fr (fun a n z => n.1 (so a z)) h1 hd
  exact Own.weak (fun a n _ => n.2) h2
theorem Pend.later (so : ∀ a, OF Fs1 a → Z1 a) (p : Pend W H1 Z1 Fs1 x v Fx) (b : Step W H1 Z1 Fs1 H2 Z2 Fs2 Fy) : Pend W H2 Z2 Fs2 x v Fx ∧ ∀ a ∈ Fx, a ∉ Fy := by
  have hd : ∀ a ∈ Fx, ¬ OF Fs2 a ∧ a ∉ Fy := fun a ha => ⟨fun z => (b.own a (.inl z)).elim (p.dis a ha) (p.own.dom a ha), fun z => (b.own a (.inr z)).elim (p.dis a ha) (p.own.dom a ha)⟩
  exact ⟨⟨Own.later so p.own p.dis b, p.nd, fun a ha => b.zkeep a (p.sub a ha) (p.dis a ha), fun a ha => (hd a ha).1⟩, fun a ha => (hd a ha).2⟩

/-- the slots stand it when things beside them are no longer forbidden -/
theorem Sim.free (S : Sim W H Z σ env Fs) {Z' : Addr → Prop} (h1 : ∀ a, Z' a → Z a) (h2 : ∀ a, OF Fs a → Z' a) : Sim W H Z' σ env Fs where
  rep := fun i x e => let ⟨v, e1, o⟩ := S.rep i x e; ⟨v, e1, Own.weak (fun a n _ z => n (h1 a z)) o⟩
  off := S.off
  dis := S.dis
  nd := S.nd
  sub := fun i a h => h2 a ⟨i, h⟩
  zdom := fun a h => S.zdom a (h1 a h)
  len := S.len
  tabs := S.tabs
end

/-- behind an expression -/
structure PostE (W : Wd) (H : Hp) (Z : Addr → Prop) (Fs : Nat → List Addr) (σ : L2.St) (H' : Hp) (Z' : Addr → Prop) (env' : Env) (Fs' : Nat → List Addr) (x : Val) (v : V) (Fx : List Addr) : Prop where
  st : Step W H Z Fs H' Z' Fs' Fx
  sim : Sim W H' Z' σ env' Fs'
  pd : Pend W H' Z' Fs' x v Fx
/-- behind a raise -/
structure PostX (W : Wd) (H : Hp) (Z : Addr → Prop) (Fs : Nat → List Addr) (σ : L2.St) (H' : Hp) (Z' : Addr → Prop) (env' : Env) (Fs' : Nat → List Addr) (c : Str) (fs : List (Str × D)) (cls : Value) (dd : Option Addr) : Prop where
  st : Step W H Z Fs H' Z' Fs' []
  sim : Sim W H' Z' σ env' Fs'
  cls : ∃ C, W.mg c = some (.ref C) ∧ cls = .ref C
  fld : (dd = none ∧ fs = []) ∨ ∃ dx vs, dd = some dx ∧ H' dx = some (.xd ((fs.map (·.1)).zip vs)) ∧ vs.length = fs.length ∧ Owns W H' (fun a => ¬ Z' a) .shr vs (fs.map (·.2)) []

def rdE (W : Wd) (w : WX) (m : M Val) : TE := fun σ H Q => ∃ Z env Fs, Sim W H Z σ env Fs ∧ match m env with
  | .ok x env' => ∀ H' Z' Fs' v Fx, PostE W H Z Fs σ H' Z' env' Fs' x v Fx → Q v H'
  | .exc c fs env' => ∀ H' Z' Fs' cls dd, PostX W H Z Fs σ H' Z' env' Fs' c fs cls dd → w cls dd σ H'
  | .bad => False
/-- the expression does what m says -/
def GE (X : Cx) (W : Wd) (e : Expr) (m : M Val) : Prop := ∀ w, Takes X w → PE X e (rdE W w m)

section
variable {X : Cx} {W : Wd}
theorem pe_imp {e : Expr} {t t' : TE} (p : PE X e t) (h : ∀ σ H Q, t' σ H Q → t σ H Q) : PE X e t' := ⟨fun pins s σ H Q I k => p.run pins s σ H Q I (h σ H Q k)⟩

theorem pend_imm {H : Hp} {Z : Addr → Prop} {Fs : Nat → List Addr} {v : V} {d : D} (o : Own W H (fun a => ¬ Z a) .all v d []) : Pend W H Z Fs (.all, d) v [] :=
  ⟨o, List.nodup_nil, fun _ z => (nomatch z), fun _ z => (nomatch z)⟩

def mC (d : D) : M Val := M.pure (.all, d)
theorem rd_const {w : WX} {v : V} {d : D} (o : ∀ H P, Own W H P .all v d []) (σ : L2.St) (H : Hp) (Q : VK) (h : rdE W w (mC d) σ H Q) : tC v σ H Q := by
  obtain ⟨Z, env, Fs, S, h⟩ := h
  exact h H Z Fs v [] ⟨Step.refl, S, pend_imm (o _ _)⟩
theorem ge_int {i : Int} {j pos} : GE X W (.Constant (.int i) j pos) (mC (.int i)) := fun w _ => pe_imp pe_int (rd_const fun _ _ => .int i)
theorem ge_bl {b : Bool} {j pos} : GE X W (.Constant (.bool b) j pos) (mC (.bl b)) := fun w _ => pe_imp pe_bl (rd_const fun _ _ => .bl b)
theorem ge_non {j pos} : GE X W (.Constant .none j pos) (mC .non) := fun w _ => pe_imp pe_non (rd_const fun _ _ => .non)
theorem ge_str {x : Str} {j pos} : GE X W (.Constant (.str x) j pos) (mC (.str x)) := fun w _ => pe_imp pe_str (rd_const fun _ _ => .str x)

/-- a name is read: a plain value, a shared one: as it is; an owned one is taken out -/
def mVar (i : Nat) : M Val := fun env => match env[i]? with
  | some (some (m, d)) => if d.imm then .ok (.all, d) env else if m = .shr then .ok (.shr, d) env else .ok (m, d) (env.set i none)
  | _ => .bad

theorem Sim.take {H : Hp} {Z : Addr → Prop} {σ : L2.St} {env : Env} {Fs : Nat → List Addr} (S : Sim W H Z σ env Fs) (i : Nat) : Sim W H Z σ (env.set i none) (fun j => if j = i then [] else Fs j) where
  rep := fun j x e => by
    by_cases hj : j = i
    · subst hj
      rw [List.getElem?_set] at e
      simp only [ite_true] at e
      split at e <;> cases e
    · rw [List.getElem?_set_ne (Ne.symm hj)] at e
      obtain ⟨v, e1, o⟩ := S.rep j x e
      exact ⟨v, e1, by rw [if_neg hj]; exact o⟩
  off := fun j h => by
    by_cases hj : j = i
    · simp only [if_pos hj]
    · rw [if_neg hj]
      exact S.off j fun x => by have := h x; rwa [List.getElem?_set_ne (Ne.symm hj)] at this
  dis := fun j k a h1 h2 => by
    split at h1
    · cases h1
    · split at h2
      · cases h2
      · exact S.dis j k a h1 h2
  nd := fun j => by
    split
    · exact List.nodup_nil
    · exact S.nd j
  sub := fun j a h => by
    split at h
    · cases h
    · exact S.sub j a h
  zdom := S.zdom
  len := by rw [List.length_set]; exact S.len
  tabs := S.tabs

theorem ge_var {i : Nat} {x : Str} {pos : Pos} (hN : X.N[i]? = some x) (hv : Vis X.env.scope x) (hd : (x == ("__debug__" : Str)) = false) (hcd : (x == ("__classdict__" : Str)) = false) : GE X W (.Name x pos) (mVar i) := fun w _ => by
  refine pe_imp (pe_var hN hv hd hcd) fun σ H Q h => ?_
  obtain ⟨Z, env, Fs, S, h⟩ := h
  unfold mVar at h
  cases e : env[i]? with
  | none => rw [e] at h; exact h.elim
  | some o =>
    cases o with
    | none => rw [e] at h; exact h.elim
    | some x =>
      obtain ⟨m, d⟩ := x
      obtain ⟨v, e1, o⟩ := S.rep i _ e
      refine ⟨v, e1, ?_⟩
      rw [e] at h
      dsimp only at h
      by_cases im : d.imm = true
      · rw [if_pos im] at h
        exact h H Z Fs v [] ⟨Step.refl, S, pend_imm ((o.of_imm im).2 _ _)⟩
      · rw [if_neg im] at h
        by_cases hm : m = .shr
        · rw [if_pos hm] at h
          subst hm
          have := o.shr_nil
          rw [this] at o
          exact h H Z Fs v [] ⟨Step.refl, S, ⟨o, List.nodup_nil, fun _ z => (nomatch z), fun _ z => (nomatch z)⟩⟩
        · rw [if_neg hm] at h
          refine h H Z _ v (Fs i) ⟨⟨Fr.refl, fun _ z => .inl z, fun _ z _ => z, fun a z => .inl ?_⟩, S.take i, ⟨o, S.nd i, S.sub i, fun a ha z => ?_⟩⟩
          · rcases z with ⟨j, z⟩ | z
            · dsimp only at z
              split at z
              · cases z
              · exact ⟨j, z⟩
            · exact ⟨i, z⟩
          · obtain ⟨j, z⟩ := z
            dsimp only at z
            split at z
            · cases z
            · rename_i hj
              exact hj (S.dis j i a z ha)
end
end BV
set_option maxHeartbeats 2000000
/-! BV3: values at hand, one behind another; operators on plain values. -/
namespace BV
open PySem PySem.Spec PyProof.Rows L2

inductive OwnL (W : Wd) (H : Hp) (P : Addr → Prop) : List Val → List V → List Addr → Prop
  | nil : OwnL W H P [] [] []
  | cons {x : Val} {v : V} {xs : List Val} {vs : List V} {F G : List Addr} : Own W H P x.1 v x.2 F → OwnL W H P xs vs G → OwnL W H P (x :: xs) (v :: vs) (F ++ G)

/-- values at hand -/
structure PostL (W : Wd) (H : Hp) (Z : Addr → Prop) (Fs : Nat → List Addr) (σ : L2.St) (H' : Hp) (Z' : Addr → Prop) (env' : Env) (Fs' : Nat → List Addr) (xs : List Val) (vs : List V) (F : List Addr) : Prop where
  st : Step W H Z Fs H' Z' Fs' F
  sim : Sim W H' Z' σ env' Fs'
  own : OwnL W H' (fun a => ¬ Z' a) xs vs F
  nd : F.Nodup
  sub : ∀ a ∈ F, Z' a
  dis : ∀ a ∈ F, ¬ OF Fs' a
  zd : ∀ a, Z a → H a ≠ none

/-- what is wanted behind an outcome, from the state at the begin -/
def Fin (W : Wd) (w : WX) (σ : L2.St) (H : Hp) (Z : Addr → Prop) (Fs : Nat → List Addr) (o : Out Val) (Q : VK) : Prop := match o with
  | .ok x env' => ∀ H' Z' Fs' v Fx, PostE W H Z Fs σ H' Z' env' Fs' x v Fx → Q v H'
  | .exc c fs env' => ∀ H' Z' Fs' cls dd, PostX W H Z Fs σ H' Z' env' Fs' c fs cls dd → w cls dd σ H'
  | .bad => False
theorem rdE_iff {W : Wd} {w : WX} {m : M Val} {σ : L2.St} {H : Hp} {Q : VK} : rdE W w m σ H Q ↔ ∃ Z env Fs, Sim W H Z σ env Fs ∧ Fin W w σ H Z Fs (m env) Q := Iff.rfl

section
variable {W : Wd} {w : WX} {σ : L2.St} {H H1 H2 : Hp} {Z Z1 Z2 : Addr → Prop} {Fs Fs1 Fs2 : Nat → List Addr} {env env1 : Env} {xs : List Val} {vs : List V} {F Fx : List Addr} {x : Val} {v : V} {Q : VK}

theorem OwnL.later (so : ∀ a, OF Fs1 a → Z1 a) (b : Step W H1 Z1 Fs1 H2 Z2 Fs2 Fx) : ∀ {xs vs F}, OwnL W H1 (fun a => ¬ Z1 a) xs vs F → (∀ a ∈ F, ¬ OF Fs1 a) → OwnL W H2 (fun a => ¬ Z2 a) xs vs F
  | _, _, _, .nil, _ => .nil
  | _, _, _, .cons h t, hd => .cons (Own.later so h (fun a ha => hd a (List.mem_append_left _ ha)) b) (OwnL.later so b t fun a ha => hd a (List.mem_append_right _ ha))
theorem OwnL.dom {P : Addr → Prop} : ∀ {xs vs F}, OwnL W H P xs vs F → ∀ a ∈ F, H a ≠ none
  | _, _, _, .nil => fun _ z => nomatch z
  | _, _, _, .cons h t => fun a ha => (List.mem_append.mp ha).elim (Own.dom h a) (OwnL.dom t a)
theorem OwnL.snoc {P : Addr → Prop} (o : Own W H P x.1 v x.2 Fx) : ∀ {xs vs F}, OwnL W H P xs vs F → OwnL W H P (xs ++ [x]) (vs ++ [v]) (F ++ Fx)
  | _, _, _, .nil => by simpa using OwnL.cons (F := Fx) o .nil
  | _, _, _, .cons h t => by
    rw [List.append_assoc]
    exact .cons h (OwnL.snoc o t)
theorem OwnL.weak {P P' : Addr → Prop} (hP : ∀ a, P a → H a ≠ none → P' a) : ∀ {xs vs F}, OwnL W H P xs vs F → OwnL W H P' xs vs F
  | _, _, _, .nil => .nil
  | _, _, _, .cons h t => .cons (Own.weak hP h) (OwnL.weak hP t)
theorem OwnL.freeze {P P' : Addr → Prop} (h1 : ∀ a, P a → H a ≠ none → P' a) : ∀ {xs vs F}, OwnL W H P xs vs F → (∀ a ∈ F, P' a) → OwnL W H P' (xs.map fun x => (.shr, x.2)) vs []
  | _, _, _, .nil, _ => .nil
  | _, _, _, .cons h t, hF => .cons (F := []) (Own.freeze h1 h fun a ha => hF a (List.mem_append_left _ ha)) (OwnL.freeze h1 t fun a ha => hF a (List.mem_append_right _ ha))
theorem OwnL.length {P : Addr → Prop} : ∀ {xs vs F}, OwnL W H P xs vs F → vs.length = xs.length
  | _, _, _, .nil => rfl
  | _, _, _, .cons _ t => by simp [OwnL.length t]

theorem PostL.start (S : Sim W H Z σ env Fs) : PostL W H Z Fs σ H Z env Fs [] [] [] :=
  ⟨Step.refl, S, .nil, List.nodup_nil, fun _ z => (nomatch z), fun _ z => (nomatch z), S.zdom⟩

/-- one value more -/
theorem PostL.snoc (p : PostL W H Z Fs σ H1 Z1 env Fs1 xs vs F) (q : PostE W H1 Z1 Fs1 σ H2 Z2 env1 Fs2 x v Fx) : PostL W H Z Fs σ H2 Z2 env1 Fs2 (xs ++ [x]) (vs ++ [v]) (F ++ Fx) := by
  have so : ∀ a, OF Fs1 a → Z1 a := fun a h => p.sim.subO h
  have hd : ∀ a ∈ F, ¬ OF Fs2 a ∧ a ∉ Fx := fun a ha => ⟨fun z => (q.st.own a (.inl z)).elim (p.dis a ha) (p.own.dom a ha), fun z => (q.st.own a (.inr z)).elim (p.dis a ha) (p.own.dom a ha)⟩
  refine ⟨p.st.seq p.zd q.st, q.sim, OwnL.snoc q.pd.own (OwnL.later so q.st p.own p.dis), List.nodup_append.mpr ⟨p.nd, q.pd.nd, fun a ha b hb e => (hd a ha).2 (e ▸ hb)⟩, fun a ha => ?_, fun a ha => ?_, p.zd⟩
  · rcases List.mem_append.mp ha with ha | ha
    · exact q.st.zkeep a (p.sub a ha) (p.dis a ha)
    · exact q.pd.sub a ha
  · rcases List.mem_append.mp ha with ha | ha
    · exact (hd a ha).1
    · exact q.pd.dis a ha
theorem PostL.raise {c : Str} {fs : List (Str × D)} {cls : Value} {dd : Option Addr} (p : PostL W H Z Fs σ H1 Z1 env Fs1 xs vs F) (q : PostX W H1 Z1 Fs1 σ H2 Z2 env1 Fs2 c fs cls dd) : PostX W H Z Fs σ H2 Z2 env1 Fs2 c fs cls dd :=
  ⟨(p.st.seq p.zd q.st).less (fun _ z => nomatch z), q.sim, q.cls, q.fld⟩

theorem Fin.mono {o : Out Val} {Q' : VK} (h : Fin W w σ H Z Fs o Q) (hQ : ∀ v H, Q v H → Q' v H) : Fin W w σ H Z Fs o Q' := by
  cases o with
  | ok x e => exact fun H' Z' Fs' v Fx p => hQ _ _ (h H' Z' Fs' v Fx p)
  | exc c fs e => exact h
  | bad => exact h
theorem rdE_mono {m : M Val} {Q' : VK} (h : rdE W w m σ H Q) (hQ : ∀ v H, Q v H → Q' v H) : rdE W w m σ H Q' :=
  let ⟨Z, env, Fs, S, h⟩ := h
  ⟨Z, env, Fs, S, Fin.mono h hQ⟩
theorem OwnL.inv1 {P : Addr → Prop} (h : OwnL W H P [x] [v] F) : Own W H P x.1 v x.2 F := by
  generalize ex : [x] = l at h
  generalize ev : [v] = k at h
  cases h with
  | nil => cases ex
  | cons h t =>
    cases ex
    cases ev
    cases t
    rw [List.append_nil]
    exact h
theorem OwnL.inv {P : Addr → Prop} (h : OwnL W H P (x :: xs) vs F) : ∃ v vr F1 F2, vs = v :: vr ∧ F = F1 ++ F2 ∧ Own W H P x.1 v x.2 F1 ∧ OwnL W H P xs vr F2 := by
  generalize ex : x :: xs = l at h
  cases h with
  | nil => cases ex
  | cons h t =>
    cases ex
    exact ⟨_, _, _, _, rfl, rfl, h, t⟩
theorem OwnL.inv2 {P : Addr → Prop} {y : Val} {u : V} (h : OwnL W H P [x, y] [v, u] F) : ∃ F1 F2, F = F1 ++ F2 ∧ Own W H P x.1 v x.2 F1 ∧ Own W H P y.1 u y.2 F2 := by
  obtain ⟨v', vr, F1, F2, e1, e2, h1, h2⟩ := h.inv
  cases e1
  exact ⟨F1, F2, e2, h1, h2.inv1⟩

/-- the next expression -/
theorem rd_more {mb : M Val} {k : Val → M Val} (p : PostL W H Z Fs σ H1 Z1 env Fs1 xs vs F) (h : Fin W w σ H Z Fs ((mb.bind k) env) Q) :
    rdE W w mb σ H1 fun v H2 => ∃ Z2 env2 Fs2 y Fy, PostL W H Z Fs σ H2 Z2 env2 Fs2 (xs ++ [y]) (vs ++ [v]) (F ++ Fy) ∧ Fin W w σ H Z Fs (k y env2) Q := by
  refine ⟨Z1, env, Fs1, p.sim, ?_⟩
  have h : Fin W w σ H Z Fs ((mb env).bind k) Q := h
  cases e : mb env with
  | ok y e2 =>
    rw [e] at h
    exact fun H' Z' Fs' v Fx q => ⟨Z', e2, Fs', y, Fx, p.snoc q, h⟩
  | exc c fs e2 =>
    rw [e] at h
    exact fun H' Z' Fs' cls dd q => h H' Z' Fs' cls dd (p.raise q)
  | bad =>
    rw [e] at h
    exact h
theorem rd_first {mb : M Val} {k : Val → M Val} (h : rdE W w (mb.bind k) σ H Q) :
    rdE W w mb σ H fun v H2 => ∃ Z Fs Z2 env2 Fs2 y Fy, PostL W H Z Fs σ H2 Z2 env2 Fs2 [y] [v] Fy ∧ Fin W w σ H Z Fs (k y env2) Q := by
  obtain ⟨Z, env, Fs, S, h⟩ := h
  obtain ⟨Z1, env1, Fs1, S1, h1⟩ := rd_more (PostL.start S) h
  refine ⟨Z1, env1, Fs1, S1, ?_⟩
  cases e : mb env1 with
  | ok y e2 =>
    rw [e] at h1
    intro H' Z' Fs' v Fx q
    obtain ⟨Z2, env2, Fs2, y, Fy, p, f⟩ := h1 H' Z' Fs' v Fx q
    exact ⟨Z, Fs, Z2, env2, Fs2, y, Fy, p, f⟩
  | exc c fs e2 =>
    rw [e] at h1
    exact h1
  | bad =>
    rw [e] at h1
    exact h1

/-- the values at hand are let go -/
theorem PostL.drop (p : PostL W H Z Fs σ H1 Z1 env Fs1 xs vs F) : PostL W H Z Fs σ H1 Z1 env Fs1 [] [] [] :=
  ⟨p.st.less (fun _ z => nomatch z), p.sim, .nil, List.nodup_nil, fun _ z => (nomatch z), fun _ z => (nomatch z), p.zd⟩
/-- the values at hand are shared from now on -/
theorem PostL.shr (p : PostL W H Z Fs σ H1 Z1 env Fs1 xs vs F) : ∃ Z2, PostL W H Z Fs σ H1 Z2 env Fs1 (xs.map fun x => (.shr, x.2)) vs [] := by
  refine ⟨fun a => Z1 a ∧ a ∉ F, ⟨⟨p.st.fr, fun a z => p.st.zin a z.1, fun a z n => ⟨p.st.zkeep a z n, fun z' => (p.st.own a (.inr z')).elim n (p.zd a z)⟩, fun a h => p.st.own a (.inl (h.elim id fun z => nomatch z))⟩,
    p.sim.free (fun a z => z.1) (fun a z => ⟨p.sim.subO z, fun z' => p.dis a z' z⟩), OwnL.freeze (fun a n _ z => n z.1) p.own (fun a ha z => z.2 ha), List.nodup_nil, fun _ z => (nomatch z), fun _ z => (nomatch z), p.zd⟩⟩
/-- a plain value is the answer -/
theorem PostL.fin {d : D} (p : PostL W H Z Fs σ H1 Z1 env Fs1 xs vs F) (h : Fin W w σ H Z Fs (.ok (.all, d) env) Q) (o : ∀ P, Own W H1 P .all v d []) : Q v H1 :=
  h H1 Z1 Fs1 v [] ⟨p.st.less (fun _ z => nomatch z), p.sim, pend_imm (o _)⟩
theorem PostL.one (p : PostL W H Z Fs σ H1 Z1 env Fs1 [x] [v] F) : PostE W H Z Fs σ H1 Z1 env Fs1 x v F :=
  ⟨p.st, p.sim, ⟨p.own.inv1, p.nd, p.sub, p.dis⟩⟩
end

/-! ### an operator whose answer is plain -/
section
variable {X : Cx} {W : Wd} {a b : Expr} {pos : Pos}
/-- g: what it answers; nothing: it is not said -/
def mOp2 (g : D → D → Option D) (ma mb : M Val) : M Val := ma.bind fun x => mb.bind fun y => match g x.2 y.2 with
  | some d => M.pure (.all, d)
  | none => M.bad
/-- the rule r answers as g says -/
def Says (W : Wd) (r : R2) (g : D → D → Option D) : Prop := ∀ (x y : Val) (d : D) (H : Hp) (P : Addr → Prop) (v u : V) (F G : List Addr) (Q : VK), g x.2 y.2 = some d → Own W H P x.1 v x.2 F → Own W H P y.1 u y.2 G →
  (∀ z, (∀ P', Own W H P' .all z d []) → Q z H) → r v u H Q
theorem ge_op2 {e : Expr} {r : R2} {g : D → D → Option D} {ma mb : M Val} (rule : ∀ ta tb, PE X a ta → PE X b tb → PE X e (tOp r ta tb)) (hr : Says W r g) (ha : GE X W a ma) (hb : GE X W b mb) : GE X W e (mOp2 g ma mb) := fun w tk => by
  refine pe_imp (rule _ _ (ha w tk) (hb w tk)) fun σ H Q h => ?_
  refine rdE_mono (rd_first h) fun v H1 ⟨Z, Fs, Z2, env2, Fs2, x, Fx, p, h2⟩ => ?_
  refine rdE_mono (rd_more p h2) fun u H2 ⟨Z3, e3, Fs3, y, Fy, p2, h3⟩ => ?_
  cases eg : g x.2 y.2 with
  | none => rw [eg] at h3; exact h3.elim
  | some d =>
    rw [eg] at h3
    obtain ⟨F1, F2, _, o1, o2⟩ := p2.own.inv2
    exact hr x y d H2 _ v u _ _ Q eg o1 o2 fun z oz => p2.fin h3 oz
end
end BV
set_option maxHeartbeats 2000000
/-! BV4: lists of expressions, displays, new objects. -/
namespace BV
open PySem PySem.Spec PyProof.Rows L2

theorem fixed_tbl {o : HO} (h : Fixed o) : ¬ Tbl o := by cases o <;> simp [Fixed, Tbl] at *
/-- a new object changes nothing -/
theorem Fr.new {W : Wd} {O : Addr → Prop} {H : Hp} {q : Addr} {o : HO} (n : H q = none) : Fr W O H (upd H q o) where
  keep := fun a u h _ _ => by rw [upd_ne (ne_of_none h n)]; exact h
  tabs := fun t => t.ext fun b u e => by rw [upd_ne (ne_of_none e n)]; exact e
  there := fun a h => by
    by_cases e : a = q
    · rw [e, upd_same]; exact fun z => nomatch z
    · rw [upd_ne e]; exact h

section
variable {W : Wd} {w : WX} {σ : L2.St} {H H1 H2 : Hp} {Z Z1 Z2 : Addr → Prop} {Fs Fs1 Fs2 : Nat → List Addr} {env env1 : Env} {xs ys : List Val} {vs us : List V} {F G Fx : List Addr} {x : Val} {v : V} {Q : VK}

theorem OwnL.append {P : Addr → Prop} (o : OwnL W H P ys us G) : ∀ {xs vs F}, OwnL W H P xs vs F → OwnL W H P (xs ++ ys) (vs ++ us) (F ++ G)
  | _, _, _, .nil => o
  | _, _, _, .cons h t => by
    rw [List.append_assoc]
    exact .cons h (OwnL.append o t)
theorem PostL.append (p : PostL W H Z Fs σ H1 Z1 env Fs1 xs vs F) (q : PostL W H1 Z1 Fs1 σ H2 Z2 env1 Fs2 ys us Fx) : PostL W H Z Fs σ H2 Z2 env1 Fs2 (xs ++ ys) (vs ++ us) (F ++ Fx) := by
  have so : ∀ a, OF Fs1 a → Z1 a := fun a h => p.sim.subO h
  have hd : ∀ a ∈ F, ¬ OF Fs2 a ∧ a ∉ Fx := fun a ha => ⟨fun z => (q.st.own a (.inl z)).elim (p.dis a ha) (p.own.dom a ha), fun z => (q.st.own a (.inr z)).elim (p.dis a ha) (p.own.dom a ha)⟩
  refine ⟨p.st.seq p.zd q.st, q.sim, OwnL.append q.own (OwnL.later so q.st p.own p.dis), List.nodup_append.mpr ⟨p.nd, q.nd, fun a ha b hb e => (hd a ha).2 (e ▸ hb)⟩, fun a ha => ?_, fun a ha => ?_, p.zd⟩
  · rcases List.mem_append.mp ha with ha | ha
    · exact q.st.zkeep a (p.sub a ha) (p.dis a ha)
    · exact q.sub a ha
  · rcases List.mem_append.mp ha with ha | ha
    · exact (hd a ha).1
    · exact q.dis a ha

/-! ### lists of expressions -/
def FinL (W : Wd) (w : WX) (σ : L2.St) (H : Hp) (Z : Addr → Prop) (Fs : Nat → List Addr) (o : Out (List Val)) (Q : List V → Hp → Prop) : Prop := match o with
  | .ok xs env' => ∀ H' Z' Fs' vs F, PostL W H Z Fs σ H' Z' env' Fs' xs vs F → Q vs H'
  | .exc c fs env' => ∀ H' Z' Fs' cls dd, PostX W H Z Fs σ H' Z' env' Fs' c fs cls dd → w cls dd σ H'
  | .bad => False
def rdA (W : Wd) (w : WX) (m : M (List Val)) : TA := fun σ H Q => ∃ Z env Fs, Sim W H Z σ env Fs ∧ FinL W w σ H Z Fs (m env) Q
def GA (X : Cx) (W : Wd) (es : List Expr) (m : M (List Val)) : Prop := ∀ w, Takes X w → PA X es (rdA W w m)
theorem FinL.mono {o : Out (List Val)} {Q Q' : List V → Hp → Prop} (h : FinL W w σ H Z Fs o Q) (hQ : ∀ v H, Q v H → Q' v H) : FinL W w σ H Z Fs o Q' := by
  cases o with
  | ok x e => exact fun H' Z' Fs' v Fx p => hQ _ _ (h H' Z' Fs' v Fx p)
  | exc c fs e => exact h
  | bad => exact h
theorem rdA_mono {m : M (List Val)} {Q Q' : List V → Hp → Prop} (h : rdA W w m σ H Q) (hQ : ∀ v H, Q v H → Q' v H) : rdA W w m σ H Q' :=
  let ⟨Z, env, Fs, S, h⟩ := h
  ⟨Z, env, Fs, S, FinL.mono h hQ⟩
/-- arguments, then the rest -/
theorem rd_args {ma : M (List Val)} {k : List Val → M Val} (p : PostL W H Z Fs σ H1 Z1 env Fs1 xs vs F) (h : Fin W w σ H Z Fs ((ma.bind k) env) Q) :
    rdA W w ma σ H1 fun us H2 => ∃ Z2 env2 Fs2 ys Fy, PostL W H Z Fs σ H2 Z2 env2 Fs2 (xs ++ ys) (vs ++ us) (F ++ Fy) ∧ us.length = ys.length ∧ Fin W w σ H Z Fs (k ys env2) Q := by
  refine ⟨Z1, env, Fs1, p.sim, ?_⟩
  have h : Fin W w σ H Z Fs ((ma env).bind k) Q := h
  cases e : ma env with
  | ok y e2 =>
    rw [e] at h
    exact fun H' Z' Fs' v Fx q => ⟨Z', e2, Fs', y, Fx, p.append q, q.own.length, h⟩
  | exc c fs e2 =>
    rw [e] at h
    exact fun H' Z' Fs' cls dd q => h H' Z' Fs' cls dd (p.raise q)
  | bad =>
    rw [e] at h
    exact h
theorem rd_args0 {ma : M (List Val)} {k : List Val → M Val} (h : rdE W w (ma.bind k) σ H Q) :
    rdA W w ma σ H fun us H2 => ∃ Z Fs Z2 env2 Fs2 ys Fy, PostL W H Z Fs σ H2 Z2 env2 Fs2 ys us Fy ∧ Fin W w σ H Z Fs (k ys env2) Q := by
  obtain ⟨Z, env, Fs, S, h⟩ := h
  exact rdA_mono (rd_args (PostL.start S) h) fun us H2 ⟨Z2, env2, Fs2, ys, Fy, p, _, f⟩ => ⟨Z, Fs, Z2, env2, Fs2, ys, Fy, p, f⟩

def mNil : M (List Val) := M.pure []
def mCons (ma : M Val) (mr : M (List Val)) : M (List Val) := ma.bind fun x => mr.bind fun xs => M.pure (x :: xs)
theorem ga_nil {X : Cx} : GA X W [] mNil := fun w _ => ⟨fun pos pins s σ H Q I h => by
  obtain ⟨Z, env, Fs, S, h⟩ := h
  exact pa_nil.run pos pins s σ H Q I (h H Z Fs [] [] (PostL.start S))⟩
theorem pa_imp {X : Cx} {es : List Expr} {t t' : TA} (p : PA X es t) (h : ∀ σ H Q, t' σ H Q → t σ H Q) : PA X es t' := ⟨fun pos pins s σ H Q I k => p.run pos pins s σ H Q I (h σ H Q k)⟩
theorem ga_cons {X : Cx} {e : Expr} {es : List Expr} {ma : M Val} {mr : M (List Val)} (ha : GE X W e ma) (hr : GA X W es mr) (hs : starEach (e :: es) X.env = (false, eval e X.env) :: starEach es X.env) : GA X W (e :: es) (mCons ma mr) := fun w tk => by
  refine pa_imp (pa_cons (ha w tk) (hr w tk) hs) fun σ H Q h => ?_
  obtain ⟨Z, env, Fs, S, h⟩ := h
  refine ⟨Z, env, Fs, S, ?_⟩
  have h : FinL W w σ H Z Fs ((ma env).bind fun x => mr.bind fun xs => M.pure (x :: xs)) Q := h
  cases ea : ma env with
  | exc c fs e2 => rw [ea] at h; exact h
  | bad => rw [ea] at h; exact h
  | ok x e1 =>
    rw [ea] at h
    intro H1 Z1 Fs1 v Fx q
    refine ⟨Z1, e1, Fs1, q.sim, ?_⟩
    have p : PostL W H Z Fs σ H1 Z1 e1 Fs1 [x] [v] Fx := by simpa using (PostL.start S).snoc q
    have h : FinL W w σ H Z Fs ((mr e1).bind fun xs => M.pure (x :: xs)) Q := h
    cases er : mr e1 with
    | exc c fs e2 =>
      rw [er] at h
      exact fun H' Z' Fs' cls dd q => h H' Z' Fs' cls dd (p.raise q)
    | bad => rw [er] at h; exact h
    | ok xs e2 =>
      rw [er] at h
      exact fun H' Z' Fs' vs F q => h H' Z' Fs' (v :: vs) (Fx ++ F) (p.append q)

/-! ### new objects of what is at hand -/
/-- the items of new objects: all wholly owned, or all shared -/
theorem OwnL.all {P : Addr → Prop} : ∀ {xs vs F}, OwnL W H P xs vs F → (∀ x ∈ xs, x.1 = .all) → Owns W H P .all vs (xs.map (·.2)) F
  | _, _, _, .nil, _ => .nil
  | _, _, _, .cons (x := x) h t, a => by
    have e : x.1 = .all := a x (List.mem_cons_self ..)
    rw [e] at h
    exact .cons h (OwnL.all t fun y hy => a y (List.mem_cons_of_mem _ hy))
theorem OwnL.shr {P : Addr → Prop} : ∀ {xs vs F}, OwnL W H P xs vs F → (∀ x ∈ xs, x.1 = .shr) → Owns W H P .shr vs (xs.map (·.2)) F
  | _, _, _, .nil, _ => .nil
  | _, _, _, .cons (x := x) h t, a => by
    have e : x.1 = .shr := a x (List.mem_cons_self ..)
    rw [e] at h
    exact .cons h (OwnL.shr t fun y hy => a y (List.mem_cons_of_mem _ hy))

/-- a new list of items that are at hand -/
theorem PostL.newLst {m : Mode} {ws : List V} {ds : List D} {q : Addr} (p : PostL W H Z Fs σ H1 Z1 env Fs1 xs vs F) (n : H1 q = none) (hm : m ≠ .top) (o : Owns W H1 (fun a => ¬ Z1 a) m ws ds G) (hG : ∀ a ∈ G, a ∈ F) (hn : G.Nodup) :
    PostE W H Z Fs σ (upd H1 q (.lst ws)) (fun a => Z1 a ∨ a = q) env Fs1 (m.succ, .lst ds) (.ref q) (q :: G) := by
  have hz : ¬ Z1 q := fun z => p.sim.zdom q z n
  have f : Fr W (fun _ => False) H1 (upd H1 q (.lst ws)) := Fr.new n
  have nS : m.succ ≠ .shr := by cases m <;> simp [Mode.succ]
  have oq : ¬ OF Fs1 q := fun z => hz (p.sim.subO z)
  refine ⟨⟨⟨fun a u h k t => f.keep a u (p.st.fr.keep a u h k t) (.inl id) t, fun t => f.tabs (p.st.fr.tabs t), fun a h => f.there a (p.st.fr.there a h)⟩, fun a z => ?_, fun a z k => .inl (p.st.zkeep a z k), fun a z => ?_⟩, ?_, ⟨?_, ?_, fun a ha => ?_, fun a ha => ?_⟩⟩
  · rcases z with z | rfl
    · exact p.st.zin a z
    · exact .inr (Classical.byContradiction fun z => p.st.fr.there a z n)
  · rcases z with z | z
    · exact p.st.own a (.inl z)
    · rcases List.mem_cons.mp z with rfl | z
      · exact .inr (Classical.byContradiction fun z => p.st.fr.there a z n)
      · exact p.st.own a (.inr (hG a z))
  · refine ⟨fun i x e => ?_, p.sim.off, p.sim.dis, p.sim.nd, fun i a h => .inl (p.sim.sub i a h), fun a z => ?_, p.sim.len, f.tabs p.sim.tabs⟩
    · obtain ⟨v, e1, o⟩ := p.sim.rep i x e
      exact ⟨v, e1, Own.frame f (fun _ _ z => z) (Own.weak (fun a k t z => z.elim k fun e => t (e ▸ n)) o) fun _ _ z => z⟩
    · rcases z with z | rfl
      · exact f.there a (p.sim.zdom a z)
      · rw [upd_same]; exact fun z => nomatch z
  · refine .lstO nS upd_same ?_
    have e : m.succ.pred = m := by cases m <;> first | rfl | exact absurd rfl hm
    rw [e]
    exact Owns.frame f (fun _ _ z => z) (Owns.weak (fun a k t z => z.elim k fun e => t (e ▸ n)) o) fun _ _ z => z
  · exact List.nodup_cons.mpr ⟨fun z => hz (p.sub q (hG q z)), hn⟩
  · rcases List.mem_cons.mp ha with rfl | ha
    · exact .inr rfl
    · exact .inl (p.sub a (hG a ha))
  · rcases List.mem_cons.mp ha with rfl | ha
    · exact oq
    · exact p.dis a (hG a ha)
/-- a new tuple of items that are at hand -/
theorem PostL.newTup {m : Mode} {ws : List V} {ds : List D} {q : Addr} (p : PostL W H Z Fs σ H1 Z1 env Fs1 xs vs F) (n : H1 q = none) (o : Owns W H1 (fun a => ¬ Z1 a) m ws ds G) (hG : ∀ a ∈ G, a ∈ F) (hn : G.Nodup) :
    PostE W H Z Fs σ (upd H1 q (.tup ws)) Z1 env Fs1 (m, .tup ds) (.ref q) G := by
  have f : Fr W (fun _ => False) H1 (upd H1 q (.tup ws)) := Fr.new n
  refine ⟨⟨⟨fun a u h k t => f.keep a u (p.st.fr.keep a u h k t) (.inl id) t, fun t => f.tabs (p.st.fr.tabs t), fun a h => f.there a (p.st.fr.there a h)⟩, p.st.zin, p.st.zkeep, fun a z => p.st.own a (z.imp id (hG a))⟩, ?_, ⟨?_, hn, fun a ha => p.sub a (hG a ha), fun a ha => p.dis a (hG a ha)⟩⟩
  · refine ⟨fun i x e => ?_, p.sim.off, p.sim.dis, p.sim.nd, p.sim.sub, fun a z => f.there a (p.sim.zdom a z), p.sim.len, f.tabs p.sim.tabs⟩
    obtain ⟨v, e1, o⟩ := p.sim.rep i x e
    exact ⟨v, e1, Own.frame f (fun _ _ z => z) o fun _ _ z => z⟩
  · exact .tup upd_same (Owns.frame f (fun _ _ z => z) o fun _ _ z => z)

def mkTup (xs : List Val) : Val := if xs.all (fun x => x.1 == .all) then (.all, .tup (xs.map (·.2))) else (.shr, .tup (xs.map (·.2)))
def mkLst (xs : List Val) : Val := if xs.all (fun x => x.1 == .all) then (.all, .lst (xs.map (·.2))) else (.top, .lst (xs.map (·.2)))
theorem all_all {xs : List Val} (h : xs.all (fun x => x.1 == .all) = true) : ∀ x ∈ xs, x.1 = .all := fun x hx => by
  have := List.all_eq_true.mp h x hx
  simpa using this
theorem PostL.tup {q : Addr} (p : PostL W H Z Fs σ H1 Z1 env Fs1 xs vs F) (n : H1 q = none) (h : Fin W w σ H Z Fs (.ok (mkTup xs) env) Q) : Q (.ref q) (upd H1 q (.tup vs)) := by
  unfold mkTup at h
  by_cases c : xs.all (fun x => x.1 == .all) = true
  · rw [if_pos c] at h
    exact h _ _ _ _ _ (p.newTup n (OwnL.all p.own (all_all c)) (fun _ z => z) p.nd)
  · rw [if_neg c] at h
    obtain ⟨Z2, p2⟩ := p.shr
    have o := OwnL.shr p2.own (fun x hx => by obtain ⟨y, _, rfl⟩ := List.mem_map.mp hx; rfl)
    rw [List.map_map] at o
    exact h _ _ _ _ _ (p2.newTup n o (fun _ z => z) List.nodup_nil)
theorem PostL.lst {q : Addr} (p : PostL W H Z Fs σ H1 Z1 env Fs1 xs vs F) (n : H1 q = none) (h : Fin W w σ H Z Fs (.ok (mkLst xs) env) Q) : Q (.ref q) (upd H1 q (.lst vs)) := by
  unfold mkLst at h
  by_cases c : xs.all (fun x => x.1 == .all) = true
  · rw [if_pos c] at h
    exact h _ _ _ _ _ (p.newLst (m := .all) n (fun z => nomatch z) (OwnL.all p.own (all_all c)) (fun _ z => z) p.nd)
  · rw [if_neg c] at h
    obtain ⟨Z2, p2⟩ := p.shr
    have o := OwnL.shr p2.own (fun x hx => by obtain ⟨y, _, rfl⟩ := List.mem_map.mp hx; rfl)
    rw [List.map_map] at o
    exact h _ _ _ _ _ (p2.newLst (m := .shr) n (fun z => nomatch z) o (fun _ z => z) List.nodup_nil)

def mTup (ma : M (List Val)) : M Val := ma.bind fun xs => if xs.length ≤ 1000 then M.pure (mkTup xs) else M.bad
def mLst (ma : M (List Val)) : M Val := ma.bind fun xs => if xs.length ≤ 1000 then M.pure (mkLst xs) else M.bad
theorem ge_tup {X : Cx} {es : List Expr} {ma : M (List Val)} {x1 : Nat} {pos : Pos} (ha : GA X W es ma) {k} : GE X W (.Tuple es k pos) (mTup ma) := fun w tk => by
  refine pe_imp (pe_tup (ha w tk)) fun σ H Q h => ?_
  refine rdA_mono (rd_args0 h) fun us H1 ⟨Z, Fs, Z2, env2, Fs2, ys, Fy, p, h⟩ => ?_
  by_cases c : ys.length ≤ 1000
  · rw [if_pos c] at h
    exact ⟨Nat.le_of_lt (small1000 (p.own.length ▸ c)), fun q n => p.tup n h⟩
  · rw [if_neg c] at h; exact h.elim
theorem ge_lst {X : Cx} {es : List Expr} {ma : M (List Val)} {pos : Pos} (ha : GA X W es ma) : GE X W (.List es pos) (mLst ma) := fun w tk => by
  refine pe_imp (pe_lst (ha w tk)) fun σ H Q h => ?_
  refine rdA_mono (rd_args0 h) fun us H1 ⟨Z, Fs, Z2, env2, Fs2, ys, Fy, p, h⟩ => ?_
  by_cases c : ys.length ≤ 1000
  · rw [if_pos c] at h
    exact ⟨Nat.le_of_lt (small1000 (p.own.length ▸ c)), fun q n => p.lst n h⟩
  · rw [if_neg c] at h; exact h.elim
end
end BV
set_option maxHeartbeats 2000000
/-! BV5: arithmetic, comparisons of data, truth, and, or, not, if. -/
namespace BV
open PySem PySem.Spec PyProof.Rows L2

/-! ### arithmetic -/
def gAdd : D → D → Option D
  | .int i, .int j => some (.int (i + j))
  | .str x, .str y => if x.length + y.length ≤ sizeLine then some (.str (x ++ y)) else none
  | _, _ => none
def gSub : D → D → Option D
  | .int i, .int j => some (.int (i - j))
  | _, _ => none
instance (i j : Int) : Decidable (CMul i j) := by unfold CMul; infer_instance
instance (i j : Int) : Decidable (CDiv i j) := by unfold CDiv; infer_instance
instance (i j : Int) : Decidable (CPow i j) := by unfold CPow; infer_instance
def gMul : D → D → Option D
  | .int i, .int j => if CMul i j then some (.int (i * j)) else none
  | _, _ => none
def gDiv : D → D → Option D
  | .int i, .int j => if CDiv i j then some (.int (i / j)) else none
  | _, _ => none
def gMod : D → D → Option D
  | .int i, .int j => if 0 < j then some (.int (i % j)) else none
  | _, _ => none
def gPow : D → D → Option D
  | .int i, .int j => if CPow i j then some (.int (i ^ j.toNat)) else none
  | _, _ => none

section
variable {W : Wd} {H : Hp} {P : Addr → Prop} {m : Mode} {v : V} {F : List Addr}
theorem Own.int_inv {i : Int} (o : Own W H P m v (.int i) F) : v = .int i := by cases o; rfl
theorem Own.str_inv {x : Str} (o : Own W H P m v (.str x) F) : v = .str x := by cases o; rfl
theorem Own.bl_inv {b : Bool} (o : Own W H P m v (.bl b) F) : v = .bl b := by cases o; rfl
theorem Own.non_inv (o : Own W H P m v .non F) : v = .non := by cases o; rfl
end
section
variable {X : Cx} {W : Wd}
/-- a rule about ints -/
theorem says_int {C : Int → Int → Prop} [∀ i j, Decidable (C i j)] {f : Int → Int → Int} {g : D → D → Option D} (h : ∀ x y d, g x y = some d → ∃ i j, x = .int i ∧ y = .int j ∧ C i j ∧ d = .int (f i j)) : Says W (rI C fun i j => .int (f i j)) g := by
  intro x y d H P v u F G Q e o1 o2 k
  obtain ⟨m1, x⟩ := x
  obtain ⟨m2, y⟩ := y
  obtain ⟨i, j, rfl, rfl, c, rfl⟩ := h _ _ _ e
  exact ⟨i, j, o1.int_inv, o2.int_inv, c, k _ fun _ => .int _⟩
theorem says_int0 {f : Int → Int → Int} {g : D → D → Option D} (h : ∀ x y d, g x y = some d → ∃ i j, x = .int i ∧ y = .int j ∧ d = .int (f i j)) : Says W (rI0 fun i j => .int (f i j)) g := by
  intro x y d H P v u F G Q e o1 o2 k
  obtain ⟨m1, x⟩ := x
  obtain ⟨m2, y⟩ := y
  obtain ⟨i, j, rfl, rfl, rfl⟩ := h _ _ _ e
  exact ⟨i, j, o1.int_inv, o2.int_inv, k _ fun _ => .int _⟩
abbrev rAddS : R2 := fun x y H Q => ∃ i j, x = .str i ∧ y = .str j ∧ i.length + j.length ≤ sizeLine ∧ Q (.str (i ++ j)) H
theorem says_add : Says W (fun x y H Q => rI0 (fun i j => .int (i + j)) x y H Q ∨ rAddS x y H Q) gAdd := by
  intro x y d H P v u F G Q e o1 o2 k
  obtain ⟨m1, x⟩ := x
  obtain ⟨m2, y⟩ := y
  cases x <;> cases y <;> simp only [gAdd] at e <;> try cases e
  · exact .inl ⟨_, _, o1.int_inv, o2.int_inv, k _ fun _ => .int _⟩
  · rename_i x y
    split at e
    · rename_i c
      cases e
      exact .inr ⟨x, y, o1.str_inv, o2.str_inv, c, k _ fun _ => .str _⟩
    · cases e
theorem says_sub : Says W (rI0 fun i j => .int (i - j)) gSub := says_int0 fun x y d e => by
  cases x <;> cases y <;> simp only [gSub] at e <;> cases e
  exact ⟨_, _, rfl, rfl, rfl⟩
theorem says_mul : Says W (rI CMul fun i j => .int (i * j)) gMul := says_int fun x y d e => by
  cases x <;> cases y <;> simp only [gMul] at e <;> try cases e
  split at e <;> cases e
  exact ⟨_, _, rfl, rfl, by assumption, rfl⟩
theorem says_div : Says W (rI CDiv fun i j => .int (i / j)) gDiv := says_int fun x y d e => by
  cases x <;> cases y <;> simp only [gDiv] at e <;> try cases e
  split at e <;> cases e
  exact ⟨_, _, rfl, rfl, by assumption, rfl⟩
theorem says_mod : Says W (rI (fun _ j => 0 < j) fun i j => .int (i % j)) gMod := says_int fun x y d e => by
  cases x <;> cases y <;> simp only [gMod] at e <;> try cases e
  split at e <;> cases e
  exact ⟨_, _, rfl, rfl, by assumption, rfl⟩
theorem says_pow : Says W (rI CPow fun i j => .int (i ^ j.toNat)) gPow := says_int fun x y d e => by
  cases x <;> cases y <;> simp only [gPow] at e <;> try cases e
  split at e <;> cases e
  exact ⟨_, _, rfl, rfl, by assumption, rfl⟩
variable {a b : Expr} {pos : Pos} {ma mb : M Val}
theorem ge_add (ha : GE X W a ma) (hb : GE X W b mb) : GE X W (.BinOp a .Add b pos) (mOp2 gAdd ma mb) := ge_op2 (fun _ _ h1 h2 => pe_op (op_add.or op_add_str) h1 h2) says_add ha hb
theorem ge_sub (ha : GE X W a ma) (hb : GE X W b mb) : GE X W (.BinOp a .Sub b pos) (mOp2 gSub ma mb) := ge_op2 (fun _ _ h1 h2 => pe_op op_sub h1 h2) says_sub ha hb
theorem ge_mul (ha : GE X W a ma) (hb : GE X W b mb) : GE X W (.BinOp a .Mult b pos) (mOp2 gMul ma mb) := ge_op2 (fun _ _ h1 h2 => pe_op op_mul h1 h2) says_mul ha hb
theorem ge_div (ha : GE X W a ma) (hb : GE X W b mb) : GE X W (.BinOp a .FloorDiv b pos) (mOp2 gDiv ma mb) := ge_op2 (fun _ _ h1 h2 => pe_op op_fdiv h1 h2) says_div ha hb
theorem ge_mod (ha : GE X W a ma) (hb : GE X W b mb) : GE X W (.BinOp a .Mod b pos) (mOp2 gMod ma mb) := ge_op2 (fun _ _ h1 h2 => pe_op op_mod h1 h2) says_mod ha hb
theorem ge_pow (ha : GE X W a ma) (hb : GE X W b mb) : GE X W (.BinOp a .Pow b pos) (mOp2 gPow ma mb) := ge_op2 (fun _ _ h1 h2 => pe_op op_pow h1 h2) says_pow ha hb
/-- one operand -/
def mOp1 (g : D → Option D) (ma : M Val) : M Val := ma.bind fun x => match g x.2 with
  | some d => M.pure (.all, d)
  | none => M.bad
def Says1 (W : Wd) (r : V → Hp → VK → Prop) (g : D → Option D) : Prop := ∀ (x : Val) (d : D) (H : Hp) (P : Addr → Prop) (v : V) (F : List Addr) (Q : VK), g x.2 = some d → Own W H P x.1 v x.2 F →
  (∀ z, (∀ P', Own W H P' .all z d []) → Q z H) → r v H Q
theorem ge_op1 {e : Expr} {r : V → Hp → VK → Prop} {g : D → Option D} {ma : M Val} (rule : ∀ ta, PE X a ta → PE X e (fun σ H Q => ta σ H fun x H1 => r x H1 Q)) (hr : Says1 W r g) (ha : GE X W a ma) : GE X W e (mOp1 g ma) := fun w tk => by
  refine pe_imp (rule _ (ha w tk)) fun σ H Q h => ?_
  refine rdE_mono (rd_first h) fun v H1 ⟨Z, Fs, Z2, env2, Fs2, x, Fx, p, h2⟩ => ?_
  cases eg : g x.2 with
  | none => rw [eg] at h2; exact h2.elim
  | some d =>
    rw [eg] at h2
    exact hr x d H1 _ v _ Q eg p.own.inv1 fun z oz => p.fin h2 oz
def gNeg : D → Option D
  | .int i => some (.int (-i))
  | _ => none
theorem ge_neg (ha : GE X W a ma) : GE X W (.UnaryOp .USub a pos) (mOp1 gNeg ma) := ge_op1 (fun _ h => pe_un un_neg h) (fun x d H P v F Q e o k => by
  obtain ⟨m, x⟩ := x
  cases x <;> simp only [gNeg] at e <;> cases e
  exact ⟨_, o.int_inv, k _ fun _ => .int _⟩) ha

/-! ### data -/
mutual
def D.py : D → Option PyData
  | .non => some .none
  | .bl b => some (.bool b)
  | .int i => some (.int i)
  | .str x => some (.str x)
  | .tup ds => (pyAll ds).map .tuple
  | .lst ds => (pyAll ds).map .list
  | _ => none
def pyAll : List D → Option (List PyData)
  | [] => some []
  | d :: ds => match d.py, pyAll ds with
    | some x, some xs => some (x :: xs)
    | _, _ => none
end
section
variable {H : Hp} {P : Addr → Prop}
mutual
theorem Own.dp : ∀ {m v d F}, Own W H P m v d F → ∀ {p}, d.py = some p → Dp W.K H v p
  | _, _, _, _, .non, _, e => by simp only [D.py, Option.some.injEq] at e; subst e; exact .non
  | _, _, _, _, .bl b, _, e => by simp only [D.py, Option.some.injEq] at e; subst e; exact .bl b
  | _, _, _, _, .int i, _, e => by simp only [D.py, Option.some.injEq] at e; subst e; exact .int i
  | _, _, _, _, .str x, _, e => by simp only [D.py, Option.some.injEq] at e; subst e; exact .str x
  | _, _, _, _, .tup h t, _, e => by
    simp only [D.py, Option.map_eq_some_iff] at e
    obtain ⟨ps, e, rfl⟩ := e
    exact .tup (SqT.of h) (Owns.dp t e)
  | _, _, _, _, .lstS _ h t, _, e => by
    simp only [D.py, Option.map_eq_some_iff] at e
    obtain ⟨ps, e, rfl⟩ := e
    exact .lst (SqL.of h) (Owns.dp t e)
  | _, _, _, _, .lstO _ h t, _, e => by
    simp only [D.py, Option.map_eq_some_iff] at e
    obtain ⟨ps, e, rfl⟩ := e
    exact .lst (SqL.of h) (Owns.dp t e)
  | _, _, _, _, .ty _, _, e => by simp [D.py] at e
  | _, _, _, _, .glo _, _, e => by simp [D.py] at e
  | _, _, _, _, .dKS .., _, e => by simp [D.py] at e
  | _, _, _, _, .dKO .., _, e => by simp [D.py] at e
  | _, _, _, _, .dTS .., _, e => by simp [D.py] at e
  | _, _, _, _, .dTO .., _, e => by simp [D.py] at e
  | _, _, _, _, .pin .., _, e => by simp [D.py] at e
  | _, _, _, _, .insS .., _, e => by simp [D.py] at e
  | _, _, _, _, .insO .., _, e => by simp [D.py] at e
  | _, _, _, _, .scr .., _, e => by simp [D.py] at e
  | _, _, _, _, .clo .., _, e => by simp [D.py] at e
theorem Owns.dp : ∀ {m vs ds F}, Owns W H P m vs ds F → ∀ {p}, pyAll ds = some p → DpAll W.K H vs p
  | _, _, _, _, .nil, _, e => by simp only [pyAll, Option.some.injEq] at e; subst e; exact .nil
  | _, _, _, _, .cons (d := d) (ds := ds) h t, _, e => by
    simp only [pyAll] at e
    cases e1 : d.py with
    | none => rw [e1] at e; cases e
    | some x =>
      cases e2 : pyAll ds with
      | none => rw [e1, e2] at e; cases e
      | some xs =>
        rw [e1, e2] at e
        cases e
        exact .cons (Own.dp h e1) (Owns.dp t e2)
end
end
def pyS (d : D) : Option PyData := d.py.bind fun p => if SeqAt.shaped p then some p else none
theorem pyS_inv {d : D} {p : PyData} (h : pyS d = some p) : d.py = some p ∧ SeqAt.shaped p = true := by
  unfold pyS at h
  cases e : d.py with
  | none => rw [e] at h; cases h
  | some q =>
    rw [e] at h
    simp only [Option.bind_some] at h
    split at h
    · rename_i c
      cases h
      exact ⟨rfl, c⟩
    · cases h
def gEq (x y : D) : Option D := match pyS x, pyS y with
  | some p, some q => some (.bl (PyData.eqv p q))
  | _, _ => none
def gNe (x y : D) : Option D := match pyS x, pyS y with
  | some p, some q => some (.bl (!PyData.eqv p q))
  | _, _ => none
theorem says_eq : Says W (rEqD W.K) gEq := by
  intro x y d H P v u F G Q e o1 o2 k
  simp only [gEq] at e
  cases e1 : pyS x.2 with
  | none => rw [e1] at e; cases e
  | some p =>
    cases e2 : pyS y.2 with
    | none => rw [e1, e2] at e; cases e
    | some q =>
      rw [e1, e2] at e
      cases e
      obtain ⟨a1, a2⟩ := pyS_inv e1
      obtain ⟨b1, b2⟩ := pyS_inv e2
      exact ⟨p, q, o1.dp a1, o2.dp b1, a2, b2, k _ fun _ => .bl _⟩
theorem says_ne : Says W (rNeD W.K) gNe := by
  intro x y d H P v u F G Q e o1 o2 k
  simp only [gNe] at e
  cases e1 : pyS x.2 with
  | none => rw [e1] at e; cases e
  | some p =>
    cases e2 : pyS y.2 with
    | none => rw [e1, e2] at e; cases e
    | some q =>
      rw [e1, e2] at e
      cases e
      obtain ⟨a1, a2⟩ := pyS_inv e1
      obtain ⟨b1, b2⟩ := pyS_inv e2
      exact ⟨p, q, o1.dp a1, o2.dp b1, a2, b2, k _ fun _ => .bl _⟩
def gCmp (f : Int → Int → Bool) : D → D → Option D
  | .int i, .int j => some (.bl (f i j))
  | _, _ => none
theorem says_cmp {f : Int → Int → Bool} : Says W (rI0 fun i j => .bl (f i j)) (gCmp f) := by
  intro x y d H P v u F G Q e o1 o2 k
  obtain ⟨m1, x⟩ := x
  obtain ⟨m2, y⟩ := y
  cases x <;> cases y <;> simp only [gCmp] at e <;> cases e
  exact ⟨_, _, o1.int_inv, o2.int_inv, k _ fun _ => .bl _⟩
variable {a b : Expr} {pos : Pos} {ma mb : M Val}
theorem ge_cmp {op : CmpOp} {r : R2} {g : D → D → Option D} (ho : OpR X (compareOp op) r) (hr : Says W r g) (hm : behindInMarks op b = false) (ha : GE X W a ma) (hb : GE X W b mb) : GE X W (.Compare a [op] [b] pos) (mOp2 g ma mb) :=
  ge_op2 (fun _ _ h1 h2 => pe_cmpR ho h1 h2 hm) hr ha hb
def gOr (g g' : D → D → Option D) : D → D → Option D := fun x y => match g x y with
  | some d => some d
  | none => g' x y
theorem Says.or {r r' : R2} {g g' : D → D → Option D} (h : Says W r g) (h' : Says W r' g') : Says W (fun x y H Q => r x y H Q ∨ r' x y H Q) (gOr g g') := by
  intro x y d H P v u F G Q e o1 o2 k
  simp only [gOr] at e
  cases eg : g x.2 y.2 with
  | none => rw [eg] at e; exact .inr (h' x y d H P v u F G Q e o1 o2 k)
  | some d' => rw [eg] at e; cases e; exact .inl (h x y d H P v u F G Q eg o1 o2 k)
def gCmpS (f : Str → Str → Bool) : D → D → Option D
  | .str i, .str j => some (.bl (f i j))
  | _, _ => none
theorem says_cmpS {f : Str → Str → Bool} : Says W (fun x y H Q => ∃ i j, x = .str i ∧ y = .str j ∧ Q (.bl (f i j)) H) (gCmpS f) := by
  intro x y d H P v u F G Q e o1 o2 k
  obtain ⟨m1, x⟩ := x
  obtain ⟨m2, y⟩ := y
  cases x <;> cases y <;> simp only [gCmpS] at e <;> cases e
  exact ⟨_, _, o1.str_inv, o2.str_inv, k _ fun _ => .bl _⟩
def strLt (x y : Str) : Bool := decide (x.cps.toList < y.cps.toList)
def gLt := gOr (gCmp fun i j => decide (i < j)) (gCmpS fun x y => strLt x y)
def gLe := gOr (gCmp fun i j => decide (i ≤ j)) (gCmpS fun x y => !strLt y x)
def gGt := gOr (gCmp fun i j => decide (j < i)) (gCmpS fun x y => strLt y x)
def gGe := gOr (gCmp fun i j => decide (j ≤ i)) (gCmpS fun x y => !strLt x y)
theorem ge_lt (ha : GE X W a ma) (hb : GE X W b mb) : GE X W (.Compare a [.Lt] [b] pos) (mOp2 gLt ma mb) := ge_cmp (op_lt.or op_lt_str) (says_cmp.or says_cmpS) (nomark _) ha hb
theorem ge_le (ha : GE X W a ma) (hb : GE X W b mb) : GE X W (.Compare a [.LtE] [b] pos) (mOp2 gLe ma mb) := ge_cmp (op_le.or op_le_str) (says_cmp.or says_cmpS) (nomark _) ha hb
theorem ge_gt (ha : GE X W a ma) (hb : GE X W b mb) : GE X W (.Compare a [.Gt] [b] pos) (mOp2 gGt ma mb) := ge_cmp (op_gt.or op_gt_str) (says_cmp.or says_cmpS) (nomark _) ha hb
theorem ge_ge (ha : GE X W a ma) (hb : GE X W b mb) : GE X W (.Compare a [.GtE] [b] pos) (mOp2 gGe ma mb) := ge_cmp (op_ge.or op_ge_str) (says_cmp.or says_cmpS) (nomark _) ha hb
theorem ge_eq (hK : W.K = X.K) (hu : X.A.units + 64 < cLine) (ha : GE X W a ma) (hb : GE X W b mb) : GE X W (.Compare a [.Eq] [b] pos) (mOp2 gEq ma mb) := ge_cmp (by rw [hK]; exact op_eqD hu) says_eq (nomark _) ha hb
theorem ge_ne (hK : W.K = X.K) (hu : X.A.units + 64 < cLine) (ha : GE X W a ma) (hb : GE X W b mb) : GE X W (.Compare a [.NotEq] [b] pos) (mOp2 gNe ma mb) := ge_cmp (by rw [hK]; exact op_neD hu) says_ne (nomark _) ha hb
/-- is None, is of types -/
def gIs (neg : Bool) : D → D → Option D
  | .ty m, .ty n => some (.bl (if neg then !decide (m = n) else decide (m = n)))
  | .non, .non => some (.bl (!neg))
  | _, .non => some (.bl neg)
  | _, _ => none
theorem is_non {H : Hp} {P : Addr → Prop} {m : Mode} {v : V} {d : D} {F : List Addr} (o : Own W H P m v d F) (h : d ≠ .non) : decide (v = V.non) = false := by
  cases o <;> first | exact absurd rfl h | exact decide_eq_false (fun z => nomatch z)
theorem says_is : Says W (fun x y H Q => (∃ m n, x = .ty m ∧ y = .ty n ∧ Q (.bl (decide (m = n))) H) ∨ (y = .non ∧ Q (.bl (decide (x = .non))) H)) (gIs false) := by
  intro x y d H P v u F G Q e o1 o2 k
  obtain ⟨m1, x⟩ := x
  obtain ⟨m2, y⟩ := y
  cases y with
  | non =>
    refine .inr ⟨o2.non_inv, ?_⟩
    cases x with
    | non => simp only [gIs, Option.some.injEq] at e; subst e; rw [o1.non_inv]; exact k _ fun _ => .bl _
    | _ => simp only [gIs, Option.some.injEq] at e; subst e; rw [is_non o1 (fun z => nomatch z)]; exact k _ fun _ => .bl _
  | ty n =>
    cases x with
    | ty m =>
      simp only [gIs, Option.some.injEq] at e; subst e
      cases o1; cases o2
      exact .inl ⟨_, _, rfl, rfl, k _ fun _ => .bl _⟩
    | _ => simp only [gIs] at e; cases e
  | _ => cases x <;> simp only [gIs] at e <;> cases e
theorem says_isnot : Says W (fun x y H Q => (∃ m n, x = .ty m ∧ y = .ty n ∧ Q (.bl (!decide (m = n))) H) ∨ (y = .non ∧ Q (.bl (!decide (x = .non))) H)) (gIs true) := by
  intro x y d H P v u F G Q e o1 o2 k
  obtain ⟨m1, x⟩ := x
  obtain ⟨m2, y⟩ := y
  cases y with
  | non =>
    refine .inr ⟨o2.non_inv, ?_⟩
    cases x with
    | non => simp only [gIs, Option.some.injEq] at e; subst e; rw [o1.non_inv]; exact k _ fun _ => .bl _
    | _ => simp only [gIs, Option.some.injEq] at e; subst e; rw [is_non o1 (fun z => nomatch z)]; exact k _ fun _ => .bl _
  | ty n =>
    cases x with
    | ty m =>
      simp only [gIs, Option.some.injEq] at e; subst e
      cases o1; cases o2
      exact .inl ⟨_, _, rfl, rfl, k _ fun _ => .bl _⟩
    | _ => simp only [gIs] at e; cases e
  | _ => cases x <;> simp only [gIs] at e <;> cases e
theorem ge_is (ha : GE X W a ma) (hb : GE X W b mb) : GE X W (.Compare a [.Is] [b] pos) (mOp2 (gIs false) ma mb) := ge_cmp (op_isTy.or op_isN) says_is (nomark _) ha hb
theorem ge_isnot (ha : GE X W a ma) (hb : GE X W b mb) : GE X W (.Compare a [.IsNot] [b] pos) (mOp2 (gIs true) ma mb) := ge_cmp (op_isNotTy.or op_notN) says_isnot (nomark _) ha hb
end
end BV
set_option maxHeartbeats 2000000
/-! BV6: tests; and, or, not, if as values. -/
namespace BV
open PySem PySem.Spec PyProof.Rows L2

def FinT (W : Wd) (w : WX) (σ : L2.St) (H : Hp) (Z : Addr → Prop) (Fs : Nat → List Addr) (o : Out Bool) (Q : Bool → Hp → Prop) : Prop := match o with
  | .ok b env' => ∀ H' Z' Fs', PostL W H Z Fs σ H' Z' env' Fs' [] [] [] → Q b H'
  | .exc c fs env' => ∀ H' Z' Fs' cls dd, PostX W H Z Fs σ H' Z' env' Fs' c fs cls dd → w cls dd σ H'
  | .bad => False
def rdT (W : Wd) (w : WX) (m : M Bool) : TT := fun σ H Q => ∃ Z env Fs, Sim W H Z σ env Fs ∧ FinT W w σ H Z Fs (m env) Q
def GT (X : Cx) (W : Wd) (e : Expr) (m : M Bool) : Prop := ∀ w, Takes X w → PT X e (rdT W w m)
def GW (X : Cx) (W : Wd) (e : Expr) (m : M Bool) : Prop := ∀ w, Takes X w → PW X e (rdT W w m)
theorem pt_imp {X : Cx} {e : Expr} {t t' : TT} (p : PT X e t) (h : ∀ σ H Q, t' σ H Q → t σ H Q) : PT X e t' := ⟨fun pins s σ H Q I k => p.run pins s σ H Q I (h σ H Q k)⟩
theorem pw_imp {X : Cx} {e : Expr} {t t' : TT} (p : PW X e t) (h : ∀ σ H Q, t' σ H Q → t σ H Q) : PW X e t' := ⟨fun wh pins s σ H Q I k => p.run wh pins s σ H Q I (h σ H Q k)⟩

section
variable {W : Wd} {w : WX} {σ : L2.St} {H H1 H2 : Hp} {Z Z1 Z2 : Addr → Prop} {Fs Fs1 Fs2 : Nat → List Addr} {env env1 : Env} {xs ys : List Val} {vs us : List V} {F G Fx : List Addr} {x : Val} {v : V}

theorem FinT.mono {o : Out Bool} {Q Q' : Bool → Hp → Prop} (h : FinT W w σ H Z Fs o Q) (hQ : ∀ v H, Q v H → Q' v H) : FinT W w σ H Z Fs o Q' := by
  cases o with
  | ok x e => exact fun H' Z' Fs' p => hQ _ _ (h H' Z' Fs' p)
  | exc c fs e => exact h
  | bad => exact h
theorem rdT_mono {m : M Bool} {Q Q' : Bool → Hp → Prop} (h : rdT W w m σ H Q) (hQ : ∀ v H, Q v H → Q' v H) : rdT W w m σ H Q' :=
  let ⟨Z, env, Fs, S, h⟩ := h
  ⟨Z, env, Fs, S, FinT.mono h hQ⟩
theorem Out.bind_ok {α β : Type} {a : α} {e : Env} {f : α → M β} : (Out.ok a e).bind f = f a e := rfl

/-- a test, then more of an expression -/
theorem rd_test {mt : M Bool} {k : Bool → M Val} {Q : VK} (p : PostL W H Z Fs σ H1 Z1 env Fs1 xs vs F) (h : Fin W w σ H Z Fs ((mt.bind k) env) Q) :
    rdT W w mt σ H1 fun b H2 => ∃ Z2 env2 Fs2, PostL W H Z Fs σ H2 Z2 env2 Fs2 xs vs F ∧ Fin W w σ H Z Fs (k b env2) Q := by
  refine ⟨Z1, env, Fs1, p.sim, ?_⟩
  have h : Fin W w σ H Z Fs ((mt env).bind k) Q := h
  cases e : mt env with
  | ok b e2 =>
    rw [e] at h
    intro H' Z' Fs' q
    have := p.append q
    simp only [List.append_nil] at this
    exact ⟨Z', e2, Fs', this, h⟩
  | exc c fs e2 =>
    rw [e] at h
    exact fun H' Z' Fs' cls dd q => h H' Z' Fs' cls dd (p.raise q)
  | bad =>
    rw [e] at h
    exact h
/-- an expression, then more of a test -/
theorem rt_more {ma : M Val} {k : Val → M Bool} {Q : Bool → Hp → Prop} (p : PostL W H Z Fs σ H1 Z1 env Fs1 xs vs F) (h : FinT W w σ H Z Fs ((ma.bind k) env) Q) :
    rdE W w ma σ H1 fun v H2 => ∃ Z2 env2 Fs2 y Fy, PostL W H Z Fs σ H2 Z2 env2 Fs2 (xs ++ [y]) (vs ++ [v]) (F ++ Fy) ∧ FinT W w σ H Z Fs (k y env2) Q := by
  refine ⟨Z1, env, Fs1, p.sim, ?_⟩
  have h : FinT W w σ H Z Fs ((ma env).bind k) Q := h
  cases e : ma env with
  | ok y e2 =>
    rw [e] at h
    exact fun H' Z' Fs' v Fx q => ⟨Z', e2, Fs', y, Fx, p.snoc q, h⟩
  | exc c fs e2 =>
    rw [e] at h
    exact fun H' Z' Fs' cls dd q => h H' Z' Fs' cls dd (p.raise q)
  | bad =>
    rw [e] at h
    exact h
/-- a test, then more of a test -/
theorem rt_test {mt : M Bool} {k : Bool → M Bool} {Q : Bool → Hp → Prop} (p : PostL W H Z Fs σ H1 Z1 env Fs1 [] [] []) (h : FinT W w σ H Z Fs ((mt.bind k) env) Q) :
    rdT W w mt σ H1 fun b H2 => ∃ Z2 env2 Fs2, PostL W H Z Fs σ H2 Z2 env2 Fs2 [] [] [] ∧ FinT W w σ H Z Fs (k b env2) Q := by
  refine ⟨Z1, env, Fs1, p.sim, ?_⟩
  have h : FinT W w σ H Z Fs ((mt env).bind k) Q := h
  cases e : mt env with
  | ok b e2 =>
    rw [e] at h
    exact fun H' Z' Fs' q => ⟨Z', e2, Fs', p.append q, h⟩
  | exc c fs e2 =>
    rw [e] at h
    exact fun H' Z' Fs' cls dd q => h H' Z' Fs' cls dd (p.raise q)
  | bad =>
    rw [e] at h
    exact h
/-- the rest of a test is run from here -/
theorem rt_go {m : M Bool} {Q : Bool → Hp → Prop} (p : PostL W H Z Fs σ H1 Z1 env Fs1 [] [] []) (h : FinT W w σ H Z Fs (m env) Q) : rdT W w m σ H1 Q := by
  refine ⟨Z1, env, Fs1, p.sim, ?_⟩
  cases e : m env with
  | ok b e2 =>
    rw [e] at h
    exact fun H' Z' Fs' q => h H' Z' Fs' (p.append q)
  | exc c fs e2 =>
    rw [e] at h
    exact fun H' Z' Fs' cls dd q => h H' Z' Fs' cls dd (p.raise q)
  | bad =>
    rw [e] at h
    exact h
/-- the rest of an expression is run from here -/
theorem rd_go {m : M Val} {Q : VK} (p : PostL W H Z Fs σ H1 Z1 env Fs1 [] [] []) (h : Fin W w σ H Z Fs (m env) Q) : rdE W w m σ H1 Q := by
  refine ⟨Z1, env, Fs1, p.sim, ?_⟩
  cases e : m env with
  | ok b e2 =>
    rw [e] at h
    intro H' Z' Fs' v Fx q
    have := (p.snoc q).one
    simp only [List.nil_append] at this
    exact h H' Z' Fs' v Fx this
  | exc c fs e2 =>
    rw [e] at h
    exact fun H' Z' Fs' cls dd q => h H' Z' Fs' cls dd (p.raise q)
  | bad =>
    rw [e] at h
    exact h
end

/-! ### truth -/
def D.tru : D → Option Bool
  | .non => some false
  | .bl b => some b
  | .int i => some (i != 0)
  | .str x => if x.length ≤ sizeLine then some ((x.length : Int) != 0) else none
  | .tup xs => some !xs.isEmpty
  | .lst xs => some !xs.isEmpty
  | _ => none
def mTru (ma : M Val) : M Bool := ma.bind fun x => match x.2.tru with
  | some b => M.pure b
  | none => M.bad
section
variable {X : Cx} {W : Wd} {H : Hp} {P : Addr → Prop}
theorem Owns.isEmpty {m : Mode} {vs : List V} {ds : List D} {F : List Addr} (h : Owns W H P m vs ds F) : vs.isEmpty = ds.isEmpty := by cases h <;> rfl
theorem Own.tru {K : PySem.W.Frag} {m : Mode} {v : V} {d : D} {F : List Addr} {b : Bool} (o : Own W H P m v d F) (h : d.tru = some b) : TruV K v H b := by
  cases o with
  | non => simp only [D.tru, Option.some.injEq] at h; exact h.symm
  | bl k => simp only [D.tru, Option.some.injEq] at h; exact h.symm
  | int i => simp only [D.tru, Option.some.injEq] at h; exact h.symm
  | str x =>
    simp only [D.tru] at h
    split at h
    · rename_i c
      simp only [Option.some.injEq] at h
      exact ⟨c, h.symm⟩
    · cases h
  | tup e t =>
    simp only [D.tru, Option.some.injEq] at h
    exact .inr (.inl ⟨_, SqT.of e, by rw [← h, t.isEmpty]⟩)
  | lstS _ e t =>
    simp only [D.tru, Option.some.injEq] at h
    exact .inl ⟨_, SqL.of e, by rw [← h, t.isEmpty]⟩
  | lstO _ e t =>
    simp only [D.tru, Option.some.injEq] at h
    exact .inl ⟨_, SqL.of e, by rw [← h, t.isEmpty]⟩
  | _ => simp only [D.tru] at h; cases h
variable {a b : Expr} {pos : Pos} {ma mb : M Val} {mt mu : M Bool} {rest : List Expr}
/-- an expression's truth as a test (he: by fun _ => rfl) -/
theorem gt_tru (ha : GE X W a ma) (he : ∀ whole, isTrue a X.env whole = (do let v ← whole; standAt a.pos; holding [v] (truthy v))) : GT X W a (mTru ma) := fun w tk => by
  refine pt_imp (pt_truth (ha w tk) he) fun σ H Q h => ?_
  obtain ⟨Z, env, Fs, S, h⟩ := h
  refine rdE_mono (rt_more (PostL.start S) h) fun v H1 ⟨Z2, env2, Fs2, x, Fx, p, h2⟩ => ?_
  cases e : x.2.tru with
  | none => rw [e] at h2; exact h2.elim
  | some b =>
    rw [e] at h2
    exact ⟨b, p.own.inv1.tru e, h2 _ _ _ p.drop⟩
/-- a comparison as a test -/
def mBl (ma : M Val) : M Bool := ma.bind fun x => match x.2 with
  | .bl b => M.pure b
  | _ => M.bad
theorem gt_cmp {op : CmpOp} {r : R2} {g : D → D → Option D} (ho : OpR X (compareOp op) r) (hr : Says W r g) (hm : behindInMarks op b = false) (ha : GE X W a ma) (hb : GE X W b mb) : GT X W (.Compare a [op] [b] pos) (mBl (mOp2 g ma mb)) := fun w tk => by
  refine pt_imp (pt_cmpR ho (ha w tk) (hb w tk) hm) fun σ H Q h => ?_
  obtain ⟨Z, env, Fs, S, h⟩ := h
  have h1 := rt_more (PostL.start S) h
  refine rdE_mono (rd_first h1) fun v H1 ⟨Z, Fs, Z2, env2, Fs2, x, Fx, p, h2⟩ => ?_
  refine rdE_mono (rd_more p h2) fun u H2 ⟨Z3, e3, Fs3, y, Fy, p2, h3⟩ => ?_
  cases eg : g x.2 y.2 with
  | none => rw [eg] at h3; exact h3.elim
  | some d =>
    rw [eg] at h3
    obtain ⟨F1, F2, _, o1, o2⟩ := p2.own.inv2
    refine hr x y d H2 _ v u _ _ _ eg o1 o2 fun z oz => ?_
    obtain ⟨Z4, e4, Fs4, x4, F4, p4, h4⟩ := p2.fin h3 oz
    obtain ⟨m4, d4⟩ := x4
    have o4 := p4.own.inv1
    cases d4 with
    | bl b =>
      exact ⟨b, o4.bl_inv, h4 _ _ _ p4.drop⟩
    | _ => exact h4.elim
def mNotT (mt : M Bool) : M Bool := mt.bind fun b => M.pure !b
theorem gt_not (ha : GT X W a mt) : GT X W (.UnaryOp .Not a pos) (mNotT mt) := fun w tk => by
  refine pt_imp (pt_not (ha w tk)) fun σ H Q h => ?_
  obtain ⟨Z, env, Fs, S, h⟩ := h
  exact rdT_mono (rt_test (PostL.start S) h) fun b H1 ⟨Z2, env2, Fs2, p, h2⟩ => h2 _ _ _ p
def mAndT (mt mu : M Bool) : M Bool := mt.bind fun b => if b then mu else M.pure false
def mOrT (mt mu : M Bool) : M Bool := mt.bind fun b => if b then M.pure true else mu
theorem gw_and1 (ha : GT X W a mt) : GW X W (.BoolOp .And [a] pos) mt := fun w tk => pw_and1 (ha w tk)
theorem gw_or1 (ha : GT X W a mt) : GW X W (.BoolOp .Or [a] pos) mt := fun w tk => pw_or1 (ha w tk)
theorem gw_and (ha : GT X W a mt) (hb : GW X W (.BoolOp .And (b :: rest) pos) mu) : GW X W (.BoolOp .And (a :: b :: rest) pos) (mAndT mt mu) := fun w tk => by
  refine pw_imp (pw_and (ha w tk) (hb w tk)) fun σ H Q h => ?_
  obtain ⟨Z, env, Fs, S, h⟩ := h
  refine rdT_mono (rt_test (PostL.start S) h) fun c H1 ⟨Z2, env2, Fs2, p, h2⟩ => ?_
  cases c with
  | true => exact rt_go p h2
  | false => exact h2 _ _ _ p
theorem gw_or (ha : GT X W a mt) (hb : GW X W (.BoolOp .Or (b :: rest) pos) mu) : GW X W (.BoolOp .Or (a :: b :: rest) pos) (mOrT mt mu) := fun w tk => by
  refine pw_imp (pw_or (ha w tk) (hb w tk)) fun σ H Q h => ?_
  obtain ⟨Z, env, Fs, S, h⟩ := h
  refine rdT_mono (rt_test (PostL.start S) h) fun c H1 ⟨Z2, env2, Fs2, p, h2⟩ => ?_
  cases c with
  | true => exact h2 _ _ _ p
  | false => exact rt_go p h2
theorem GW.gt {e : Expr} {m : M Bool} (h : GW X W e m) : GT X W e m := fun w tk => (h w tk).pt
/-! as values -/
def mIf (mt : M Bool) (ma mb : M Val) : M Val := mt.bind fun b => if b then ma else mb
theorem ge_if {c : Expr} (hc : GT X W c mt) (ha : GE X W a ma) (hb : GE X W b mb) : GE X W (.IfExp c a b pos) (mIf mt ma mb) := fun w tk => by
  refine pe_imp (pe_ifExp (hc w tk) (ha w tk) (hb w tk)) fun σ H Q h => ?_
  obtain ⟨Z, env, Fs, S, h⟩ := h
  refine rdT_mono (rd_test (PostL.start S) h) fun c H1 ⟨Z2, env2, Fs2, p, h2⟩ => ?_
  cases c with
  | true => exact rd_go p h2
  | false => exact rd_go p h2
def mAnd (ma mb : M Val) : M Val := ma.bind fun x => match x.2.tru with
  | some b => if b then mb else M.pure x
  | none => M.bad
def mOr (ma mb : M Val) : M Val := ma.bind fun x => match x.2.tru with
  | some b => if b then M.pure x else mb
  | none => M.bad
theorem ge_one {op} (h : GE X W a ma) : GE X W (.BoolOp op [a] pos) ma := fun w tk => pe_one (h w tk)
theorem ge_and (ha : GE X W a ma) (hb : GE X W (.BoolOp .And (b :: rest) pos) mb) : GE X W (.BoolOp .And (a :: b :: rest) pos) (mAnd ma mb) := fun w tk => by
  refine pe_imp (pe_andT (ha w tk) (hb w tk)) fun σ H Q h => ?_
  refine rdE_mono (rd_first h) fun v H1 ⟨Z, Fs, Z2, env2, Fs2, x, Fx, p, h2⟩ => ?_
  cases e : x.2.tru with
  | none => rw [e] at h2; exact h2.elim
  | some b =>
    rw [e] at h2
    refine ⟨b, p.own.inv1.tru e, ?_⟩
    cases b with
    | true => exact rd_go p.drop h2
    | false => exact h2 _ _ _ _ _ p.one
theorem ge_or (ha : GE X W a ma) (hb : GE X W (.BoolOp .Or (b :: rest) pos) mb) : GE X W (.BoolOp .Or (a :: b :: rest) pos) (mOr ma mb) := fun w tk => by
  refine pe_imp (pe_orT (ha w tk) (hb w tk)) fun σ H Q h => ?_
  refine rdE_mono (rd_first h) fun v H1 ⟨Z, Fs, Z2, env2, Fs2, x, Fx, p, h2⟩ => ?_
  cases e : x.2.tru with
  | none => rw [e] at h2; exact h2.elim
  | some b =>
    rw [e] at h2
    refine ⟨b, p.own.inv1.tru e, ?_⟩
    cases b with
    | true => exact h2 _ _ _ _ _ p.one
    | false => exact rd_go p.drop h2
def mNot (ma : M Val) : M Val := ma.bind fun x => match x.2.tru with
  | some b => M.pure (.all, .bl !b)
  | none => M.bad
theorem ge_not (ha : GE X W a ma) : GE X W (.UnaryOp .Not a pos) (mNot ma) := fun w tk => by
  refine pe_imp (pe_notT (ha w tk)) fun σ H Q h => ?_
  refine rdE_mono (rd_first h) fun v H1 ⟨Z, Fs, Z2, env2, Fs2, x, Fx, p, h2⟩ => ?_
  cases e : x.2.tru with
  | none => rw [e] at h2; exact h2.elim
  | some b =>
    rw [e] at h2
    exact ⟨b, p.own.inv1.tru e, p.fin h2 fun _ => .bl _⟩
end
end BV
set_option maxHeartbeats 2000000
/-! BV7: statements. -/
namespace BV
open PySem PySem.Spec PyProof.Rows L2

inductive Fl where
  | nx | rt (x : Val) | bk | ct

/-- behind a statement; mp: the slots that keep what they hold (parameters that are lent) -/
structure PostS (W : Wd) (mp : List Nat) (σ : L2.St) (H : Hp) (Z : Addr → Prop) (Fs : Nat → List Addr) (σ' : L2.St) (H' : Hp) (Z' : Addr → Prop) (env' : Env) (Fs' : Nat → List Addr) : Prop where
  st : Step W H Z Fs H' Z' Fs' []
  sim : Sim W H' Z' σ' env' Fs'
  zd : ∀ a, Z a → H a ≠ none
  kp : ∀ i ∈ mp, σ'[i]? = σ[i]?
/-- behind return x -/
structure PostR (W : Wd) (mp : List Nat) (σ : L2.St) (H : Hp) (Z : Addr → Prop) (Fs : Nat → List Addr) (σ' : L2.St) (H' : Hp) (Z' : Addr → Prop) (env' : Env) (Fs' : Nat → List Addr) (x : Val) (v : V) (Fx : List Addr) : Prop where
  st : Step W H Z Fs H' Z' Fs' Fx
  sim : Sim W H' Z' σ' env' Fs'
  pd : Pend W H' Z' Fs' x v Fx
  kp : ∀ i ∈ mp, σ'[i]? = σ[i]?
/-- behind a raise -/
structure PostXS (W : Wd) (mp : List Nat) (σ : L2.St) (H : Hp) (Z : Addr → Prop) (Fs : Nat → List Addr) (σ' : L2.St) (H' : Hp) (Z' : Addr → Prop) (env' : Env) (Fs' : Nat → List Addr) (c : Str) (fs : List (Str × D)) (cls : Value) (dd : Option Addr) : Prop where
  px : PostX W H Z Fs σ' H' Z' env' Fs' c fs cls dd
  kp : ∀ i ∈ mp, σ'[i]? = σ[i]?

def FinS (W : Wd) (w : WX) (mp : List Nat) (σ : L2.St) (H : Hp) (Z : Addr → Prop) (Fs : Nat → List Addr) (o : Out Fl) (D : Ends) : Prop := match o with
  | .ok fl env' => (match fl with
    | .nx => ∀ σ' H' Z' Fs', PostS W mp σ H Z Fs σ' H' Z' env' Fs' → D.nx σ' H'
    | .bk => ∀ σ' H' Z' Fs', PostS W mp σ H Z Fs σ' H' Z' env' Fs' → D.bk σ' H'
    | .ct => ∀ σ' H' Z' Fs', PostS W mp σ H Z Fs σ' H' Z' env' Fs' → D.ct σ' H'
    | .rt x => ∀ σ' H' Z' Fs' v Fx, PostR W mp σ H Z Fs σ' H' Z' env' Fs' x v Fx → D.rt v H')
  | .exc c fs env' => ∀ σ' H' Z' Fs' cls dd, PostXS W mp σ H Z Fs σ' H' Z' env' Fs' c fs cls dd → w cls dd σ' H'
  | .bad => False
def rdS (W : Wd) (w : WX) (mp : List Nat) (m : M Fl) : TS := fun D σ H => ∃ Z env Fs, Sim W H Z σ env Fs ∧ FinS W w mp σ H Z Fs (m env) D
def GS (X : Cx) (W : Wd) (mp : List Nat) (st : Stmt) (m : M Fl) : Prop := ∀ w, Takes X w → PS X st (rdS W w mp m)
def GB (X : Cx) (W : Wd) (mp : List Nat) (st : List Stmt) (m : M Fl) : Prop := ∀ w, Takes X w → PSs X st (rdS W w mp m)
theorem ps_imp {X : Cx} {st : Stmt} {t t' : TS} (p : PS X st t) (h : ∀ D σ H, t' D σ H → t D σ H) : PS X st t' := ⟨fun pins s σ H D I k => p.run pins s σ H D I (h D σ H k)⟩
theorem pss_imp {X : Cx} {st : List Stmt} {t t' : TS} (p : PSs X st t) (h : ∀ D σ H, t' D σ H → t D σ H) : PSs X st t' := ⟨fun pins s σ H D I k => p.run pins s σ H D I (h D σ H k)⟩

section
variable {W : Wd} {w : WX} {mp : List Nat} {σ σ1 σ2 : L2.St} {H H1 H2 : Hp} {Z Z1 Z2 : Addr → Prop} {Fs Fs1 Fs2 : Nat → List Addr} {env env1 env2 : Env} {x : Val} {v : V} {Fx : List Addr}

theorem PostS.start (S : Sim W H Z σ env Fs) : PostS W mp σ H Z Fs σ H Z env Fs := ⟨Step.refl, S, S.zdom, fun _ _ => rfl⟩
theorem PostS.trans (p : PostS W mp σ H Z Fs σ1 H1 Z1 env1 Fs1) (q : PostS W mp σ1 H1 Z1 Fs1 σ2 H2 Z2 env2 Fs2) : PostS W mp σ H Z Fs σ2 H2 Z2 env2 Fs2 :=
  ⟨p.st.seq p.zd q.st, q.sim, p.zd, fun i hi => (q.kp i hi).trans (p.kp i hi)⟩
theorem PostS.ret (p : PostS W mp σ H Z Fs σ1 H1 Z1 env1 Fs1) (q : PostR W mp σ1 H1 Z1 Fs1 σ2 H2 Z2 env2 Fs2 x v Fx) : PostR W mp σ H Z Fs σ2 H2 Z2 env2 Fs2 x v Fx :=
  ⟨by have := p.st.seq p.zd q.st; simpa using this, q.sim, q.pd, fun i hi => (q.kp i hi).trans (p.kp i hi)⟩
theorem PostS.exc {c : Str} {fs : List (Str × D)} {cls : Value} {dd : Option Addr} (p : PostS W mp σ H Z Fs σ1 H1 Z1 env1 Fs1) (q : PostXS W mp σ1 H1 Z1 Fs1 σ2 H2 Z2 env2 Fs2 c fs cls dd) : PostXS W mp σ H Z Fs σ2 H2 Z2 env2 Fs2 c fs cls dd :=
  ⟨⟨by have := p.st.seq p.zd q.px.st; simpa using this, q.px.sim, q.px.cls, q.px.fld⟩, fun i hi => (q.kp i hi).trans (p.kp i hi)⟩
/-- an expression within a statement -/
theorem PostL.toS (p : PostL W H Z Fs σ H1 Z1 env1 Fs1 [] [] []) : PostS W mp σ H Z Fs σ H1 Z1 env1 Fs1 := ⟨p.st, p.sim, p.zd, fun _ _ => rfl⟩
theorem PostX.toS {c : Str} {fs : List (Str × D)} {cls : Value} {dd : Option Addr} (p : PostX W H Z Fs σ H1 Z1 env1 Fs1 c fs cls dd) : PostXS W mp σ H Z Fs σ H1 Z1 env1 Fs1 c fs cls dd := ⟨p, fun _ _ => rfl⟩

/-- the rest from here -/
theorem FinS.go {o : Out Fl} {D : Ends} (p : PostS W mp σ H Z Fs σ1 H1 Z1 env1 Fs1) (h : FinS W w mp σ H Z Fs o D) : FinS W w mp σ1 H1 Z1 Fs1 o D := by
  cases o with
  | ok fl e =>
    cases fl with
    | nx => exact fun σ' H' Z' Fs' q => h σ' H' Z' Fs' (p.trans q)
    | bk => exact fun σ' H' Z' Fs' q => h σ' H' Z' Fs' (p.trans q)
    | ct => exact fun σ' H' Z' Fs' q => h σ' H' Z' Fs' (p.trans q)
    | rt x => exact fun σ' H' Z' Fs' v Fx q => h σ' H' Z' Fs' v Fx (p.ret q)
  | exc c fs e => exact fun σ' H' Z' Fs' cls dd q => h σ' H' Z' Fs' cls dd (p.exc q)
  | bad => exact h
theorem rs_go {m : M Fl} {D : Ends} (p : PostS W mp σ H Z Fs σ1 H1 Z1 env1 Fs1) (h : FinS W w mp σ H Z Fs (m env1) D) : rdS W w mp m D σ1 H1 := ⟨Z1, env1, Fs1, p.sim, h.go p⟩

def mThen (m1 m2 : M Fl) : M Fl := m1.bind fun fl => match fl with
  | .nx => m2
  | fl => M.pure fl
/-- one statement, then the others -/
theorem FinS.then {m2 : M Fl} {o : Out Fl} {D : Ends} (p : PostS W mp σ H Z Fs σ1 H1 Z1 env1 Fs1) (h : FinS W w mp σ H Z Fs (o.bind fun fl => match fl with
  | .nx => m2
  | fl => M.pure fl) D) : FinS W w mp σ1 H1 Z1 Fs1 o { D with nx := rdS W w mp m2 D } := by
  cases o with
  | ok fl e =>
    cases fl with
    | nx => exact fun σ' H' Z' Fs' q => rs_go (p.trans q) h
    | bk => exact fun σ' H' Z' Fs' q => h σ' H' Z' Fs' (p.trans q)
    | ct => exact fun σ' H' Z' Fs' q => h σ' H' Z' Fs' (p.trans q)
    | rt x => exact fun σ' H' Z' Fs' v Fx q => h σ' H' Z' Fs' v Fx (p.ret q)
  | exc c fs e => exact fun σ' H' Z' Fs' cls dd q => h σ' H' Z' Fs' cls dd (p.exc q)
  | bad => exact h

/-- an expression, then the rest of the statement -/
theorem rs_expr {ma : M Val} {k : Val → M Fl} {D : Ends} (S : Sim W H Z σ env Fs) (h : FinS W w mp σ H Z Fs ((ma.bind k) env) D) :
    rdE W w ma σ H fun v H2 => ∃ Z2 env2 Fs2 y Fy, PostL W H Z Fs σ H2 Z2 env2 Fs2 [y] [v] Fy ∧ FinS W w mp σ H Z Fs (k y env2) D := by
  refine ⟨Z, env, Fs, S, ?_⟩
  have h : FinS W w mp σ H Z Fs ((ma env).bind k) D := h
  cases e : ma env with
  | ok y e2 =>
    rw [e] at h
    intro H' Z' Fs' v Fx q
    have := (PostL.start S).snoc q
    simp only [List.nil_append] at this
    exact ⟨Z', e2, Fs', y, Fx, this, h⟩
  | exc c fs e2 =>
    rw [e] at h
    exact fun H' Z' Fs' cls dd q => h _ _ _ _ _ _ q.toS
  | bad =>
    rw [e] at h
    exact h
theorem rs_test {mt : M Bool} {k : Bool → M Fl} {D : Ends} (S : Sim W H Z σ env Fs) (h : FinS W w mp σ H Z Fs ((mt.bind k) env) D) :
    rdT W w mt σ H fun b H2 => ∃ Z2 env2 Fs2, PostL W H Z Fs σ H2 Z2 env2 Fs2 [] [] [] ∧ FinS W w mp σ H Z Fs (k b env2) D := by
  refine ⟨Z, env, Fs, S, ?_⟩
  have h : FinS W w mp σ H Z Fs ((mt env).bind k) D := h
  cases e : mt env with
  | ok y e2 =>
    rw [e] at h
    exact fun H' Z' Fs' q => ⟨Z', e2, Fs', q, h⟩
  | exc c fs e2 =>
    rw [e] at h
    exact fun H' Z' Fs' cls dd q => h _ _ _ _ _ _ q.toS
  | bad =>
    rw [e] at h
    exact h

theorem rs_test_from {mt : M Bool} {k : Bool → M Fl} {D : Ends} (p : PostS W mp σ H Z Fs σ1 H1 Z1 env1 Fs1) (h : FinS W w mp σ H Z Fs ((mt.bind k) env1) D) :
    rdT W w mt σ1 H1 fun b H2 => ∃ Z2 env2 Fs2, PostS W mp σ H Z Fs σ1 H2 Z2 env2 Fs2 ∧ FinS W w mp σ H Z Fs (k b env2) D := by
  refine ⟨Z1, env1, Fs1, p.sim, ?_⟩
  have h : FinS W w mp σ H Z Fs ((mt env1).bind k) D := h
  cases e : mt env1 with
  | ok y e2 =>
    rw [e] at h
    exact fun H' Z' Fs' q => ⟨Z', e2, Fs', p.trans q.toS, h⟩
  | exc c fs e2 =>
    rw [e] at h
    exact fun H' Z' Fs' cls dd q => h _ _ _ _ _ _ (p.exc q.toS)
  | bad =>
    rw [e] at h
    exact h

def upF (Fs : Nat → List Addr) (i : Nat) (F : List Addr) : Nat → List Addr := fun j => if j = i then F else Fs j
theorem upF_same {i : Nat} {F : List Addr} : upF Fs i F i = F := if_pos rfl
theorem upF_ne {i j : Nat} {F : List Addr} (h : j ≠ i) : upF Fs i F j = Fs j := if_neg h
/-- a slot takes a value at hand -/
theorem PostL.put {i : Nat} (p : PostL W H Z Fs σ H1 Z1 env1 Fs1 [x] [v] Fx) (hi : i ∉ mp) : ∃ Fs2, PostS W mp σ H Z Fs (σ.set i (some v)) H1 Z1 (env1.set i (some x)) Fs2 := by
  by_cases hl : i < env1.length
  · have hs : i < σ.length := by rw [← p.sim.len]; exact hl
    refine ⟨upF Fs1 i Fx, ⟨p.st.fr, p.st.zin, p.st.zkeep, fun a h => ?_⟩, ⟨fun j y e => ?_, fun j h => ?_, fun j k a h1 h2 => ?_, fun j => ?_, fun j a h => ?_, p.sim.zdom, by rw [List.length_set, List.length_set]; exact p.sim.len, p.sim.tabs⟩, p.zd, fun j hj => List.getElem?_set_ne (fun e => hi (by rw [e]; exact hj))⟩
    · rcases h with ⟨j, h⟩ | h
      · by_cases hj : j = i
        · rw [hj, upF_same] at h
          exact p.st.own a (.inr h)
        · rw [upF_ne hj] at h
          exact p.st.own a (.inl ⟨j, h⟩)
      · cases h
    · by_cases hj : j = i
      · rw [hj] at e ⊢
        rw [List.getElem?_set_self hl] at e
        cases e
        exact ⟨v, List.getElem?_set_self hs, by rw [upF_same]; exact p.own.inv1⟩
      · rw [List.getElem?_set_ne (Ne.symm hj)] at e
        obtain ⟨u, e1, o⟩ := p.sim.rep j y e
        exact ⟨u, by rw [List.getElem?_set_ne (Ne.symm hj)]; exact e1, by rw [upF_ne hj]; exact o⟩
    · by_cases hj : j = i
      · rw [hj] at h
        exact absurd (List.getElem?_set_self hl) (h x)
      · rw [upF_ne hj]
        exact p.sim.off j fun y => by have := h y; rwa [List.getElem?_set_ne (Ne.symm hj)] at this
    · by_cases hj : j = i
      · by_cases hk : k = i
        · rw [hj, hk]
        · rw [hj, upF_same] at h1
          rw [upF_ne hk] at h2
          exact absurd ⟨k, h2⟩ (p.dis a h1)
      · by_cases hk : k = i
        · rw [upF_ne hj] at h1
          rw [hk, upF_same] at h2
          exact absurd ⟨j, h1⟩ (p.dis a h2)
        · rw [upF_ne hj] at h1
          rw [upF_ne hk] at h2
          exact p.sim.dis j k a h1 h2
    · by_cases hj : j = i
      · rw [hj, upF_same]; exact p.nd
      · rw [upF_ne hj]; exact p.sim.nd j
    · by_cases hj : j = i
      · rw [hj, upF_same] at h; exact p.sub a h
      · rw [upF_ne hj] at h; exact p.sim.sub j a h
  · have hs : ¬ i < σ.length := by rw [← p.sim.len]; exact hl
    rw [List.set_eq_of_length_le (Nat.le_of_not_lt hl), List.set_eq_of_length_le (Nat.le_of_not_lt hs)]
    exact ⟨Fs1, p.drop.toS⟩
theorem PostL.nrm1 (p : PostL W H Z Fs σ H1 Z1 env1 Fs1 [x] [v] Fx) : ∃ F, PostL W H Z Fs σ H1 Z1 env1 Fs1 [nrm x] [v] F := by
  unfold nrm
  by_cases c : x.2.imm = true
  · rw [if_pos c]
    refine ⟨[], p.st.less (fun _ z => nomatch z), p.sim, ?_, List.nodup_nil, fun _ z => (nomatch z), fun _ z => (nomatch z), p.zd⟩
    exact .cons (F := []) ((p.own.inv1.of_imm c).2 _ _) .nil
  · rw [if_neg c]
    exact ⟨Fx, p⟩
end

section
variable {X : Cx} {W : Wd} {mp : List Nat} {st : Stmt} {rest : List Stmt} {m m1 m2 : M Fl} {e : Expr} {ma : M Val} {mt : M Bool} {pos : Pos}
theorem gb_nil : GB X W mp [] (M.pure .nx) := fun w tk => pss_imp pss_nil fun D σ H h => by
  obtain ⟨Z, env, Fs, S, h⟩ := h
  exact h σ H Z Fs (PostS.start S)
theorem gb_one (h : GS X W mp st m) : GB X W mp [st] m := fun w tk => pss_one (h w tk)
theorem gb_cons (h1 : GS X W mp st m1) (h2 : GB X W mp rest m2) : GB X W mp (st :: rest) (mThen m1 m2) := fun w tk => by
  refine pss_imp (pss_cons (h1 w tk) (h2 w tk)) fun D σ H h => ?_
  obtain ⟨Z, env, Fs, S, h⟩ := h
  exact ⟨Z, env, Fs, S, FinS.then (o := m1 env) (PostS.start S) h⟩
theorem gs_pass : GS X W mp (.Pass pos) (M.pure .nx) := fun w tk => ps_imp ps_pass fun D σ H h => by
  obtain ⟨Z, env, Fs, S, h⟩ := h
  exact h σ H Z Fs (PostS.start S)
theorem gs_break : GS X W mp (.Break pos) (M.pure .bk) := fun w tk => ps_imp ps_break fun D σ H h => by
  obtain ⟨Z, env, Fs, S, h⟩ := h
  exact h σ H Z Fs (PostS.start S)
theorem gs_continue : GS X W mp (.Continue pos) (M.pure .ct) := fun w tk => ps_imp ps_continue fun D σ H h => by
  obtain ⟨Z, env, Fs, S, h⟩ := h
  exact h σ H Z Fs (PostS.start S)
def mExpr (ma : M Val) : M Fl := ma.bind fun _ => M.pure .nx
theorem gs_expr (he : GE X W e ma) (hs : swapsWith e none pos.line X.env = pure false) : GS X W mp (.Expr e pos) (mExpr ma) := fun w tk => by
  refine ps_imp (ps_expr (he w tk) hs) fun D σ H h => ?_
  obtain ⟨Z, env, Fs, S, h⟩ := h
  exact rdE_mono (rs_expr S h) fun v H1 ⟨Z2, env2, Fs2, y, Fy, p, h2⟩ => h2 _ _ _ _ p.drop.toS
def mRet (ma : M Val) : M Fl := ma.bind fun x => M.pure (.rt (nrm x))
theorem gs_ret (he : GE X W e ma) : GS X W mp (.Return (some e) pos) (mRet ma) := fun w tk => by
  refine ps_imp (ps_ret (he w tk)) fun D σ H h => ?_
  obtain ⟨Z, env, Fs, S, h⟩ := h
  refine rdE_mono (rs_expr S h) fun v H1 ⟨Z2, env2, Fs2, y, Fy, p, h2⟩ => ?_
  obtain ⟨F, p⟩ := p.nrm1
  exact h2 _ _ _ _ _ _ ⟨p.st, p.sim, ⟨p.own.inv1, p.nd, p.sub, p.dis⟩, fun _ _ => rfl⟩
theorem gs_retN : GS X W mp (.Return none pos) (M.pure (.rt (.all, .non))) := fun w tk => ps_imp ps_retN fun D σ H h => by
  obtain ⟨Z, env, Fs, S, h⟩ := h
  exact h _ _ _ _ _ [] ⟨Step.refl, S, pend_imm .non, fun _ _ => rfl⟩
def mCond (mt : M Bool) (m1 m2 : M Fl) : M Fl := mt.bind fun b => if b then m1 else m2
theorem gs_if {c : Expr} {a b : List Stmt} (hc : GT X W c mt) (ha : GB X W mp a m1) (hb : GB X W mp b m2) : GS X W mp (.If c a b pos) (mCond mt m1 m2) := fun w tk => by
  refine ps_imp (ps_if (hc w tk) (ha w tk) (hb w tk)) fun D σ H h => ?_
  obtain ⟨Z, env, Fs, S, h⟩ := h
  refine rdT_mono (rs_test S h) fun b H1 ⟨Z2, env2, Fs2, p, h2⟩ => ?_
  cases b with
  | true => exact rs_go p.toS h2
  | false => exact rs_go p.toS h2
def mSet (mp : List Nat) (i : Nat) (ma : M Val) : M Fl := ma.bind fun x => if i ∈ mp then M.bad else fun env => .ok .nx (env.set i (some (nrm x)))
theorem gs_set {i : Nat} {x : Str} {pos' : Pos} (hN : X.N.Nodup) (hi : X.N[i]? = some x) (hx : Loc X.env.scope x) (he : GE X W e ma) (hs : swapsWith e (some (.Name x pos')) pos.line X.env = pure false) (hf : X.fn x = true ∨ X.env.scope.names.lookup x = some .local) :
    GS X W mp (.Assign [.Name x pos'] e pos) (mSet mp i ma) := fun w tk => by
  refine ps_imp (ps_set hN hi hx (he w tk) hs hf) fun D σ H h => ?_
  obtain ⟨Z, env, Fs, S, h⟩ := h
  refine rdE_mono (rs_expr S h) fun v H1 ⟨Z2, env2, Fs2, y, Fy, p, h2⟩ => ?_
  by_cases c : i ∈ mp
  · rw [if_pos c] at h2; exact h2.elim
  · rw [if_neg c] at h2
    obtain ⟨F, p⟩ := p.nrm1
    obtain ⟨Fs3, p⟩ := p.put c
    exact h2 _ _ _ _ p
/-- while, at most n turns -/
def mWhile (mt : M Bool) (mb : M Fl) : Nat → M Fl
  | 0 => M.bad
  | n + 1 => mt.bind fun b => if b then mb.bind fun fl => match fl with
      | .nx => mWhile mt mb n
      | .ct => mWhile mt mb n
      | .bk => M.pure .nx
      | .rt x => M.pure (.rt x)
    else M.pure .nx
theorem gs_while {c : Expr} {body : List Stmt} {mb : M Fl} {n : Nat} (hp : PassesOwn (model X.prog X.w) X.A X.env X.xe) (hc : GT X W c mt) (hb : GB X W mp body mb) : GS X W mp (.While c body [] pos) (mWhile mt mb n) := fun w tk => by
  refine ps_imp (ps_while hp (hc w tk) (hb w tk)) fun D σ H h => ?_
  obtain ⟨Z, env, Fs, S, h⟩ := h
  refine ⟨fun m σ1 H1 => ∃ Z1 env1 Fs1, PostS W mp σ H Z Fs σ1 H1 Z1 env1 Fs1 ∧ FinS W w mp σ H Z Fs (mWhile mt mb m env1) D, ⟨n, Z, env, Fs, PostS.start S, h⟩, ?_⟩
  rintro m σ1 H1 ⟨Z1, env1, Fs1, p, h⟩
  cases m with
  | zero => exact h.elim
  | succ m =>
    refine rdT_mono (rs_test_from p h) fun b H2 ⟨Z2, env2, Fs2, pq, h2⟩ => ?_
    cases b with
    | false => exact h2 _ _ _ _ pq
    | true =>
      rw [if_pos rfl]
      refine ⟨fun σ' H' => ∃ Z' env' Fs', PostS W mp σ H Z Fs σ' H' Z' env' Fs' ∧ FinS W w mp σ H Z Fs (mWhile mt mb m env') D, fun σ' H' k => ⟨m, Nat.lt_succ_self m, k⟩, Z2, env2, Fs2, pq.sim, ?_⟩
      have h3 : FinS W w mp σ H Z Fs ((mb env2).bind fun fl => match fl with
        | .nx => mWhile mt mb m
        | .ct => mWhile mt mb m
        | .bk => M.pure .nx
        | .rt x => M.pure (.rt x)) D := h2
      cases eb : mb env2 with
      | ok fl e2 =>
        rw [eb] at h3
        cases fl with
        | nx => exact fun σ' H' Z' Fs' r => ⟨Z', e2, Fs', pq.trans r, h3⟩
        | ct => exact fun σ' H' Z' Fs' r => ⟨Z', e2, Fs', pq.trans r, h3⟩
        | bk => exact fun σ' H' Z' Fs' r => h3 _ _ _ _ (pq.trans r)
        | rt x => exact fun σ' H' Z' Fs' v Fx r => h3 _ _ _ _ _ _ (pq.ret r)
      | exc c fs e2 =>
        rw [eb] at h3
        exact fun σ' H' Z' Fs' cls dd r => h3 _ _ _ _ _ _ (pq.exc r)
      | bad =>
        rw [eb] at h3
        exact h3
end
end BV
set_option maxHeartbeats 2000000
/-! BV8: arguments, calls of defs. -/
namespace BV
open PySem PySem.Spec PyProof.Rows L2

/-- an argument: a value, a slot that is lent, a lambda of this frame that catches slots -/
inductive AV where
  | v (x : Val) | m (j : Nat) | l (k : Nat) (is : List Nat)
inductive OwnA (W : Wd) (H : Hp) (P : Addr → Prop) (σ : L2.St) : List AV → List V → List Addr → Prop
  | nil : OwnA W H P σ [] [] []
  | val {x : Val} {v : V} {as : List AV} {vs : List V} {F G : List Addr} : Own W H P x.1 v x.2 F → OwnA W H P σ as vs G → OwnA W H P σ (.v x :: as) (v :: vs) (F ++ G)
  | lam {k : Nat} {is : List Nat} {f : Addr} {as : List AV} {vs : List V} {G : List Addr} : W.lm k is f H → OwnA W H P σ as vs G → OwnA W H P σ (.l k is :: as) (.ref f :: vs) G
  | mut {j : Nat} {v : V} {as : List AV} {vs : List V} {G : List Addr} : σ[j]? = some (some v) → OwnA W H P σ as vs G → OwnA W H P σ (.m j :: as) (v :: vs) G
structure PostA (W : Wd) (H : Hp) (Z : Addr → Prop) (Fs : Nat → List Addr) (σ : L2.St) (H' : Hp) (Z' : Addr → Prop) (env' : Env) (Fs' : Nat → List Addr) (as : List AV) (vs : List V) (F : List Addr) : Prop where
  st : Step W H Z Fs H' Z' Fs' F
  sim : Sim W H' Z' σ env' Fs'
  own : OwnA W H' (fun a => ¬ Z' a) σ as vs F
  nd : F.Nodup
  sub : ∀ a ∈ F, Z' a
  dis : ∀ a ∈ F, ¬ OF Fs' a
  zd : ∀ a, Z a → H a ≠ none
def FinA (W : Wd) (w : WX) (σ : L2.St) (H : Hp) (Z : Addr → Prop) (Fs : Nat → List Addr) (o : Out (List AV)) (Q : List V → Hp → Prop) : Prop := match o with
  | .ok xs env' => ∀ H' Z' Fs' vs F, PostA W H Z Fs σ H' Z' env' Fs' xs vs F → Q vs H'
  | .exc c fs env' => ∀ H' Z' Fs' cls dd, PostX W H Z Fs σ H' Z' env' Fs' c fs cls dd → w cls dd σ H'
  | .bad => False
def rdAV (W : Wd) (w : WX) (m : M (List AV)) : TA := fun σ H Q => ∃ Z env Fs, Sim W H Z σ env Fs ∧ FinA W w σ H Z Fs (m env) Q
def GAV (X : Cx) (W : Wd) (es : List Expr) (m : M (List AV)) : Prop := ∀ w, Takes X w → PA X es (rdAV W w m)

section
variable {W : Wd} {w : WX} {σ : L2.St} {H H1 H2 : Hp} {Z Z1 Z2 : Addr → Prop} {Fs Fs1 Fs2 : Nat → List Addr} {env env1 : Env} {as bs : List AV} {vs us : List V} {F G Fx : List Addr} {x : Val} {v : V}

theorem OwnA.later (so : ∀ a, OF Fs1 a → Z1 a) (b : Step W H1 Z1 Fs1 H2 Z2 Fs2 Fx) : ∀ {as vs F}, OwnA W H1 (fun a => ¬ Z1 a) σ as vs F → (∀ a ∈ F, ¬ OF Fs1 a) → OwnA W H2 (fun a => ¬ Z2 a) σ as vs F
  | _, _, _, .nil, _ => .nil
  | _, _, _, .val h t, hd => .val (Own.later so h (fun a ha => hd a (List.mem_append_left _ ha)) b) (OwnA.later so b t fun a ha => hd a (List.mem_append_right _ ha))
  | _, _, _, .mut h t, hd => .mut h (OwnA.later so b t hd)
  | _, _, _, .lam h t, hd => .lam (W.lmS _ _ _ _ _ h b.fr.ext) (OwnA.later so b t hd)
theorem OwnA.dom {P : Addr → Prop} : ∀ {as vs F}, OwnA W H P σ as vs F → ∀ a ∈ F, H a ≠ none
  | _, _, _, .nil => fun _ z => nomatch z
  | _, _, _, .val h t => fun a ha => (List.mem_append.mp ha).elim (Own.dom h a) (OwnA.dom t a)
  | _, _, _, .mut h t => OwnA.dom t
  | _, _, _, .lam h t => OwnA.dom t
theorem OwnA.append {P : Addr → Prop} (o : OwnA W H P σ bs us G) : ∀ {as vs F}, OwnA W H P σ as vs F → OwnA W H P σ (as ++ bs) (vs ++ us) (F ++ G)
  | _, _, _, .nil => o
  | _, _, _, .val h t => by
    rw [List.append_assoc]
    exact .val h (OwnA.append o t)
  | _, _, _, .mut h t => .mut h (OwnA.append o t)
  | _, _, _, .lam h t => .lam h (OwnA.append o t)
theorem OwnA.length {P : Addr → Prop} : ∀ {as vs F}, OwnA W H P σ as vs F → vs.length = as.length
  | _, _, _, .nil => rfl
  | _, _, _, .val _ t => by simp [OwnA.length t]
  | _, _, _, .mut _ t => by simp [OwnA.length t]
  | _, _, _, .lam _ t => by simp [OwnA.length t]
theorem PostA.start (S : Sim W H Z σ env Fs) : PostA W H Z Fs σ H Z env Fs [] [] [] :=
  ⟨Step.refl, S, .nil, List.nodup_nil, fun _ z => (nomatch z), fun _ z => (nomatch z), S.zdom⟩
theorem PostA.append (p : PostA W H Z Fs σ H1 Z1 env Fs1 as vs F) (q : PostA W H1 Z1 Fs1 σ H2 Z2 env1 Fs2 bs us Fx) : PostA W H Z Fs σ H2 Z2 env1 Fs2 (as ++ bs) (vs ++ us) (F ++ Fx) := by
  have so : ∀ a, OF Fs1 a → Z1 a := fun a h => p.sim.subO h
  have hd : ∀ a ∈ F, ¬ OF Fs2 a ∧ a ∉ Fx := fun a ha => ⟨fun z => (q.st.own a (.inl z)).elim (p.dis a ha) (p.own.dom a ha), fun z => (q.st.own a (.inr z)).elim (p.dis a ha) (p.own.dom a ha)⟩
  refine ⟨p.st.seq p.zd q.st, q.sim, OwnA.append q.own (OwnA.later so q.st p.own p.dis), List.nodup_append.mpr ⟨p.nd, q.nd, fun a ha b hb e => (hd a ha).2 (e ▸ hb)⟩, fun a ha => ?_, fun a ha => ?_, p.zd⟩
  · rcases List.mem_append.mp ha with ha | ha
    · exact q.st.zkeep a (p.sub a ha) (p.dis a ha)
    · exact q.sub a ha
  · rcases List.mem_append.mp ha with ha | ha
    · exact (hd a ha).1
    · exact q.dis a ha
theorem PostE.toA (q : PostE W H Z Fs σ H1 Z1 env1 Fs1 x v Fx) (zd : ∀ a, Z a → H a ≠ none) : PostA W H Z Fs σ H1 Z1 env1 Fs1 [.v x] [v] Fx :=
  ⟨q.st, q.sim, by simpa using OwnA.val (σ := σ) q.pd.own .nil, q.pd.nd, q.pd.sub, q.pd.dis, zd⟩
theorem PostA.raise {c : Str} {fs : List (Str × D)} {cls : Value} {dd : Option Addr} (p : PostA W H Z Fs σ H1 Z1 env Fs1 as vs F) (q : PostX W H1 Z1 Fs1 σ H2 Z2 env1 Fs2 c fs cls dd) : PostX W H Z Fs σ H2 Z2 env1 Fs2 c fs cls dd :=
  ⟨(p.st.seq p.zd q.st).less (fun _ z => nomatch z), q.sim, q.cls, q.fld⟩

def mANil : M (List AV) := M.pure []
def mACons (ma : M Val) (mr : M (List AV)) : M (List AV) := ma.bind fun x => mr.bind fun xs => M.pure (.v x :: xs)
/-- a slot is lent: it holds something -/
def mAMut (j : Nat) (mr : M (List AV)) : M (List AV) := fun env => match env[j]? with
  | some (some _) => (mr env).bind fun xs => M.pure (.m j :: xs)
  | _ => .bad
theorem gav_nil {X : Cx} : GAV X W [] mANil := fun w _ => ⟨fun pos pins s σ H Q I h => by
  obtain ⟨Z, env, Fs, S, h⟩ := h
  exact pa_nil.run pos pins s σ H Q I (h H Z Fs [] [] (PostA.start S))⟩
theorem gav_cons {X : Cx} {e : Expr} {es : List Expr} {ma : M Val} {mr : M (List AV)} (ha : GE X W e ma) (hr : GAV X W es mr) (hs : starEach (e :: es) X.env = (false, eval e X.env) :: starEach es X.env) : GAV X W (e :: es) (mACons ma mr) := fun w tk => by
  refine pa_imp (pa_cons (ha w tk) (hr w tk) hs) fun σ H Q h => ?_
  obtain ⟨Z, env, Fs, S, h⟩ := h
  refine ⟨Z, env, Fs, S, ?_⟩
  have h : FinA W w σ H Z Fs ((ma env).bind fun x => mr.bind fun xs => M.pure (.v x :: xs)) Q := h
  cases ea : ma env with
  | exc c fs e2 => rw [ea] at h; exact h
  | bad => rw [ea] at h; exact h
  | ok x e1 =>
    rw [ea] at h
    intro H1 Z1 Fs1 v Fx q
    refine ⟨Z1, e1, Fs1, q.sim, ?_⟩
    have p := q.toA S.zdom
    have h : FinA W w σ H Z Fs ((mr e1).bind fun xs => M.pure (.v x :: xs)) Q := h
    cases er : mr e1 with
    | exc c fs e2 =>
      rw [er] at h
      exact fun H' Z' Fs' cls dd q => h H' Z' Fs' cls dd (p.raise q)
    | bad => rw [er] at h; exact h
    | ok xs e2 =>
      rw [er] at h
      exact fun H' Z' Fs' vs F q => h H' Z' Fs' (v :: vs) (Fx ++ F) (p.append q)
theorem gav_mut {X : Cx} {i : Nat} {x : Str} {pos : Pos} {es : List Expr} {mr : M (List AV)} (hN : X.N[i]? = some x) (hv : Vis X.env.scope x) (hd : (x == ("__debug__" : Str)) = false) (hcd : (x == ("__classdict__" : Str)) = false) (hr : GAV X W es mr) (hs : starEach (.Name x pos :: es) X.env = (false, eval (.Name x pos) X.env) :: starEach es X.env) : GAV X W (.Name x pos :: es) (mAMut i mr) := fun w tk => by
  refine pa_imp (pa_cons (pe_var hN hv hd hcd) (hr w tk) hs) fun σ H Q h => ?_
  obtain ⟨Z, env, Fs, S, h⟩ := h
  unfold mAMut at h
  cases e : env[i]? with
  | none => rw [e] at h; exact h.elim
  | some o =>
    cases o with
    | none => rw [e] at h; exact h.elim
    | some y =>
      rw [e] at h
      obtain ⟨v, e1, _⟩ := S.rep i y e
      refine ⟨v, e1, Z, env, Fs, S, ?_⟩
      have p : PostA W H Z Fs σ H Z env Fs [.m i] [v] [] := ⟨Step.refl, S, .mut e1 .nil, List.nodup_nil, fun _ z => (nomatch z), fun _ z => (nomatch z), S.zdom⟩
      have h : FinA W w σ H Z Fs ((mr env).bind fun xs => M.pure (.m i :: xs)) Q := h
      cases er : mr env with
      | exc c fs e2 =>
        rw [er] at h
        exact fun H' Z' Fs' cls dd q => h H' Z' Fs' cls dd (p.raise q)
      | bad => rw [er] at h; exact h
      | ok xs e2 =>
        rw [er] at h
        exact fun H' Z' Fs' vs F q => h H' Z' Fs' (v :: vs) F (p.append q)
end

/-! ### what a def is worth -/
inductive CO where
  | ok (x : Val) (back : Env) | exc (c : Str) (fs : List (Str × D)) (back : Env) | bad
/-- a def's promise: from n arguments f tells its answer and what the lent ones hold behind it -/
def spD (W : Wd) (n : Nat) (f : List Val → CO) : Sp := fun vs H Q E => ∃ Z args Fp, vs.length = n ∧ args.length = n ∧ Sim W H Z (vs.map some) (args.map some) Fp ∧ match f args with
  | .ok x back => ∀ H' Z' Fp' v Fx, PostE W H Z Fp (vs.map some) H' Z' back Fp' x v Fx → Q v H'
  | .exc c fs back => ∀ H' Z' Fp' cls dd, PostX W H Z Fp (vs.map some) H' Z' back Fp' c fs cls dd → E cls dd H'
  | .bad => False
/-- only the lent slots are told -/
def backOf (mp : List Nat) (n : Nat) (env : Env) : Env := (List.range n).map fun i => if i ∈ mp then (env[i]?).join else none
/-- a def of n parameters and N slots, by its body -/
def callM (mp : List Nat) (n N : Nat) (m : M Fl) (args : List Val) : CO := match m (args.map some ++ List.replicate (N - n) none) with
  | .ok (.rt x) env => .ok x (backOf mp n env)
  | .ok .nx env => .ok (.all, .non) (backOf mp n env)
  | .ok .bk _ => .bad
  | .ok .ct _ => .bad
  | .exc c fs env => .exc c fs (backOf mp n env)
  | .bad => .bad

section
variable {W : Wd} {w : WX} {mp : List Nat} {σ σ1 σ2 : L2.St} {H H1 H2 : Hp} {Z Z1 Z2 : Addr → Prop} {Fs Fs1 Fs2 : Nat → List Addr} {env env1 env2 : Env} {x : Val} {v : V} {Fx : List Addr}

/-- more slots that hold nothing -/
theorem Sim.more (S : Sim W H Z σ env Fs) (k : Nat) : Sim W H Z (σ ++ List.replicate k none) (env ++ List.replicate k none) Fs where
  rep := fun i x e => by
    by_cases h : i < env.length
    · rw [List.getElem?_append_left h] at e
      obtain ⟨v, e1, o⟩ := S.rep i x e
      exact ⟨v, by rw [List.getElem?_append_left (by rw [← S.len]; exact h)]; exact e1, o⟩
    · rw [List.getElem?_append_right (Nat.le_of_not_lt h), List.getElem?_replicate] at e
      split at e <;> cases e
  off := fun i h => S.off i fun x e => h x (by
    have hl : i < env.length := (List.getElem?_eq_some_iff.mp e).1
    rw [List.getElem?_append_left hl]
    exact e)
  dis := S.dis
  nd := S.nd
  sub := S.sub
  zdom := S.zdom
  len := by simp [S.len]
  tabs := S.tabs

/-- back to the caller's view -/
theorem Sim.back {n : Nat} {vs : List V} (hn : vs.length = n) (S : Sim W H Z σ env Fs) (hk : ∀ i ∈ mp, i < n → σ[i]? = (vs.map some)[i]?) : Sim W H Z (vs.map some) (backOf mp n env) (fun i => if i ∈ mp ∧ i < n then Fs i else []) where
  rep := fun i x e => by
    unfold backOf at e
    rw [List.getElem?_map] at e
    by_cases hi : i < n
    · rw [List.getElem?_range hi] at e
      simp only [Option.map_some, Option.some.injEq] at e
      by_cases hm : i ∈ mp
      · rw [if_pos hm] at e
        have e2 : env[i]? = some (some x) := by
          cases q : env[i]? with
          | none => rw [q] at e; cases e
          | some o => rw [q] at e; exact congrArg some e
        obtain ⟨v, e1, o⟩ := S.rep i x e2
        exact ⟨v, (hk i hm hi) ▸ e1, by rw [if_pos ⟨hm, hi⟩]; exact o⟩
      · rw [if_neg hm] at e; cases e
    · rw [List.getElem?_eq_none (by simpa using Nat.le_of_not_lt hi)] at e
      cases e
  off := fun i h => by
    by_cases hi : i ∈ mp ∧ i < n
    · rw [if_pos hi]
      refine S.off i fun x e => h x ?_
      unfold backOf
      rw [List.getElem?_map, List.getElem?_range hi.2]
      simp only [Option.map_some, if_pos hi.1, e, Option.join]
      rfl
    · rw [if_neg hi]
  dis := fun i j a h1 h2 => by
    split at h1
    · split at h2
      · exact S.dis i j a h1 h2
      · cases h2
    · cases h1
  nd := fun i => by
    split
    · exact S.nd i
    · exact List.nodup_nil
  sub := fun i a h => by
    split at h
    · exact S.sub i a h
    · cases h
  zdom := S.zdom
  len := by unfold backOf; rw [List.length_map, List.length_map, List.length_range, hn]
  tabs := S.tabs
end
end BV
set_option maxHeartbeats 2000000
/-! BV9: a def by its body; its call. -/
namespace BV
open PySem PySem.Spec PyProof.Rows L2

/-- what must be true of a closure k that stands at f with ws caught, in a state, over frames -/
abbrev CV := Nat → Addr → List V → Shared → Hp → List Addr → Hp → Prop
/-- the closures of W stand so in every state of X -/
def CVX (cv : CV) (W : Wd) (X : Cx) : Prop := ∀ pins σ H s, Inv X pins σ H s → ∀ k f ws H', W.cl k f ws H' → cv k f ws s H (frs X.stack) H'
/-- a def that keeps its promise, which may speak of the state at the call -/
structure FnS (P : Program) (w : World) (K : PySem.W.Frag) (mg : Str → Option Value) (base : Heap) (CX : CXT) (k : Nat) (f : Addr) (fd : FuncData) (ps : List Str) (sp : Shared → List Addr → Sp) : Prop where
  len : ∀ s fs vs H Q E, sp s fs vs H Q E → vs.length = ps.length
  run : ∀ (A : Around) (outer : List PySem.Env) (s : Shared) (H : Hp) (args : Args) (us : List Value) (vs : List V) (Q : VK) (E : XK), Room k A → Env0 P w K mg base A outer s H → BindsTo s fd args (ps.zip us) → Vals vs us → sp s (frs outer) vs H Q E →
    codeAny (model P w) A (.call (.ref f) args) (CR CX outer P w H s Q E) s
/-- a promise in a world with closures that stand as they should -/
def spS (cv : CV) (W : Wd) (n : Nat) (g : List Val → CO) : Shared → List Addr → Sp := fun s fs vs H Q E => ∃ W' : Wd, W.Like W' ∧ (∀ k f ws H', W'.cl k f ws H' → cv k f ws s H fs H') ∧ spD W' n g vs H Q E

/-- where a def's body runs -/
structure BX (cv : CV) (P : Program) (pw : World) (W : Wd) (base : Heap) (N : List Str) (sc : Scope) (k : Nat) (X : Cx) : Prop where
  prog : X.prog = P
  w : X.w = pw
  K : X.K = W.K
  mg : X.mg = W.mg
  base : X.base = base
  N : X.N = N
  sc : X.env.scope = sc
  calm : X.calm = true
  room : Room k X.A
  stk : X.stack = X.env :: X.outer
  frm : X.env.frame = some X.env.locals
  ex : X.ex = []
  fn : X.fn = fun _ => true
  po : PassesOwn (model X.prog X.w) X.A X.env X.xe
  cls : ∀ k f ws H', W.cl k f ws H' → cv k f ws X.s_0 X.H_0 (frs X.outer) H'

section
variable {cv : CV} {P : Program} {pw : World} {W : Wd} {base : Heap} {N ps : List Str} {sc : Scope} {k n : Nat} {mp : List Nat} {m : M Fl}
theorem start_env {vs : List V} : start N vs = vs.map some ++ List.replicate (N.length - vs.length) none := rfl
theorem fn_ok {x qual : Str} {params : Arguments} {body : List Stmt} {dvs : List V} {kws : List (Str × V)} {f : Addr} {fd : FuncData} (F : FunD W.K x qual params body sc dvs kws f fd) (S : FnScope N ps sc)
    (hn : ps.length = n) (hb : ∀ W' X, W.Like W' → BX cv P pw W' base N sc k X → GB X W' mp body m) : FnS P pw W.K W.mg base (L2.CX P pw) (k + 1) f fd ps (spS cv W n (callM mp n N.length m)) := by
  have len : ∀ (s : Shared) (fs : List Addr) (vs : List V) (H : Hp) (Q : VK) (E : XK), spS cv W n (callM mp n N.length m) s fs vs H Q E → vs.length = ps.length := fun s fs vs H Q E ⟨_, _, _, Z, args, Fp, h1, _⟩ => by rw [h1, hn]
  refine ⟨len, fun A outer s H args us vs Q E hr e0 hbi r h => ?_⟩
  have hlen := len _ _ _ _ _ _ h
  obtain ⟨oc, od, dV, kV, doc, pm, an, cdv, ct, osl, rfl, lk, hcd, _, _⟩ := F.ex
  refine LamX.run_ofS lk hcd S hr e0 hbi r hlen fun hr' => ?_
  obtain ⟨W', hl, hc, Z, args, Fp, h1, h2, SS, h⟩ := h
  refine ⟨rdS W' (fun cls d _ H => E cls d H) mp m, hb W' _ hl ?_ _ (takes_of rfl rfl rfl rfl), ?_⟩
  · exact ⟨rfl, rfl, hl.K.symm, hl.mg.symm, rfl, rfl, rfl, rfl, hr', rfl, rfl, rfl, rfl, passes_of rfl, hc⟩
  have S2 := SS.more (N.length - n)
  refine ⟨Z, _, Fp, by rw [start_env, h1]; exact S2, ?_⟩
  unfold callM at h
  have keep : ∀ (σ' : L2.St), (∀ i ∈ mp, σ'[i]? = (start N vs)[i]?) → ∀ i ∈ mp, i < n → σ'[i]? = (vs.map some)[i]? := fun σ' kp i hi hl => by
    rw [kp i hi, start_env, List.getElem?_append_left (by rw [List.length_map, h1]; exact hl)]
  have sub : ∀ {Fs' : Nat → List Addr} {a : Addr}, OF (fun i => if i ∈ mp ∧ i < n then Fs' i else []) a → OF Fs' a := fun {Fs' a} ⟨i, hi⟩ => by
    dsimp only at hi
    split at hi
    · exact ⟨i, hi⟩
    · cases hi
  cases e : m (args.map some ++ List.replicate (N.length - n) none) with
  | ok fl env =>
    rw [e] at h
    cases fl with
    | nx =>
      exact fun σ' H' Z' Fs' q => h H' Z' _ .non [] ⟨⟨q.st.fr, q.st.zin, q.st.zkeep, fun a z => q.st.own a (z.imp sub id)⟩, q.sim.back h1 (keep σ' q.kp), pend_imm .non⟩
    | bk => exact h.elim
    | ct => exact h.elim
    | rt x =>
      exact fun σ' H' Z' Fs' v Fx q => h H' Z' _ v Fx ⟨⟨q.st.fr, q.st.zin, q.st.zkeep, fun a z => q.st.own a (z.imp sub id)⟩, q.sim.back h1 (keep σ' q.kp), ⟨q.pd.own, q.pd.nd, q.pd.sub, fun a ha z => q.pd.dis a ha (sub z)⟩⟩
  | exc c fs env =>
    rw [e] at h
    exact fun σ' H' Z' Fs' cls dd q => h H' Z' _ cls dd ⟨⟨q.px.st.fr, q.px.st.zin, q.px.st.zkeep, fun a z => q.px.st.own a (z.imp sub id)⟩, q.px.sim.back h1 (keep σ' q.kp), q.px.cls, q.px.fld⟩
  | bad => rw [e] at h; exact h.elim
end

/-! ### the call -/
/-- what the callee gets: values as they may be read, lent slots as they are -/
def frzV (x : Val) : Val := if x.2.imm then (.all, x.2) else (.shr, x.2)
/-- the arguments, mp the places that are lent -/
def argsOf (mp : List Nat) (env : Env) : Nat → List AV → Option (List Val)
  | _, [] => some []
  | i, .v x :: as => if i ∈ mp then (if x.2.imm then (argsOf mp env (i + 1) as).map (fun r => (.all, x.2) :: r) else none) else (argsOf mp env (i + 1) as).map (fun r => frzV x :: r)
  | _, .l _ _ :: _ => none
  | i, .m j :: as => match env[j]? with
    | some (some x) => if i ∈ mp then (argsOf mp env (i + 1) as).map (fun r => x :: r) else none
    | _ => none
/-- which argument lends slot j -/
def AV.isM (j : Nat) : AV → Bool
  | .v _ => false
  | .l _ _ => false
  | .m k => k == j
def lentAt (as : List AV) (j : Nat) : Option Nat := as.findIdx? (AV.isM j)
/-- the lent slots take what they hold behind the call -/
def putBack (back : Env) (as : List AV) (env : Env) : Env := env.mapIdx fun j o => match lentAt as j with
  | some i => (back[i]?).join
  | none => o
def lentOf : List AV → List Nat
  | [] => []
  | .v _ :: as => lentOf as
  | .l _ _ :: as => lentOf as
  | .m j :: as => j :: lentOf as
/-- a call of a def that f tells of -/
def mCallF (mp : List Nat) (n : Nat) (f : List Val → CO) (as : List AV) : M Val := fun env => if as.length = n ∧ (lentOf as).Nodup then match argsOf mp env 0 as with
  | some args => (match f args with
    | .ok x back => .ok x (putBack back as env)
    | .exc c fs back => .exc c fs (putBack back as env)
    | .bad => .bad)
  | none => .bad else .bad
def mCall (mp : List Nat) (n : Nat) (f : List Val → CO) (ma : M (List AV)) : M Val := ma.bind fun as => mCallF mp n f as

/-- where argument i's own things are -/
def FsOf (Fs : Nat → List Addr) (as : List AV) : Nat → List Addr := fun i => match as[i]? with
  | some (.m j) => Fs j
  | _ => []
def FsBack (Fs Fp : Nat → List Addr) (as : List AV) : Nat → List Addr := fun j => match lentAt as j with
  | some i => Fp i
  | none => Fs j

theorem isM_iff {j : Nat} {a : AV} : AV.isM j a = true ↔ a = .m j := by
  cases a with
  | v x => simp [AV.isM]
  | l k is => simp [AV.isM]
  | m k => simp [AV.isM]
theorem lentAt_some {as : List AV} {i j : Nat} (h : lentAt as j = some i) : as[i]? = some (.m j) := by
  obtain ⟨hl, hp, _⟩ := List.findIdx?_eq_some_iff_getElem.mp h
  rw [List.getElem?_eq_getElem hl, isM_iff.mp hp]
theorem lentAt_none {as : List AV} {j : Nat} (h : lentAt as j = none) (i : Nat) : as[i]? ≠ some (.m j) := fun e => by
  have := List.findIdx?_eq_none_iff.mp h (.m j) (List.mem_of_getElem? e)
  rw [isM_iff.mpr rfl] at this
  cases this
theorem mem_lentOf {j : Nat} : ∀ {as : List AV} {i : Nat}, as[i]? = some (.m j) → j ∈ lentOf as
  | [], i, h => by simp at h
  | .v x :: as, 0, h => by simp at h
  | .m k :: as, 0, h => by
    simp at h
    subst h
    exact List.mem_cons_self ..
  | .v x :: as, i + 1, h => mem_lentOf (as := as) (i := i) (by simpa using h)
  | .l _ _ :: as, 0, h => by simp at h
  | .l _ _ :: as, i + 1, h => mem_lentOf (as := as) (i := i) (by simpa using h)
  | .m k :: as, i + 1, h => List.mem_cons_of_mem _ (mem_lentOf (as := as) (i := i) (by simpa using h))
theorem lent_inj {j : Nat} : ∀ {as : List AV} {i i' : Nat}, (lentOf as).Nodup → as[i]? = some (.m j) → as[i']? = some (.m j) → i = i'
  | [], i, _, _, h, _ => by simp at h
  | .v x :: as, 0, _, _, h, _ => by simp at h
  | .v x :: as, i + 1, 0, _, _, h => by simp at h
  | .v x :: as, i + 1, i' + 1, n, h, h' => by
    have := lent_inj (as := as) (i := i) (i' := i') n (by simpa using h) (by simpa using h')
    omega
  | .l _ _ :: as, 0, _, _, h, _ => by simp at h
  | .l _ _ :: as, i + 1, 0, _, _, h => by simp at h
  | .l _ _ :: as, i + 1, i' + 1, n, h, h' => by
    have := lent_inj (as := as) (i := i) (i' := i') n (by simpa using h) (by simpa using h')
    omega
  | .m k :: as, 0, 0, _, _, _ => rfl
  | .m k :: as, 0, i' + 1, n, h, h' => by
    simp at h
    subst h
    exact absurd (mem_lentOf (as := as) (i := i') (by simpa using h')) (List.nodup_cons.mp n).1
  | .m k :: as, i + 1, 0, n, h, h' => by
    simp at h'
    subst h'
    exact absurd (mem_lentOf (as := as) (i := i) (by simpa using h)) (List.nodup_cons.mp n).1
  | .m k :: as, i + 1, i' + 1, n, h, h' => by
    have := lent_inj (as := as) (i := i) (i' := i') (List.nodup_cons.mp n).2 (by simpa using h) (by simpa using h')
    omega
def argOk (mp : List Nat) (env : Env) (i : Nat) (a : AV) (x : Val) : Prop := match a with
  | .v y => (i ∉ mp ∧ x = frzV y) ∨ (y.2.imm = true ∧ x = (.all, y.2))
  | .m j => env[j]? = some (some x)
  | .l _ _ => False
theorem argsOf_ok {mp : List Nat} {env : Env} : ∀ {as : List AV} {k : Nat} {args : List Val}, argsOf mp env k as = some args → args.length = as.length ∧ ∀ i x, args[i]? = some x → ∃ a, as[i]? = some a ∧ argOk mp env (k + i) a x
  | [], k, args, h => by
    simp only [argsOf, Option.some.injEq] at h
    subst h
    exact ⟨rfl, fun i x e => by simp at e⟩
  | .v y :: as, k, args, h => by
    simp only [argsOf] at h
    have key : ∃ x r, argsOf mp env (k + 1) as = some r ∧ args = x :: r ∧ argOk mp env k (.v y) x := by
      split at h
      · split at h
        · obtain ⟨r, e, rfl⟩ := Option.map_eq_some_iff.mp h
          exact ⟨_, r, e, rfl, .inr ⟨by assumption, rfl⟩⟩
        · cases h
      · obtain ⟨r, e, rfl⟩ := Option.map_eq_some_iff.mp h
        exact ⟨_, r, e, rfl, .inl ⟨by assumption, rfl⟩⟩
    obtain ⟨x, r, e, rfl, ok⟩ := key
    obtain ⟨h1, h2⟩ := argsOf_ok e
    refine ⟨by simp [h1], fun i z ez => ?_⟩
    cases i with
    | zero => simp at ez; subst ez; exact ⟨_, rfl, ok⟩
    | succ i =>
      obtain ⟨a, e1, e2⟩ := h2 i z (by simpa using ez)
      exact ⟨a, by simpa using e1, by rw [show k + (i + 1) = k + 1 + i by omega]; exact e2⟩
  | .l _ _ :: as, k, args, h => by simp [argsOf] at h
  | .m j :: as, k, args, h => by
    simp only [argsOf] at h
    have key : ∃ x r, argsOf mp env (k + 1) as = some r ∧ args = x :: r ∧ argOk mp env k (.m j) x := by
      split at h
      · split at h
        · obtain ⟨r, e, rfl⟩ := Option.map_eq_some_iff.mp h
          exact ⟨_, r, e, rfl, by assumption⟩
        · cases h
      · cases h
    obtain ⟨x, r, e, rfl, ok⟩ := key
    obtain ⟨h1, h2⟩ := argsOf_ok e
    refine ⟨by simp [h1], fun i z ez => ?_⟩
    cases i with
    | zero => simp at ez; subst ez; exact ⟨_, rfl, ok⟩
    | succ i =>
      obtain ⟨a, e1, e2⟩ := h2 i z (by simpa using ez)
      exact ⟨a, by simpa using e1, by rw [show k + (i + 1) = k + 1 + i by omega]; exact e2⟩

section
variable {W : Wd} {w : WX} {σ : L2.St} {H H1 H2 : Hp} {Z Z1 Z2 : Addr → Prop} {Fs Fs1 Fs2 Fp : Nat → List Addr} {env env1 back : Env} {as : List AV} {vs : List V} {F Fx : List Addr} {x : Val} {v : V} {mp : List Nat} {args : List Val}

theorem OwnA.get {P : Addr → Prop} : ∀ {as : List AV} {vs : List V} {F : List Addr}, OwnA W H P σ as vs F → ∀ {i : Nat} {a : AV}, as[i]? = some a → ∃ v, vs[i]? = some v ∧ (match a with
    | .v x => ∃ G, (∀ b ∈ G, b ∈ F) ∧ Own W H P x.1 v x.2 G
    | .m j => σ[j]? = some (some v)
    | .l k _ => True)
  | _, _, _, .nil, i, a, h => by simp at h
  | _, _, _, .val (x := x) (v := v) (F := F) h t, 0, a, e => by
    simp at e
    subst e
    exact ⟨v, rfl, F, fun b hb => List.mem_append_left _ hb, h⟩
  | _, _, _, .val (x := x) (v := v) (F := F) h t, i + 1, a, e => by
    obtain ⟨u, e1, e2⟩ := OwnA.get t (i := i) (a := a) (by simpa using e)
    refine ⟨u, by simpa using e1, ?_⟩
    cases a with
    | v y => obtain ⟨G, g1, g2⟩ := e2; exact ⟨G, fun b hb => List.mem_append_right _ (g1 b hb), g2⟩
    | m j => exact e2
    | l k is => trivial
  | _, _, _, .mut (v := v) h t, 0, a, e => by
    simp at e
    subst e
    exact ⟨v, rfl, h⟩
  | _, _, _, .mut (v := v) h t, i + 1, a, e => by
    obtain ⟨u, e1, e2⟩ := OwnA.get t (i := i) (a := a) (by simpa using e)
    exact ⟨u, by simpa using e1, e2⟩
  | _, _, _, .lam (f := f) h t, 0, a, e => by
    simp at e
    subst e
    exact ⟨.ref f, rfl, trivial⟩
  | _, _, _, .lam (f := f) h t, i + 1, a, e => by
    obtain ⟨u, e1, e2⟩ := OwnA.get t (i := i) (a := a) (by simpa using e)
    exact ⟨u, by simpa using e1, e2⟩

theorem FsOf_mem {a : Addr} {i : Nat} (h : a ∈ FsOf Fs as i) : ∃ j, as[i]? = some (.m j) ∧ a ∈ Fs j := by
  unfold FsOf at h
  cases e : as[i]? with
  | none => rw [e] at h; cases h
  | some b =>
    rw [e] at h
    cases b with
    | v y => cases h
    | m j => exact ⟨j, rfl, h⟩
    | l k is => cases h
theorem Own.frzV {P P' : Addr → Prop} (h1 : ∀ a, P a → H a ≠ none → P' a) (o : Own W H P x.1 v x.2 F) (hF : ∀ a ∈ F, P' a) : Own W H P' (frzV x).1 v (frzV x).2 [] := by
  unfold BV.frzV
  by_cases c : x.2.imm = true
  · rw [if_pos c]; exact (o.of_imm c).2 _ _
  · rw [if_neg c]; exact Own.freeze h1 o hF

/-- the values at hand are shared with the callee; it runs from here -/
theorem PostA.callee (p : PostA W H Z Fs σ H1 Z1 env Fs1 as vs F) (nd : (lentOf as).Nodup) (ha : argsOf mp env 0 as = some args) :
    Sim W H1 (fun a => Z1 a ∧ a ∉ F) (vs.map some) (args.map some) (FsOf Fs1 as) := by
  obtain ⟨hl, hok⟩ := argsOf_ok ha
  have hvl := p.own.length
  refine ⟨fun i x e => ?_, fun i h => ?_, fun i j a h1 h2 => ?_, fun i => ?_, fun i a h => ?_, fun a h => p.sim.zdom a h.1, by rw [List.length_map, List.length_map, hl, hvl], p.sim.tabs⟩
  · have e' : args[i]? = some x := by
      rw [List.getElem?_map] at e
      cases q : args[i]? with
      | none => rw [q] at e; cases e
      | some y => rw [q] at e; simp at e; rw [e]
    obtain ⟨a, ea, ok⟩ := hok i x e'
    obtain ⟨v, ev, o⟩ := p.own.get ea
    refine ⟨v, by rw [List.getElem?_map, ev]; rfl, ?_⟩
    unfold FsOf
    rw [ea]
    cases a with
    | v y =>
      obtain ⟨G, g1, g2⟩ := o
      rcases ok with ⟨_, rfl⟩ | ⟨im, rfl⟩
      · exact Own.frzV (fun a n _ z => n z.1) g2 (fun a hb z => z.2 (g1 a hb))
      · exact (g2.of_imm im).2 _ _
    | m j =>
      obtain ⟨u, e1, o2⟩ := p.sim.rep j x ok
      have e1' : σ[j]? = some (some v) := o
      rw [e1'] at e1
      cases e1
      exact Own.weak (fun a n _ z => n z.1) o2
    | l k is => exact ok.elim
  · unfold FsOf
    cases e : as[i]? with
    | none => rfl
    | some a =>
      have hi : i < args.length := by rw [hl]; exact (List.getElem?_eq_some_iff.mp e).1
      exact absurd (by rw [List.getElem?_map, List.getElem?_eq_getElem hi]; rfl) (h args[i])
  · obtain ⟨j1, e1, m1⟩ := FsOf_mem h1
    obtain ⟨j2, e2, m2⟩ := FsOf_mem h2
    have := p.sim.dis j1 j2 a m1 m2
    subst this
    exact lent_inj nd e1 e2
  · unfold FsOf
    split
    · exact p.sim.nd _
    · exact List.nodup_nil
  · obtain ⟨j, e1, m1⟩ := FsOf_mem h
    exact ⟨p.sim.sub j a m1, fun z => p.dis a z ⟨j, m1⟩⟩

/-- and behind it -/
theorem PostA.calledW {W' : Wd} (l : W.Like W') (p : PostA W H Z Fs σ H1 Z1 env Fs1 as vs F) (nd : (lentOf as).Nodup) (q : PostE W' H1 (fun a => Z1 a ∧ a ∉ F) (FsOf Fs1 as) (vs.map some) H2 Z2 back Fp x v Fx)
    (cx : ∀ {P : Addr → Prop} {F : List Addr}, Own W' H2 P x.1 v x.2 F → Own W H2 P x.1 v x.2 F) (cb : ∀ {i : Nat} {y : Val}, back[i]? = some (some y) → ∀ {v : V} {P : Addr → Prop} {F : List Addr}, Own W' H2 P y.1 v y.2 F → Own W H2 P y.1 v y.2 F) :
    PostE W H Z Fs σ H2 Z2 (putBack back as env) (FsBack Fs1 Fp as) x v Fx := by
  have s1 : Step W H Z Fs H1 (fun a => Z1 a ∧ a ∉ F) Fs1 [] := ⟨p.st.fr, fun a z => p.st.zin a z.1, fun a z n => ⟨p.st.zkeep a z n, fun z' => (p.st.own a (.inr z')).elim n (p.zd a z)⟩, fun a h => p.st.own a (.inl (h.elim id fun z => nomatch z))⟩
  have hFp : ∀ {a}, OF (FsOf Fs1 as) a → ∃ (i j : Nat), as[i]? = some (AV.m j) ∧ a ∈ Fs1 j := fun {a} ⟨i, h⟩ => by
    obtain ⟨j, e, m⟩ := FsOf_mem h
    exact ⟨i, j, e, m⟩
  have hFO : ∀ {a}, OF (FsOf Fs1 as) a → OF Fs1 a := fun {a} h => let ⟨_, j, _, m⟩ := hFp h; ⟨j, m⟩
  have hB : ∀ {a j}, a ∈ FsBack Fs1 Fp as j → (∃ i, lentAt as j = some i ∧ a ∈ Fp i) ∨ (lentAt as j = none ∧ a ∈ Fs1 j) := fun {a j} h => by
    unfold FsBack at h
    cases e : lentAt as j with
    | none => rw [e] at h; exact .inr ⟨rfl, h⟩
    | some i => rw [e] at h; exact .inl ⟨i, rfl, h⟩
  -- a slot that is not lent is apart from what the callee had
  have apart : ∀ {a j}, lentAt as j = none → a ∈ Fs1 j → ¬ OF (FsOf Fs1 as) a := fun {a j} e h z => by
    obtain ⟨i, j', e', m⟩ := hFp z
    have := p.sim.dis j j' a h m
    subst this
    exact lentAt_none e i e'
  have dom1 : ∀ {a j}, a ∈ Fs1 j → H1 a ≠ none := fun {a j} h => p.sim.zdom a (p.sim.sub j a h)
  have apart2 : ∀ {a j}, lentAt as j = none → a ∈ Fs1 j → ¬ (OF Fp a ∨ a ∈ Fx) := fun {a j} e h z => (q.st.own a z).elim (apart e h) (dom1 h)
  have s2 : Step W H1 (fun a => Z1 a ∧ a ∉ F) Fs1 H2 Z2 (FsBack Fs1 Fp as) Fx := by
    refine ⟨⟨fun a o h k t => q.st.fr.keep a o h (k.imp (fun n z => n (hFO z)) id) t, by rw [← l.T]; exact q.st.fr.tabs, q.st.fr.there⟩, q.st.zin, fun a z n => q.st.zkeep a z fun z' => n (hFO z'), fun a h => ?_⟩
    rcases h with ⟨j, h⟩ | h
    · rcases hB h with ⟨i, _, m⟩ | ⟨_, m⟩
      · exact (q.st.own a (.inl ⟨i, m⟩)).imp hFO id
      · exact .inl ⟨j, m⟩
    · exact (q.st.own a (.inr h)).imp hFO id
  have get : ∀ j, (putBack back as env)[j]? = match lentAt as j with
      | some i => if j < env.length then some (back[i]?).join else none
      | none => env[j]? := fun j => by
    unfold putBack
    rw [List.getElem?_mapIdx]
    by_cases hj : j < env.length
    · rw [List.getElem?_eq_getElem hj]
      cases lentAt as j <;> simp [hj]
    · rw [List.getElem?_eq_none (Nat.le_of_not_lt hj)]
      cases lentAt as j <;> simp [hj]
  refine ⟨by have := s1.seq p.zd s2; simpa using this, ⟨fun j y e => ?_, fun j h => ?_, fun j k a h1 h2 => ?_, fun j => ?_, fun j a h => ?_, q.sim.zdom, by unfold putBack; rw [List.length_mapIdx]; exact p.sim.len, by rw [← l.T]; exact q.sim.tabs⟩, ⟨cx q.pd.own, q.pd.nd, q.pd.sub, fun a ha z => ?_⟩⟩
  · rw [get] at e
    unfold FsBack
    cases el : lentAt as j with
    | some i =>
      rw [el] at e
      dsimp only at e ⊢
      split at e
      · have eb : back[i]? = some (some y) := by
          cases qb : back[i]? with
          | none => rw [qb] at e; simp at e
          | some o => rw [qb] at e; simpa using e
        obtain ⟨u, e1, o⟩ := q.sim.rep i y eb
        obtain ⟨u', e2, e3⟩ := p.own.get (lentAt_some el)
        rw [List.getElem?_map, e2] at e1
        cases e1
        exact ⟨_, e3, cb eb o⟩
      · cases e
    | none =>
      rw [el] at e
      dsimp only at e ⊢
      obtain ⟨u, e1, o⟩ := p.sim.rep j y e
      refine ⟨u, e1, ?_⟩
      have o1 : Own W H1 (fun a => ¬ (Z1 a ∧ a ∉ F)) y.1 u y.2 (Fs1 j) := Own.weak (fun a n _ z => n z.1) o
      exact Own.later (fun a z => let ⟨i, j', e', m⟩ := hFp z; ⟨p.sim.sub j' a m, fun z' => p.dis a z' ⟨j', m⟩⟩) o1 (fun a ha => apart el ha) ⟨⟨q.st.fr.keep, by rw [← l.T]; exact q.st.fr.tabs, q.st.fr.there⟩, q.st.zin, q.st.zkeep, q.st.own⟩
  · unfold FsBack
    cases el : lentAt as j with
    | some i =>
      refine q.sim.off i fun y eb => h y ?_
      rw [get, el]
      have hj : j < env.length := by
        obtain ⟨u', e2, e3⟩ := p.own.get (lentAt_some el)
        rw [p.sim.len]
        exact (List.getElem?_eq_some_iff.mp e3).1
      dsimp only
      rw [if_pos hj, eb]
      rfl
    | none =>
      refine p.sim.off j fun y e => h y ?_
      rw [get, el]
      exact e
  · rcases hB h1 with ⟨i, e1, m1⟩ | ⟨e1, m1⟩
    · rcases hB h2 with ⟨i', e2, m2⟩ | ⟨e2, m2⟩
      · have := q.sim.dis i i' a m1 m2
        subst this
        have a1 := lentAt_some e1
        have a2 := lentAt_some e2
        rw [a1] at a2
        cases a2
        rfl
      · exact absurd (Or.inl ⟨i, m1⟩) (apart2 e2 m2)
    · rcases hB h2 with ⟨i', e2, m2⟩ | ⟨e2, m2⟩
      · exact absurd (Or.inl ⟨i', m2⟩) (apart2 e1 m1)
      · exact p.sim.dis j k a m1 m2
  · unfold FsBack
    cases lentAt as j with
    | some i => exact q.sim.nd i
    | none => exact p.sim.nd j
  · rcases hB h with ⟨i, _, m⟩ | ⟨e, m⟩
    · exact q.sim.sub i a m
    · exact q.st.zkeep a ⟨p.sim.sub j a m, fun z => p.dis a z ⟨j, m⟩⟩ (apart e m)
  · obtain ⟨j, z⟩ := z
    rcases hB z with ⟨i, _, m⟩ | ⟨e, m⟩
    · exact q.pd.dis a ha ⟨i, m⟩
    · exact apart2 e m (.inr ha)
theorem PostA.called (p : PostA W H Z Fs σ H1 Z1 env Fs1 as vs F) (nd : (lentOf as).Nodup) (q : PostE W H1 (fun a => Z1 a ∧ a ∉ F) (FsOf Fs1 as) (vs.map some) H2 Z2 back Fp x v Fx) :
    PostE W H Z Fs σ H2 Z2 (putBack back as env) (FsBack Fs1 Fp as) x v Fx := PostA.calledW ⟨rfl, rfl, rfl⟩ p nd q id fun _ _ _ _ o => o
end
end BV
set_option maxHeartbeats 2000000
/-! BV10: calls as expressions. -/
namespace BV
open PySem PySem.Spec PyProof.Rows L2

section
variable {W : Wd} {w : WX} {σ : L2.St} {H H1 H2 : Hp} {Z Z1 Z2 : Addr → Prop} {Fs Fs1 Fs2 Fp : Nat → List Addr} {env env1 back : Env} {as : List AV} {vs : List V} {F Fx : List Addr} {x : Val} {v : V} {mp : List Nat} {args : List Val}

/-- from arguments at hand to the callee's promise -/
theorem PostA.promise {n : Nat} {g : List Val → CO} {Q : VK} (p : PostA W H Z Fs σ H1 Z1 env Fs1 as vs F) (h : Fin W w σ H Z Fs (mCallF mp n g as env) Q) : spD W n g vs H1 Q (WE w σ) := by
  unfold mCallF at h
  by_cases c : as.length = n ∧ (lentOf as).Nodup
  · rw [if_pos c] at h
    cases ea : argsOf mp env 0 as with
    | none => rw [ea] at h; exact h.elim
    | some args =>
      rw [ea] at h
      dsimp only at h
      have hl := (argsOf_ok ea).1
      refine ⟨_, args, _, by rw [p.own.length, c.1], by rw [hl, c.1], p.callee c.2 ea, ?_⟩
      cases eg : g args with
      | ok x back =>
        rw [eg] at h
        exact fun H' Z' Fp' v Fx q => h _ _ _ _ _ (p.called c.2 q)
      | exc ce fs back =>
        rw [eg] at h
        intro H' Z' Fp' cls dd q
        have q2 := p.called c.2 (x := (.all, .non)) (v := .non) (Fx := []) ⟨q.st, q.sim, pend_imm .non⟩
        exact h H' Z' _ cls dd ⟨q2.st, q2.sim, q.cls, q.fld⟩
      | bad => rw [eg] at h; exact h.elim
  · rw [if_neg c] at h; exact h.elim
theorem rd_call {n : Nat} {g : List Val → CO} {ma : M (List AV)} {Q : VK} (h : rdE W w (mCall mp n g ma) σ H Q) : rdAV W w ma σ H fun vs H1 => spD W n g vs H1 Q (WE w σ) := by
  obtain ⟨Z, env, Fs, S, h⟩ := h
  refine ⟨Z, env, Fs, S, ?_⟩
  have h : Fin W w σ H Z Fs ((ma env).bind fun as => mCallF mp n g as) Q := h
  cases e : ma env with
  | ok as e1 =>
    rw [e] at h
    exact fun H1 Z1 Fs1 vs F p => p.promise h
  | exc c fs e1 => rw [e] at h; exact h
  | bad => rw [e] at h; exact h
end

section
variable {X : Cx} {cv : CV} {W W' : Wd} {mp : List Nat} {n k : Nat} {g : List Val → CO} {ma : M (List AV)} {f : Addr} {fd : FuncData} {ps : List Str} {x : Str} {p pos : Pos} {e : Expr} {es : List Expr}
/-- what a call of a def asks: the promise, in the caller's world -/
theorem run_fnS {CX : CXT} {sp : Shared → List Addr → Sp} {E : L2.St → XK} {ds : List Value} {dvs : List V} {pins : List (Addr × Obj)} {σ : L2.St} {H : Hp} {s : Shared} {Q : VK} {us : List Value} {vs : List V} (F : FnS X.prog X.w X.K X.mg X.base CX k f fd ps sp) (hr : Room k X.A) (hb : Binds X.K fd ps ds) (hd : Vals dvs ds) (hx : PassesAt CX X σ (E σ))
    (I : Inv X pins σ H s) (r : Vals vs us) (h : sp s (frs X.stack) (vs ++ dvs) H Q (E σ)) : wpAny (model X.prog X.w) X.A (call (.ref f) us) (EP X pins σ Q) X.xe s := by
  have r2 : Vals (vs ++ dvs) (us ++ ds) := r.append hd
  have hl : (us ++ ds).length = ps.length := by rw [← r2.length]; exact F.len _ _ _ _ _ _ h
  refine wpAny_call (codeAny_mono (F.run X.A X.stack s H ⟨us, []⟩ (us ++ ds) (vs ++ dvs) Q (E σ) hr I.env0 (hb s us I.kIn hl) r2 h) fun r s' hq => ?_)
  cases r with
  | error e => exact hx pins H s e s' I hq
  | ok fl =>
    cases fl with
    | ret u => exact I.after hq
    | next => exact False.elim hq
    | brk => exact False.elim hq
    | cont => exact False.elim hq
theorem ge_call (F : FnS X.prog X.w X.K X.mg X.base (L2.CX X.prog X.w) k f fd ps (spS cv W n g)) (hl : W.Like W') (hcv : CVX cv W' X) (hr : Room k X.A) (hg : Gl X x) (hm : X.mg x = some (.ref f)) (hk : PySem.W.keepIn X.K (.ref f) = true) (hb : Binds X.K fd ps [])
    (ha : GAV X W' (e :: es) ma) (hdb : (x == ("__debug__" : Str)) = false) (he : starEach (e :: es) X.env = (false, eval e X.env) :: starEach es X.env) (hpl : (backTo pos (starEach es X.env)).any (·.1) = false) :
    GE X W' (.Call (.Name x p) (e :: es) [] pos) (mCall mp n g ma) := fun w tk => by
  refine ⟨fun pins s σ H Q I h => ?_⟩
  refine wpAny_Call_Name_kw (ld_glob I hg hm ?_ hdb)
  refine PySem.W.callWith_K (h₀ := X.base) I.ok.mod.kin hk (thn ((ha w tk).run pos pins s σ H _ I (rd_call h)) fun us s1 ⟨vs, H1, I1, r, q⟩ => ⟨I1.kIn, ?_⟩) he hpl
  exact run_fnS (E := WE w) F hr hb .nil (passAt tk σ) I1 r ⟨W', hl, hcv _ _ _ _ I1, by rw [List.append_nil]; exact q⟩
theorem ge_call0 (F : FnS X.prog X.w X.K X.mg X.base (L2.CX X.prog X.w) k f fd ps (spS cv W n g)) (hl : W.Like W') (hcv : CVX cv W' X) (hr : Room k X.A) (hg : Gl X x) (hm : X.mg x = some (.ref f)) (hk : PySem.W.keepIn X.K (.ref f) = true) (hb : Binds X.K fd ps [])
    (hdb : (x == ("__debug__" : Str)) = false) : GE X W' (.Call (.Name x p) [] [] pos) (mCall mp n g mANil) := fun w tk => by
  refine ⟨fun pins s σ H Q I h => ?_⟩
  refine wpAny_Call_Name_kw (ld_glob I hg hm ?_ hdb)
  obtain ⟨Z, env, Fs, S, h1⟩ := rd_call h
  exact PySem.W.callWith_K0 I.kIn hk (run_fnS (E := WE w) (us := []) F hr hb .nil (passAt tk σ) I .nil ⟨W', hl, hcv _ _ _ _ I, h1 _ _ _ _ _ (PostA.start S)⟩)
end
end BV
set_option maxHeartbeats 2000000
/-! BV11: items, slices, concatenations, lengths of lists, tuples, texts. -/
namespace BV
open PySem PySem.Spec PyProof.Rows L2

section
variable {W : Wd} {w : WX} {σ : L2.St} {H H1 H2 : Hp} {Z Z1 Z2 : Addr → Prop} {Fs Fs1 Fs2 : Nat → List Addr} {env env1 : Env} {xs ys : List Val} {vs us : List V} {F G Fx : List Addr} {x : Val} {v : V} {Q : VK}
/-- a part of what is at hand -/
theorem PostL.part {m : Mode} {d : D} (p : PostL W H Z Fs σ H1 Z1 env Fs1 xs vs F) (o : Own W H1 (fun a => ¬ Z1 a) m v d G) (hG : ∀ a ∈ G, a ∈ F) (hn : G.Nodup) : PostE W H Z Fs σ H1 Z1 env Fs1 (m, d) v G :=
  ⟨p.st.less hG, p.sim, ⟨o, hn, fun a ha => p.sub a (hG a ha), fun a ha => p.dis a (hG a ha)⟩⟩
theorem PostE.nrm (q : PostE W H Z Fs σ H1 Z1 env Fs1 x v F) : ∃ F', PostE W H Z Fs σ H1 Z1 env Fs1 (nrm x) v F' := by
  unfold BV.nrm
  by_cases c : x.2.imm = true
  · rw [if_pos c]
    exact ⟨[], q.st.less (fun _ z => nomatch z), q.sim, pend_imm ((q.pd.own.of_imm c).2 _ _)⟩
  · rw [if_neg c]; exact ⟨F, q⟩
theorem PostL.partN {m : Mode} {d : D} (p : PostL W H Z Fs σ H1 Z1 env Fs1 xs vs F) (o : Own W H1 (fun a => ¬ Z1 a) m v d G) (hG : ∀ a ∈ G, a ∈ F) (hn : G.Nodup) (h : Fin W w σ H Z Fs (.ok (BV.nrm (m, d)) env) Q) : Q v H1 := by
  obtain ⟨F', q⟩ := (p.part o hG hn).nrm
  exact h _ _ _ _ _ q
theorem Owns.get {P : Addr → Prop} : ∀ {m vs ds F}, Owns W H P m vs ds F → ∀ {i : Nat} {d : D}, ds[i]? = some d → ∃ v G, vs[i]? = some v ∧ Own W H P m v d G ∧ (∀ a ∈ G, a ∈ F) ∧ (F.Nodup → G.Nodup)
  | _, _, _, _, .nil, i, d, e => by simp at e
  | _, _, _, _, .cons (v := v) (F := F) h t, 0, d, e => by
    simp at e
    subst e
    exact ⟨v, F, rfl, h, fun a ha => List.mem_append_left _ ha, fun n => (List.nodup_append.mp n).1⟩
  | _, _, _, _, .cons (F := F) h t, i + 1, d, e => by
    obtain ⟨v, G, e1, o, hG, hn⟩ := Owns.get t (i := i) (d := d) (by simpa using e)
    exact ⟨v, G, by simpa using e1, o, fun a ha => List.mem_append_right _ (hG a ha), fun n => hn (List.nodup_append.mp n).2.1⟩
theorem Owns.length {P : Addr → Prop} : ∀ {m vs ds F}, Owns W H P m vs ds F → vs.length = ds.length
  | _, _, _, _, .nil => rfl
  | _, _, _, _, .cons _ t => by simp [Owns.length t]
/-- a list at hand: its items -/
theorem Own.lst_inv {P : Addr → Prop} {m : Mode} {ds : List D} (o : Own W H P m v (.lst ds) F) : ∃ a ws G, v = .ref a ∧ H a = some (.lst ws) ∧ Owns W H P m.pred ws ds G ∧ (∀ b ∈ G, b ∈ F) ∧ (F.Nodup → G.Nodup) := by
  generalize ed : D.lst ds = d at o
  cases o with
  | lstS p e h => cases ed; exact ⟨_, _, _, rfl, e, h, fun b hb => hb, id⟩
  | lstO n e h => cases ed; exact ⟨_, _, _, rfl, e, h, fun b hb => List.mem_cons_of_mem _ hb, fun n => (List.nodup_cons.mp n).2⟩
  | _ => cases ed
theorem Own.tup_inv {P : Addr → Prop} {m : Mode} {ds : List D} (o : Own W H P m v (.tup ds) F) : ∃ a ws, v = .ref a ∧ H a = some (.tup ws) ∧ Owns W H P m ws ds F := by
  generalize ed : D.tup ds = d at o
  cases o with
  | tup e h => cases ed; exact ⟨_, _, rfl, e, h⟩
  | _ => cases ed
theorem atI_at {α : Type} {xs : List α} {i : Int} {a : α} (h : atI xs i = some a) : ∃ j, ixN xs.length i = some j ∧ xs[j]? = some a := by
  unfold atI at h
  cases e : ixN xs.length i with
  | none => rw [e] at h; cases h
  | some j => rw [e] at h; exact ⟨j, rfl, h⟩
theorem Owns.atI {P : Addr → Prop} {m : Mode} {ds : List D} {i : Int} {d : D} (o : Owns W H P m vs ds F) (h : L2.atI ds i = some d) : ∃ v G, L2.atI vs i = some v ∧ Own W H P m v d G ∧ (∀ a ∈ G, a ∈ F) ∧ (F.Nodup → G.Nodup) := by
  obtain ⟨j, e, g⟩ := atI_at h
  obtain ⟨v, G, e1, o1, hG, hn⟩ := o.get g
  refine ⟨v, G, ?_, o1, hG, hn⟩
  unfold L2.atI
  rw [o.length, e]
  exact e1
end

/-! ### x[i] -/
def gIx (x : Val) : D → Option Val
  | .int i => (match x.2 with
    | .lst ds => (atI ds i).map fun d => nrm (x.1.pred, d)
    | .tup ds => (atI ds i).map fun d => nrm (x.1, d)
    | .str z => if z.length ≤ sizeLine then (atI z.cps.toList i).map fun c => (.all, .str ⟨#[c]⟩) else none
    | _ => none)
  | _ => none
def mOpV (g : Val → D → Option Val) (ma mb : M Val) : M Val := ma.bind fun x => mb.bind fun y => match g x y.2 with
  | some z => M.pure z
  | none => M.bad
/-- the rule r answers as g says, parts of the former included -/
def SaysV (r : R2) (W : Wd) (g : Val → D → Option Val) : Prop := ∀ (x y z : Val) (w : WX) (σ : L2.St) (H : Hp) (Z : Addr → Prop) (Fs : Nat → List Addr) (H1 : Hp) (Z1 : Addr → Prop) (env : Env) (Fs1 : Nat → List Addr) (v u : V) (F : List Addr) (Q : VK),
  g x y.2 = some z → PostL W H Z Fs σ H1 Z1 env Fs1 [x, y] [v, u] F → Fin W w σ H Z Fs (.ok z env) Q → r v u H1 Q
section
variable {X : Cx} {W : Wd} {a b : Expr} {pos : Pos} {ma mb : M Val}
theorem ge_opV {e : Expr} {r : R2} {g : Val → D → Option Val} (rule : ∀ ta tb, PE X a ta → PE X b tb → PE X e (tOp r ta tb)) (hr : SaysV r W g) (ha : GE X W a ma) (hb : GE X W b mb) : GE X W e (mOpV g ma mb) := fun w tk => by
  refine pe_imp (rule _ _ (ha w tk) (hb w tk)) fun σ H Q h => ?_
  refine rdE_mono (rd_first h) fun v H1 ⟨Z, Fs, Z2, env2, Fs2, x, Fx, p, h2⟩ => ?_
  refine rdE_mono (rd_more p h2) fun u H2 ⟨Z3, e3, Fs3, y, Fy, p2, h3⟩ => ?_
  cases eg : g x y.2 with
  | none => rw [eg] at h3; exact h3.elim
  | some z =>
    rw [eg] at h3
    exact hr x y z w σ H Z Fs H2 Z3 e3 Fs3 v u _ Q eg p2 h3
abbrev rIxA (K : PySem.W.Frag) : R2 := fun x y H Q => rIxL K x y H Q ∨ (rIxT K x y H Q ∨ rIxS x y H Q)
theorem says_ix : SaysV (rIxA W.K) W gIx := by
  intro x y z w σ H Z Fs H1 Z1 env Fs1 v u F Q eg p h
  obtain ⟨m, d⟩ := x
  obtain ⟨m2, d2⟩ := y
  obtain ⟨F1, F2, eF, o1, o2⟩ := p.own.inv2
  cases d2 with
  | int i =>
    have eu := o2.int_inv
    subst eu
    simp only [gIx] at eg
    cases d with
    | lst ds =>
      simp only [Option.map_eq_some_iff] at eg
      obtain ⟨d, ed, rfl⟩ := eg
      obtain ⟨a, ws, G, rfl, ha, hs, hG, hn⟩ := o1.lst_inv
      obtain ⟨v', G', e', o', hG', hn'⟩ := hs.atI ed
      have nF : F1.Nodup := (List.nodup_append.mp (eF ▸ p.nd)).1
      exact .inl ⟨a, ws, i, v', rfl, rfl, SqL.of ha, e', p.partN o' (fun b hb => by rw [eF]; exact List.mem_append_left _ (hG b (hG' b hb))) (hn' (hn nF)) h⟩
    | tup ds =>
      simp only [Option.map_eq_some_iff] at eg
      obtain ⟨d, ed, rfl⟩ := eg
      obtain ⟨a, ws, rfl, ha, hs⟩ := o1.tup_inv
      obtain ⟨v', G', e', o', hG', hn'⟩ := hs.atI ed
      have nF : F1.Nodup := (List.nodup_append.mp (eF ▸ p.nd)).1
      exact .inr (.inl ⟨a, ws, i, v', rfl, rfl, SqT.of ha, e', p.partN o' (fun b hb => by rw [eF]; exact List.mem_append_left _ (hG' b hb)) (hn' nF) h⟩)
    | str s =>
      dsimp only at eg
      split at eg
      · rename_i c
        simp only [Option.map_eq_some_iff] at eg
        obtain ⟨c1, ec, rfl⟩ := eg
        have := o1.str_inv
        subst this
        exact .inr (.inr ⟨s, i, c1, rfl, rfl, c, ec, p.fin h fun _ => .str _⟩)
      · cases eg
    | _ => cases eg
  | _ => simp only [gIx] at eg; cases eg
theorem ge_ix (hK : W.K = X.K) (ha : GE X W a ma) (hb : GE X W b mb) (hs : PlainIx b) : GE X W (.Subscript a b pos) (mOpV gIx ma mb) :=
  ge_opV (fun _ _ h1 h2 => pe_ix (r := rIxA W.K) (by rw [hK]; exact ix_list.or (ix_tup.or ix_str)) h1 h2 hs) says_ix ha hb
end

/-! ### x + y -/
section
variable {W : Wd} {w : WX} {σ : L2.St} {H H1 H2 : Hp} {Z Z1 Z2 : Addr → Prop} {Fs Fs1 Fs2 : Nat → List Addr} {env env1 : Env} {xs ys : List Val} {vs us : List V} {F G Fx : List Addr} {x : Val} {v : V} {Q : VK}
/-- a new list of items that stand in what is at hand: ds; all wholly owned if k -/
def newL (k : Bool) (ds : List D) : Val := if k || immAll ds then (.all, .lst ds) else (.top, .lst ds)
/-- a new tuple likewise -/
def newT (k : Bool) (ds : List D) : Val := if k || immAll ds then (.all, .tup ds) else (.shr, .tup ds)
theorem Owns.freeze' {P P' : Addr → Prop} {m : Mode} {ds : List D} (h1 : ∀ a, P a → H a ≠ none → P' a) (o : Owns W H P m vs ds F) (hF : ∀ a ∈ F, P' a) : Owns W H P' .shr vs ds [] := Owns.freeze h1 o hF
/-- the things at hand are given free, without their values -/
theorem PostL.free (p : PostL W H Z Fs σ H1 Z1 env Fs1 xs vs F) : PostL W H Z Fs σ H1 (fun a => Z1 a ∧ a ∉ F) env Fs1 [] [] [] :=
  ⟨⟨p.st.fr, fun a z => p.st.zin a z.1, fun a z n => ⟨p.st.zkeep a z n, fun z' => (p.st.own a (.inr z')).elim n (p.zd a z)⟩, fun a h => p.st.own a (.inl (h.elim id fun z => nomatch z))⟩,
    p.sim.free (fun a z => z.1) (fun a z => ⟨p.sim.subO z, fun z' => p.dis a z' z⟩), .nil, List.nodup_nil, fun _ z => (nomatch z), fun _ z => (nomatch z), p.zd⟩
theorem PostL.layL {k : Bool} {m : Mode} {ws : List V} {ds : List D} {q : Addr} (p : PostL W H Z Fs σ H1 Z1 env Fs1 xs vs F) (n : H1 q = none) (o : Owns W H1 (fun a => ¬ Z1 a) m ws ds G) (hk : k = true → m = .all) (hG : ∀ a ∈ G, a ∈ F) (hn : G.Nodup)
    (h : Fin W w σ H Z Fs (.ok (newL k ds) env) Q) : Q (.ref q) (upd H1 q (.lst ws)) := by
  unfold BV.newL at h
  by_cases i : immAll ds = true
  · rw [i, Bool.or_true, if_pos rfl] at h
    have o2 := (o.of_imm i).2 .all (fun a => ¬ Z1 a)
    exact h _ _ _ _ _ (p.newLst (m := .all) n (fun z => nomatch z) o2 (fun _ z => (nomatch z)) List.nodup_nil)
  · cases k with
    | true =>
      rw [Bool.true_or, if_pos rfl] at h
      have := hk rfl
      subst this
      exact h _ _ _ _ _ (p.newLst (m := .all) n (fun z => nomatch z) o hG hn)
    | false =>
      rw [Bool.false_or, if_neg i] at h
      have o2 : Owns W H1 (fun a => ¬ (Z1 a ∧ a ∉ F)) .shr ws ds [] := Owns.freeze (fun a k _ z => k z.1) o fun a ha z => z.2 (hG a ha)
      exact h _ _ _ _ _ (p.free.newLst (m := .shr) n (fun z => nomatch z) o2 (fun _ z => (nomatch z)) List.nodup_nil)
theorem PostL.layT {k : Bool} {m : Mode} {ws : List V} {ds : List D} {q : Addr} (p : PostL W H Z Fs σ H1 Z1 env Fs1 xs vs F) (n : H1 q = none) (o : Owns W H1 (fun a => ¬ Z1 a) m ws ds G) (hk : k = true → m = .all) (hG : ∀ a ∈ G, a ∈ F) (hn : G.Nodup)
    (h : Fin W w σ H Z Fs (.ok (newT k ds) env) Q) : Q (.ref q) (upd H1 q (.tup ws)) := by
  unfold BV.newT at h
  by_cases i : immAll ds = true
  · rw [i, Bool.or_true, if_pos rfl] at h
    have o2 := (o.of_imm i).2 .all (fun a => ¬ Z1 a)
    exact h _ _ _ _ _ (p.newTup n o2 (fun _ z => (nomatch z)) List.nodup_nil)
  · cases k with
    | true =>
      rw [Bool.true_or, if_pos rfl] at h
      have := hk rfl
      subst this
      exact h _ _ _ _ _ (p.newTup n o hG hn)
    | false =>
      rw [Bool.false_or, if_neg i] at h
      have o2 : Owns W H1 (fun a => ¬ (Z1 a ∧ a ∉ F)) .shr ws ds [] := Owns.freeze (fun a k _ z => k z.1) o fun a ha z => z.2 (hG a ha)
      exact h _ _ _ _ _ (p.free.newTup n o2 (fun _ z => (nomatch z)) List.nodup_nil)
/-- two rows of items at hand, both wholly owned or both shared from now on -/
theorem Owns.append {P : Addr → Prop} {m : Mode} {es : List D} (o : Owns W H P m us es G) : ∀ {vs : List V} {ds : List D} {F : List Addr}, Owns W H P m vs ds F → Owns W H P m (vs ++ us) (ds ++ es) (F ++ G)
  | _, _, _, .nil => o
  | _, _, _, .cons h t => by
    rw [List.append_assoc]
    exact .cons h (Owns.append o t)
theorem Owns.drop {P : Addr → Prop} {m : Mode} : ∀ {vs : List V} {ds : List D} {F : List Addr} (n : Nat), Owns W H P m vs ds F → ∃ G, Owns W H P m (vs.drop n) (ds.drop n) G ∧ (∀ a ∈ G, a ∈ F) ∧ (F.Nodup → G.Nodup)
  | _, _, F, 0, h => ⟨F, h, fun _ z => z, id⟩
  | _, _, _, n + 1, .nil => ⟨[], .nil, fun _ z => z, id⟩
  | _, _, _, n + 1, .cons h t => by
    obtain ⟨G, a, b, c⟩ := Owns.drop n t
    exact ⟨G, a, fun x hx => List.mem_append_right _ (b x hx), fun nd => c (List.nodup_append.mp nd).2.1⟩
theorem Owns.take {P : Addr → Prop} {m : Mode} : ∀ {vs : List V} {ds : List D} {F : List Addr} (n : Nat), Owns W H P m vs ds F → ∃ G, Owns W H P m (vs.take n) (ds.take n) G ∧ (∀ a ∈ G, a ∈ F) ∧ (F.Nodup → G.Nodup)
  | _, _, F, 0, h => ⟨[], .nil, fun _ z => (nomatch z), fun _ => List.nodup_nil⟩
  | _, _, _, n + 1, .nil => ⟨[], .nil, fun _ z => z, id⟩
  | _, _, _, n + 1, .cons (F := F) h t => by
    obtain ⟨G, a, b, c⟩ := Owns.take n t
    refine ⟨F ++ G, .cons h a, fun x hx => (List.mem_append.mp hx).elim (fun z => List.mem_append_left _ z) fun z => List.mem_append_right _ (b x z), fun nd => ?_⟩
    obtain ⟨n1, n2, n3⟩ := List.nodup_append.mp nd
    exact List.nodup_append.mpr ⟨n1, c n2, fun x hx y hy => n3 x hx y (b y hy)⟩
theorem Owns.rep {P : Addr → Prop} {ds : List D} (o : Owns W H P .shr vs ds []) : ∀ k : Nat, Owns W H P .shr (List.replicate k vs).flatten (List.replicate k ds).flatten []
  | 0 => .nil
  | k + 1 => by
    rw [List.replicate_succ, List.replicate_succ, List.flatten_cons, List.flatten_cons]
    exact Owns.append (F := []) (Owns.rep o k) o
/-- an existing tuple as a new one -/
theorem PostL.reT {k : Bool} {m : Mode} {ds : List D} (p : PostL W H Z Fs σ H1 Z1 env Fs1 xs vs F) (o : Own W H1 (fun a => ¬ Z1 a) m v (.tup ds) G) (hk : k = true → m = .all) (hG : ∀ a ∈ G, a ∈ F) (hn : G.Nodup)
    (h : Fin W w σ H Z Fs (.ok (BV.newT k ds) env) Q) : Q v H1 := by
  unfold BV.newT at h
  by_cases i : immAll ds = true
  · rw [i, Bool.or_true, if_pos rfl] at h
    exact h _ _ _ _ _ (p.part ((o.of_imm (by simpa only [D.imm] using i)).2 .all _) (fun _ z => (nomatch z)) List.nodup_nil)
  · cases k with
    | true =>
      rw [Bool.true_or, if_pos rfl] at h
      have := hk rfl
      subst this
      exact h _ _ _ _ _ (p.part o hG hn)
    | false =>
      rw [Bool.false_or, if_neg i] at h
      have o2 : Own W H1 (fun a => ¬ (Z1 a ∧ a ∉ F)) .shr v (.tup ds) [] := Own.freeze (fun a k _ z => k z.1) o fun a ha z => z.2 (hG a ha)
      exact h _ _ _ _ _ (p.free.part o2 (fun _ z => (nomatch z)) List.nodup_nil)
end

/-- the operators + and * with lists and tuples -/
def gCat (x y : Val) : Option Val := match x.2, y.2 with
  | .lst ds, .lst es => if ds.length + es.length ≤ sizeLine then some (newL (x.1 == .all && y.1 == .all) (ds ++ es)) else none
  | .tup ds, .tup es => if ds.length + es.length ≤ sizeLine then some (newT (x.1 == .all && y.1 == .all) (ds ++ es)) else none
  | a, b => (gAdd a b).map fun d => (.all, d)
def gRep (x y : Val) : Option Val := match x.2, y.2 with
  | .lst ds, .int k => if -(2 ^ 63) ≤ k ∧ k < 2 ^ 63 ∧ ds.length * k.toNat ≤ sizeLine then some (newL false (List.replicate k.toNat ds).flatten) else none
  | a, b => (gMul a b).map fun d => (.all, d)
def mOpVV (g : Val → Val → Option Val) (ma mb : M Val) : M Val := ma.bind fun x => mb.bind fun y => match g x y with
  | some z => M.pure z
  | none => M.bad
def SaysVV (r : R2) (W : Wd) (g : Val → Val → Option Val) : Prop := ∀ (x y z : Val) (w : WX) (σ : L2.St) (H : Hp) (Z : Addr → Prop) (Fs : Nat → List Addr) (H1 : Hp) (Z1 : Addr → Prop) (env : Env) (Fs1 : Nat → List Addr) (v u : V) (F : List Addr) (Q : VK),
  g x y = some z → PostL W H Z Fs σ H1 Z1 env Fs1 [x, y] [v, u] F → Fin W w σ H Z Fs (.ok z env) Q → r v u H1 Q
section
variable {X : Cx} {W : Wd} {a b : Expr} {pos : Pos} {ma mb : M Val}
theorem ge_opVV {e : Expr} {r : R2} {g : Val → Val → Option Val} (rule : ∀ ta tb, PE X a ta → PE X b tb → PE X e (tOp r ta tb)) (hr : SaysVV r W g) (ha : GE X W a ma) (hb : GE X W b mb) : GE X W e (mOpVV g ma mb) := fun w tk => by
  refine pe_imp (rule _ _ (ha w tk) (hb w tk)) fun σ H Q h => ?_
  refine rdE_mono (rd_first h) fun v H1 ⟨Z, Fs, Z2, env2, Fs2, x, Fx, p, h2⟩ => ?_
  refine rdE_mono (rd_more p h2) fun u H2 ⟨Z3, e3, Fs3, y, Fy, p2, h3⟩ => ?_
  cases eg : g x y with
  | none => rw [eg] at h3; exact h3.elim
  | some z =>
    rw [eg] at h3
    exact hr x y z w σ H Z Fs H2 Z3 e3 Fs3 v u _ Q eg p2 h3
theorem both_all {m1 m2 : Mode} (h : (m1 == .all && m2 == .all) = true) : m1 = .all ∧ m2 = .all := by
  simp only [Bool.and_eq_true, beq_iff_eq] at h
  exact h
abbrev rCat3 (K : PySem.W.Frag) : R2 := fun x y H Q => rCat x y H Q ∨ (rCatA K x y H Q ∨ (rI0 (fun i j => .int (i + j)) x y H Q ∨ rAddS x y H Q))
theorem says_cat : SaysVV (rCat3 W.K) W gCat := by
  intro x y z w σ H Z Fs H1 Z1 env Fs1 v u F Q eg p h
  obtain ⟨m, d⟩ := x
  obtain ⟨m2, d2⟩ := y
  obtain ⟨F1, F2, eF, o1, o2⟩ := p.own.inv2
  have nF := List.nodup_append.mp (eF ▸ p.nd)
  have s1 : ∀ b ∈ F1, b ∈ F := fun b hb => by rw [eF]; exact List.mem_append_left _ hb
  have s2 : ∀ b ∈ F2, b ∈ F := fun b hb => by rw [eF]; exact List.mem_append_right _ hb
  have other : (gAdd d d2).map (fun d => ((.all : Mode), d)) = some z → rCat3 W.K v u H1 Q := fun e => by
    obtain ⟨d', e', rfl⟩ := Option.map_eq_some_iff.mp e
    exact .inr (.inr (says_add (W := W) (m, d) (m2, d2) d' H1 _ v u F1 F2 Q e' o1 o2 fun z oz => p.fin h oz))
  unfold gCat at eg
  dsimp only at eg
  split at eg
  · rename_i ds es
    split at eg
    · rename_i hl
      simp only [Option.some.injEq] at eg
      subst eg
      obtain ⟨a, ws, G, rfl, ha, hs, hG, hn⟩ := o1.lst_inv
      obtain ⟨b, us, G2, rfl, hb, hs2, hG2, hn2⟩ := o2.lst_inv
      refine .inl ⟨a, b, ws, us, rfl, rfl, ha, hb, by rw [hs.length, hs2.length]; exact hl, fun q n => ?_⟩
      cases k : (m == .all && m2 == .all) with
      | true =>
        obtain ⟨rfl, rfl⟩ := both_all k
        rw [k] at h
        exact p.layL n (Owns.append hs2 hs) (fun _ => rfl) (fun b hb => (List.mem_append.mp hb).elim (fun z => s1 b (hG b z)) fun z => s2 b (hG2 b z))
          (List.nodup_append.mpr ⟨hn nF.1, hn2 nF.2.1, fun x hx y hy => nF.2.2 x (hG x hx) y (hG2 y hy)⟩) h
      | false =>
        rw [k] at h
        have f1 : Owns W H1 (fun a => ¬ (Z1 a ∧ a ∉ F)) .shr ws ds [] := Owns.freeze (fun a k _ z => k z.1) hs fun a ha z => z.2 (s1 a (hG a ha))
        have f2 : Owns W H1 (fun a => ¬ (Z1 a ∧ a ∉ F)) .shr us es [] := Owns.freeze (fun a k _ z => k z.1) hs2 fun a ha z => z.2 (s2 a (hG2 a ha))
        exact p.free.layL (k := false) n (Owns.append f2 f1) (fun z => nomatch z) (fun _ z => z) List.nodup_nil h
    · cases eg
  · rename_i ds es
    split at eg
    · rename_i hl
      simp only [Option.some.injEq] at eg
      subst eg
      obtain ⟨a, ws, rfl, ha, hs⟩ := o1.tup_inv
      obtain ⟨b, us, rfl, hb, hs2⟩ := o2.tup_inv
      refine .inr (.inl ⟨a, b, ws, us, rfl, rfl, SqT.of ha, SqT.of hb, by rw [hs.length, hs2.length]; exact hl, fun e => ?_, fun _ e => ?_, fun _ _ q n => ?_⟩)
      · subst e
        cases hs
        rw [List.nil_append] at h
        exact p.reT o2 (fun k => (both_all k).2) s2 nF.2.1 h
      · subst e
        cases hs2
        rw [List.append_nil] at h
        exact p.reT o1 (fun k => (both_all k).1) s1 nF.1 h
      · cases k : (m == .all && m2 == .all) with
        | true =>
          obtain ⟨rfl, rfl⟩ := both_all k
          rw [k] at h
          exact p.layT n (Owns.append hs2 hs) (fun _ => rfl) (fun b hb => (List.mem_append.mp hb).elim (s1 b) (s2 b)) (List.nodup_append.mpr nF) h
        | false =>
          rw [k] at h
          have f1 : Owns W H1 (fun a => ¬ (Z1 a ∧ a ∉ F)) .shr ws ds [] := Owns.freeze (fun a k _ z => k z.1) hs fun a ha z => z.2 (s1 a ha)
          have f2 : Owns W H1 (fun a => ¬ (Z1 a ∧ a ∉ F)) .shr us es [] := Owns.freeze (fun a k _ z => k z.1) hs2 fun a ha z => z.2 (s2 a ha)
          exact p.free.layT (k := false) n (Owns.append f2 f1) (fun z => nomatch z) (fun _ z => z) List.nodup_nil h
    · cases eg
  · exact other eg
theorem ge_plus (hK : W.K = X.K) (ha : GE X W a ma) (hb : GE X W b mb) : GE X W (.BinOp a .Add b pos) (mOpVV gCat ma mb) :=
  ge_opVV (fun _ _ h1 h2 => pe_op (r := rCat3 W.K) (by rw [hK]; exact op_cat.or (op_catA.or (op_add.or op_add_str))) h1 h2) says_cat ha hb
theorem says_rep : SaysVV (fun x y H Q => rRep x y H Q ∨ rI CMul (fun i j => .int (i * j)) x y H Q) W gRep := by
  intro x y z w σ H Z Fs H1 Z1 env Fs1 v u F Q eg p h
  obtain ⟨m, d⟩ := x
  obtain ⟨m2, d2⟩ := y
  obtain ⟨F1, F2, eF, o1, o2⟩ := p.own.inv2
  have s1 : ∀ b ∈ F1, b ∈ F := fun b hb => by rw [eF]; exact List.mem_append_left _ hb
  unfold gRep at eg
  dsimp only at eg
  split at eg
  · rename_i ds k
    split at eg
    · rename_i hl
      simp only [Option.some.injEq] at eg
      subst eg
      obtain ⟨a, ws, G, rfl, ha, hs, hG, hn⟩ := o1.lst_inv
      have eu := o2.int_inv
      subst eu
      refine .inl ⟨a, k, ws, rfl, rfl, ha, hl.1, hl.2.1, by rw [hs.length]; exact hl.2.2, fun q n => ?_⟩
      have f1 : Owns W H1 (fun a => ¬ (Z1 a ∧ a ∉ F)) .shr ws ds [] := Owns.freeze (fun a k _ z => k z.1) hs fun a ha z => z.2 (s1 a (hG a ha))
      exact p.free.layL (k := false) n (Owns.rep f1 _) (fun z => nomatch z) (fun _ z => z) List.nodup_nil h
    · cases eg
  · obtain ⟨d', e', rfl⟩ := Option.map_eq_some_iff.mp eg
    exact .inr (says_mul (W := W) (m, d) (m2, d2) d' H1 _ v u F1 F2 Q e' o1 o2 fun z oz => p.fin h oz)
theorem ge_times (ha : GE X W a ma) (hb : GE X W b mb) : GE X W (.BinOp a .Mult b pos) (mOpVV gRep ma mb) :=
  ge_opVV (fun _ _ h1 h2 => pe_op (op_rep.or op_mul) h1 h2) says_rep ha hb
end
end BV
set_option maxHeartbeats 2000000
/-! BV12: calls of built-ins; slices; in. -/
namespace BV
open PySem PySem.Spec PyProof.Rows L2

/-- a rule for argument lists answers as g says -/
def SaysC (r : List V → Hp → VK → Prop) (W : Wd) (g : List Val → Option Val) : Prop := ∀ (xs : List Val) (z : Val) (w : WX) (σ : L2.St) (H : Hp) (Z : Addr → Prop) (Fs : Nat → List Addr) (H1 : Hp) (Z1 : Addr → Prop) (env : Env) (Fs1 : Nat → List Addr) (vs : List V) (F : List Addr) (Q : VK),
  g xs = some z → PostL W H Z Fs σ H1 Z1 env Fs1 xs vs F → Fin W w σ H Z Fs (.ok z env) Q → r vs H1 Q
def mFn (g : List Val → Option Val) (ma : M (List Val)) : M Val := ma.bind fun xs => match g xs with
  | some z => M.pure z
  | none => M.bad
def gOrL (g g' : List Val → Option Val) : List Val → Option Val := fun xs => match g xs with
  | some d => some d
  | none => g' xs
section
variable {X : Cx} {W : Wd} {e : Expr} {es : List Expr} {p pos : Pos} {x : Str} {ma : M (List Val)} {g g' : List Val → Option Val} {r r' : List V → Hp → VK → Prop} {id T : String}
theorem SaysC.or (h : SaysC r W g) (h' : SaysC r' W g') : SaysC (fun xs H Q => r xs H Q ∨ r' xs H Q) W (gOrL g g') := by
  intro xs z w σ H Z Fs H1 Z1 env Fs1 vs F Q e p k
  unfold gOrL at e
  cases eg : g xs with
  | none => rw [eg] at e; exact .inr (h' xs z w σ H Z Fs H1 Z1 env Fs1 vs F Q e p k)
  | some d => rw [eg] at e; cases e; exact .inl (h xs z w σ H Z Fs H1 Z1 env Fs1 vs F Q eg p k)
theorem rd_fn {w : WX} {σ : L2.St} {H : Hp} {Q : VK} (hr : SaysC r W g) (h : rdE W w (mFn g ma) σ H Q) : rdA W w ma σ H fun vs H1 => r vs H1 Q := by
  refine rdA_mono (rd_args0 h) fun us H1 ⟨Z, Fs, Z2, env2, Fs2, ys, Fy, p, h2⟩ => ?_
  cases eg : g ys with
  | none => rw [eg] at h2; exact h2.elim
  | some z =>
    rw [eg] at h2
    exact hr ys z w σ H Z Fs H1 Z2 env2 Fs2 us Fy Q eg p h2
theorem ge_callB (hc : CallR X (.builtin id) r) (hr : SaysC r W g) (hg : Gl X x) (hm : X.mg x = none) (hv : bootBuiltins x = some (.builtin id)) (ha : GA X W (e :: es) ma) (hn : x ≠ "__name__") (hdb : (x == ("__debug__" : Str)) = false)
    (hst : starEach (e :: es) X.env = (false, eval e X.env) :: starEach es X.env) (hpl : (backTo pos (starEach es X.env)).any (·.1) = false) : GE X W (.Call (.Name x p) (e :: es) [] pos) (mFn g ma) := fun w tk =>
  pe_imp (pe_callB hc hg hm hv (ha w tk) hn hdb hst hpl) fun σ H Q h => rd_fn hr h
theorem ge_callTy (hc : CallR X (.type T) r) (hr : SaysC r W g) (hg : Gl X x) (hm : X.mg x = none) (hv : bootBuiltins x = some (.type T)) (ha : GA X W (e :: es) ma) (hn : x ≠ "__name__") (hdb : (x == ("__debug__" : Str)) = false)
    (hst : starEach (e :: es) X.env = (false, eval e X.env) :: starEach es X.env) (hpl : (backTo pos (starEach es X.env)).any (·.1) = false) : GE X W (.Call (.Name x p) (e :: es) [] pos) (mFn g ma) := fun w tk =>
  pe_imp (pe_callTy hc hg hm hv (ha w tk) hn hdb hst hpl) fun σ H Q h => rd_fn hr h
end

section
variable {W : Wd} {w : WX} {σ : L2.St} {H H1 H2 : Hp} {Z Z1 Z2 : Addr → Prop} {Fs Fs1 Fs2 : Nat → List Addr} {env env1 : Env} {xs ys : List Val} {vs us : List V} {F G Fx : List Addr} {x y : Val} {v : V} {Q : VK}
theorem OwnL.one {P : Addr → Prop} (h : OwnL W H P [x] vs F) : ∃ v, vs = [v] ∧ Own W H P x.1 v x.2 F := by
  obtain ⟨v, vr, F1, F2, rfl, rfl, o, t⟩ := h.inv
  cases t
  exact ⟨v, rfl, by simpa using o⟩
theorem OwnL.two {P : Addr → Prop} (h : OwnL W H P [x, y] vs F) : ∃ v u F1 F2, vs = [v, u] ∧ F = F1 ++ F2 ∧ Own W H P x.1 v x.2 F1 ∧ Own W H P y.1 u y.2 F2 := by
  obtain ⟨v, vr, F1, F2, rfl, rfl, o, t⟩ := h.inv
  obtain ⟨u, rfl, o2⟩ := t.one
  exact ⟨v, u, F1, F2, rfl, rfl, o, o2⟩
end

/-! ### len -/
def gLen : List Val → Option Val
  | [(_, .lst ds)] => some (.all, .int ds.length)
  | [(_, .tup ds)] => some (.all, .int ds.length)
  | [(_, .str z)] => if z.length ≤ sizeLine then some (.all, .int z.length) else none
  | _ => none
abbrev rLenA (K : PySem.W.Frag) : List V → Hp → VK → Prop := fun xs H Q => (∃ p ys, xs = [.ref p] ∧ (SqL K H p ys ∨ SqT K H p ys) ∧ Q (.int ys.length) H) ∨ (∃ z, xs = [.str z] ∧ z.length ≤ sizeLine ∧ Q (.int z.length) H)
theorem says_len {W : Wd} : SaysC (rLenA W.K) W gLen := by
  intro xs z w σ H Z Fs H1 Z1 env Fs1 vs F Q e p h
  unfold gLen at e
  split at e
  · simp only [Option.some.injEq] at e
    subst e
    obtain ⟨v, rfl, o⟩ := p.own.one
    obtain ⟨a, ws, G, rfl, ha, hs, _⟩ := o.lst_inv
    exact .inl ⟨a, ws, rfl, .inl (SqL.of ha), by rw [hs.length]; exact p.fin h fun _ => .int _⟩
  · simp only [Option.some.injEq] at e
    subst e
    obtain ⟨v, rfl, o⟩ := p.own.one
    obtain ⟨a, ws, rfl, ha, hs⟩ := o.tup_inv
    exact .inl ⟨a, ws, rfl, .inr (SqT.of ha), by rw [hs.length]; exact p.fin h fun _ => .int _⟩
  · split at e
    · rename_i c
      simp only [Option.some.injEq] at e
      subst e
      obtain ⟨v, rfl, o⟩ := p.own.one
      have := o.str_inv
      subst this
      exact .inr ⟨_, rfl, c, p.fin h fun _ => .int _⟩
    · cases e
  · cases e

/-! ### list(x), tuple(x) -/
def gList : List Val → Option Val
  | [(m, .lst ds)] => some (newL (m == .all) ds)
  | [(m, .tup ds)] => some (newL (m == .all) ds)
  | [(_, .scr ns)] => some (.all, .lst (ns.map .int))
  | _ => none
abbrev rListA (K : PySem.W.Frag) : List V → Hp → VK → Prop := fun xs H Q => ∃ p ys, xs = [.ref p] ∧ (SqL K H p ys ∨ SqT K H p ys) ∧ ∀ l, H l = none → Q (.ref l) (upd H l (.lst ys))
theorem beq_all {m : Mode} (h : (m == .all) = true) : m = .all := by simpa using h
theorem Owns.ints {W : Wd} {H : Hp} {P : Addr → Prop} {m : Mode} : ∀ ns : List Int, Owns W H P m (ns.map V.int) (ns.map D.int) []
  | [] => .nil
  | n :: ns => .cons (F := []) (.int n) (Owns.ints ns)
theorem ScrAt.sq {W : Wd} {H : Hp} {a : Addr} {ns : List Int} (h : ScrAt W H a ns) : SqL W.K H a (ns.map V.int) := by
  rcases h with ⟨o, h⟩ | h
  · exact .inl (.inr ⟨o, h⟩)
  · exact h H
theorem says_list {W : Wd} : SaysC (rListA W.K) W gList := by
  intro xs z w σ H Z Fs H1 Z1 env Fs1 vs F Q e p h
  unfold gList at e
  split at e
  · rename_i m ds
    simp only [Option.some.injEq] at e
    subst e
    obtain ⟨v, rfl, o⟩ := p.own.one
    obtain ⟨a, ws, G, rfl, ha, hs, hG, hn⟩ := o.lst_inv
    exact ⟨a, ws, rfl, .inl (SqL.of ha), fun l n => p.layL n hs (fun k => by rw [beq_all k]; rfl) hG (hn p.nd) h⟩
  · rename_i m ds
    simp only [Option.some.injEq] at e
    subst e
    obtain ⟨v, rfl, o⟩ := p.own.one
    obtain ⟨a, ws, rfl, ha, hs⟩ := o.tup_inv
    exact ⟨a, ws, rfl, .inr (SqT.of ha), fun l n => p.layL n hs (fun k => beq_all k) (fun _ z => z) p.nd h⟩
  · rename_i ns
    simp only [Option.some.injEq] at e
    subst e
    obtain ⟨v, rfl, o⟩ := p.own.one
    cases o with
    | scr hS => exact ⟨_, _, rfl, .inl hS.sq, fun l n => h _ _ _ _ _ (p.newLst (m := .all) n (fun z => nomatch z) (Owns.ints ns) (fun _ z => (nomatch z)) List.nodup_nil)⟩
  · cases e
def gTuple : List Val → Option Val
  | [(m, .lst ds)] => some (newT (m == .all) ds)
  | [(m, .tup ds)] => some (newT (m == .all) ds)
  | _ => none
abbrev rTupleA (K : PySem.W.Frag) : List V → Hp → VK → Prop := fun xs H Q => ∃ p ys, xs = [.ref p] ∧ ((SqL K H p ys ∧ ∀ l, H l = none → Q (.ref l) (upd H l (.tup ys))) ∨ (SqT K H p ys ∧ Q (.ref p) H))
theorem says_tuple {W : Wd} : SaysC (rTupleA W.K) W gTuple := by
  intro xs z w σ H Z Fs H1 Z1 env Fs1 vs F Q e p h
  unfold gTuple at e
  split at e
  · rename_i m ds
    simp only [Option.some.injEq] at e
    subst e
    obtain ⟨v, rfl, o⟩ := p.own.one
    obtain ⟨a, ws, G, rfl, ha, hs, hG, hn⟩ := o.lst_inv
    exact ⟨a, ws, rfl, .inl ⟨SqL.of ha, fun l n => p.layT n hs (fun k => by rw [beq_all k]; rfl) hG (hn p.nd) h⟩⟩
  · rename_i m ds
    simp only [Option.some.injEq] at e
    subst e
    obtain ⟨v, rfl, o⟩ := p.own.one
    obtain ⟨a, ws, rfl, ha, hs⟩ := o.tup_inv
    exact ⟨a, ws, rfl, .inr ⟨SqT.of ha, p.reT o (fun k => beq_all k) (fun _ z => z) p.nd h⟩⟩
  · cases e

/-! ### int, abs, str, bool -/
def gInt : List Val → Option Val
  | [(_, .int i)] => some (.all, .int i)
  | [(_, .bl b)] => some (.all, .int (if b then 1 else 0))
  | [(_, .str a)] => if a.length ≤ 640 then (PySem.intText? a).map fun n => (.all, .int n) else none
  | _ => none
theorem says_int1 {W : Wd} : SaysC (fun xs H Q => ((∃ i, xs = [.int i] ∧ Q (.int i) H) ∨ ∃ k, xs = [.bl k] ∧ Q (.int (if k then 1 else 0)) H) ∨ ∃ a n, xs = [.str a] ∧ PySem.intText? a = some n ∧ a.length ≤ 640 ∧ Q (.int n) H) W gInt := by
  intro xs z w σ H Z Fs H1 Z1 env Fs1 vs F Q e p h
  unfold gInt at e
  split at e
  · simp only [Option.some.injEq] at e
    subst e
    obtain ⟨v, rfl, o⟩ := p.own.one
    have := o.int_inv
    subst this
    exact .inl (.inl ⟨_, rfl, p.fin h fun _ => .int _⟩)
  · simp only [Option.some.injEq] at e
    subst e
    obtain ⟨v, rfl, o⟩ := p.own.one
    have := o.bl_inv
    subst this
    exact .inl (.inr ⟨_, rfl, p.fin h fun _ => .int _⟩)
  · split at e
    · rename_i c
      obtain ⟨n, en, rfl⟩ := Option.map_eq_some_iff.mp e
      obtain ⟨v, rfl, o⟩ := p.own.one
      have := o.str_inv
      subst this
      exact .inr ⟨_, n, rfl, en, c, p.fin h fun _ => .int _⟩
    · cases e
  · cases e
def gAbs : List Val → Option Val
  | [(_, .int i)] => some (.all, .int (if i < 0 then -i else i))
  | _ => none
theorem says_abs {W : Wd} : SaysC (fun xs H Q => ∃ i, xs = [.int i] ∧ Q (.int (if i < 0 then -i else i)) H) W gAbs := by
  intro xs z w σ H Z Fs H1 Z1 env Fs1 vs F Q e p h
  unfold gAbs at e
  split at e
  · simp only [Option.some.injEq] at e
    subst e
    obtain ⟨v, rfl, o⟩ := p.own.one
    have := o.int_inv
    subst this
    exact ⟨_, rfl, p.fin h fun _ => .int _⟩
  · cases e
def gStr : List Val → Option Val
  | [(_, .int i)] => if i.natAbs.log2 < 1920 then some (.all, .str (toString i)) else none
  | _ => none
theorem says_str {W : Wd} : SaysC (fun xs H Q => ∃ i : Int, xs = [.int i] ∧ i.natAbs.log2 < 1920 ∧ Q (.str (toString i)) H) W gStr := by
  intro xs z w σ H Z Fs H1 Z1 env Fs1 vs F Q e p h
  unfold gStr at e
  split at e
  · split at e
    · rename_i c
      simp only [Option.some.injEq] at e
      subst e
      obtain ⟨v, rfl, o⟩ := p.own.one
      have := o.int_inv
      subst this
      exact ⟨_, rfl, c, p.fin h fun _ => .str _⟩
    · cases e
  · cases e
def gMax2 : List Val → Option Val
  | [(_, .int i), (_, .int j)] => some (.all, .int (if j > i then j else i))
  | _ => none
theorem says_max2 {W : Wd} : SaysC (fun xs H Q => ∃ i j, xs = [.int i, .int j] ∧ Q (.int (if j > i then j else i)) H) W gMax2 := by
  intro xs z w σ H Z Fs H1 Z1 env Fs1 vs F Q e p h
  unfold gMax2 at e
  split at e
  · simp only [Option.some.injEq] at e
    subst e
    obtain ⟨v, u, F1, F2, rfl, eF, o1, o2⟩ := p.own.two
    have e1 := o1.int_inv
    have e2 := o2.int_inv
    subst e1 e2
    exact ⟨_, _, rfl, p.fin h fun _ => .int _⟩
  · cases e
def gMin2 : List Val → Option Val
  | [(_, .int i), (_, .int j)] => some (.all, .int (if j < i then j else i))
  | _ => none
theorem says_min2 {W : Wd} : SaysC (fun xs H Q => ∃ i j, xs = [.int i, .int j] ∧ Q (.int (if j < i then j else i)) H) W gMin2 := by
  intro xs z w σ H Z Fs H1 Z1 env Fs1 vs F Q e p h
  unfold gMin2 at e
  split at e
  · simp only [Option.some.injEq] at e
    subst e
    obtain ⟨v, u, F1, F2, rfl, eF, o1, o2⟩ := p.own.two
    have e1 := o1.int_inv
    have e2 := o2.int_inv
    subst e1 e2
    exact ⟨_, _, rfl, p.fin h fun _ => .int _⟩
  · cases e
/-! ### all, any of truth values -/
def bools : List D → Option (List Bool)
  | [] => some []
  | .bl b :: ds => (bools ds).map (b :: ·)
  | _ :: _ => none
theorem Owns.bools {W : Wd} {H : Hp} {P : Addr → Prop} : ∀ {m : Mode} {vs : List V} {ds : List D} {F : List Addr} {bs : List Bool}, Owns W H P m vs ds F → BV.bools ds = some bs → vs = bs.map V.bl
  | _, _, _, _, _, .nil, e => by
    simp only [BV.bools, Option.some.injEq] at e
    subst e
    rfl
  | _, _, _, _, _, .cons (d := d) h t, e => by
    cases d <;> simp only [BV.bools] at e <;> try cases e
    obtain ⟨bs, e1, rfl⟩ := Option.map_eq_some_iff.mp e
    rw [h.bl_inv, Owns.bools t e1]
    rfl
def gAll : List Val → Option Val
  | [(_, .lst ds)] => (bools ds).map fun bs => (.all, .bl (bs.all id))
  | _ => none
def gAny : List Val → Option Val
  | [(_, .lst ds)] => (bools ds).map fun bs => (.all, .bl (bs.any id))
  | _ => none
theorem says_all {W : Wd} : SaysC (rAll W.K) W gAll := by
  intro xs z w σ H Z Fs H1 Z1 env Fs1 vs F Q e p h
  unfold gAll at e
  split at e
  · obtain ⟨bs, eb, rfl⟩ := Option.map_eq_some_iff.mp e
    obtain ⟨v, rfl, o⟩ := p.own.one
    obtain ⟨a, ws, G, rfl, ha, hs, _⟩ := o.lst_inv
    exact ⟨a, bs, rfl, by rw [← hs.bools eb]; exact SqL.of ha, p.fin h fun _ => .bl _⟩
  · cases e
theorem says_any {W : Wd} : SaysC (rAny W.K) W gAny := by
  intro xs z w σ H Z Fs H1 Z1 env Fs1 vs F Q e p h
  unfold gAny at e
  split at e
  · obtain ⟨bs, eb, rfl⟩ := Option.map_eq_some_iff.mp e
    obtain ⟨v, rfl, o⟩ := p.own.one
    obtain ⟨a, ws, G, rfl, ha, hs, _⟩ := o.lst_inv
    exact ⟨a, bs, rfl, by rw [← hs.bools eb]; exact SqL.of ha, p.fin h fun _ => .bl _⟩
  · cases e
end BV
set_option maxHeartbeats 2000000
/-! BV13: types, isinstance, slices, in. -/
namespace BV
open PySem PySem.Spec PyProof.Rows L2

/-- the name of a value's built-in type -/
def D.tyN : D → Option String
  | .non => some "NoneType"
  | .bl _ => some "bool"
  | .int _ => some "int"
  | .str _ => some "str"
  | .tup _ => some "tuple"
  | .lst _ => some "list"
  | .dic _ _ => some "dict"
  | .pin => some "list"
  | _ => none
/-- a value of a built-in type -/
inductive TyZ (H : Hp) : V → String → Prop where
  | non : TyZ H .non "NoneType"
  | bl (b : Bool) : TyZ H (.bl b) "bool"
  | int (i : Int) : TyZ H (.int i) "int"
  | str (x : Str) : TyZ H (.str x) "str"
  | lst {a : Addr} {xs : List V} (h : H a = some (.lst xs)) : TyZ H (.ref a) "list"
  | tup {a : Addr} {xs : List V} (h : H a = some (.tup xs)) : TyZ H (.ref a) "tuple"
  | dK {a : Addr} {kvs : List (Key × V)} (h : Rd H a (.dK kvs)) : TyZ H (.ref a) "dict"
  | dT {a : Addr} {kvs : List (List Key × V)} (h : Rd H a (.dT kvs)) : TyZ H (.ref a) "dict"
section
variable {W : Wd} {H : Hp} {P : Addr → Prop}
theorem Own.tyZ {m : Mode} {v : V} {d : D} {F : List Addr} {T : String} (o : Own W H P m v d F) (h : d.tyN = some T) : TyZ H v T := by
  cases o with
  | non => simp only [D.tyN, Option.some.injEq] at h; subst h; exact .non
  | bl b => simp only [D.tyN, Option.some.injEq] at h; subst h; exact .bl b
  | int i => simp only [D.tyN, Option.some.injEq] at h; subst h; exact .int i
  | str x => simp only [D.tyN, Option.some.injEq] at h; subst h; exact .str x
  | tup e t => simp only [D.tyN, Option.some.injEq] at h; subst h; exact .tup e
  | lstS _ e t => simp only [D.tyN, Option.some.injEq] at h; subst h; exact .lst e
  | lstO _ e t => simp only [D.tyN, Option.some.injEq] at h; subst h; exact .lst e
  | dKS _ e t => simp only [D.tyN, Option.some.injEq] at h; subst h; exact .dK (.inl e)
  | dKO _ _ e t => simp only [D.tyN, Option.some.injEq] at h; subst h; exact .dK (.inl e)
  | dTS _ e t => simp only [D.tyN, Option.some.injEq] at h; subst h; exact .dT (.inl e)
  | dTO _ _ e t => simp only [D.tyN, Option.some.injEq] at h; subst h; exact .dT (.inl e)
  | pin _ _ e => simp only [D.tyN, Option.some.injEq] at h; subst h; exact .lst e
  | ty => simp [D.tyN] at h
  | glo => simp [D.tyN] at h
  | insS => simp [D.tyN] at h
  | insO => simp [D.tyN] at h
  | clo => simp [D.tyN] at h
  | scr => simp [D.tyN] at h
end
section
variable {X : Cx} {pins : List (Addr × Obj)} {σ : L2.St} {H : Hp} {s : Shared}
theorem TyZ.is {x : V} {u : Value} {T : String} (I : Inv X pins σ H s) (rx : RelV x u) (t : TyZ H x T) : s.TypeIs u T := by
  cases t with
  | non => cases (show u = Value.none from rx); rfl
  | bl b => cases (show u = Value.bool b from rx); rfl
  | int i => obtain ⟨t, rfl⟩ := (show ∃ t, u = Value.int i t from rx); rfl
  | str x => obtain ⟨t, rfl⟩ := (show ∃ t, u = Value.str x t from rx); rfl
  | @lst a xs h =>
    cases (show u = Value.ref a from rx)
    obtain ⟨its, rv, ⟨o, n, h1, h2, _⟩, hz⟩ := I.list (SqL.of h)
    exact ⟨o, h1, h2⟩
  | @tup a xs h =>
    cases (show u = Value.ref a from rx)
    obtain ⟨its, rv, ⟨o, h1, h2, _⟩, hz⟩ := I.tuple (SqT.of h)
    exact ⟨o, h1, h2⟩
  | @dK a kvs h =>
    cases (show u = Value.ref a from rx)
    obtain ⟨_, _, vs, _, p⟩ := (show ObjOk X.prog X.w H s.heap a (.dK kvs) from h.ok I.hok)
    exact p.typeIs
  | @dT a kvs h =>
    cases (show u = Value.ref a from rx)
    obtain ⟨_, _, xs, _, o, es, ep, h1, h2, _⟩ := (show ObjOk X.prog X.w H s.heap a (.dT kvs) from h.ok I.hok)
    exact ⟨o, h1, h2.1⟩
theorem TyZ.nb {x : V} {T : String} (t : TyZ H x T) : (Value.type T == Value.type "builtin_function_or_method") = false := by
  cases t <;> decide +kernel
def rTypZ : List V → Hp → VK → Prop := fun xs H Q => ∃ x T, xs = [x] ∧ TyZ H x T ∧ Q (.ty T) H
theorem call_typeZ : CallR X (.type "type") rTypZ := by
  intro pins s σ H xs us Q I r h
  obtain ⟨x, T, rfl, t, q⟩ := h
  obtain ⟨u, rfl, rx⟩ := vals1 r
  exact call_type_of (t.is I rx) t.nb ⟨.ty T, H, I, rfl, q⟩
def gType : List Val → Option Val
  | [(_, d)] => d.tyN.map fun T => (.all, .ty T)
  | _ => none
theorem says_type {W : Wd} : SaysC rTypZ W gType := by
  intro xs z w σ H Z Fs H1 Z1 env Fs1 vs F Q e p h
  unfold gType at e
  split at e
  · obtain ⟨T, eT, rfl⟩ := Option.map_eq_some_iff.mp e
    obtain ⟨v, rfl, o⟩ := p.own.one
    exact ⟨v, T, rfl, o.tyZ eT, p.fin h fun _ => .ty _⟩
  · cases e
/-! ### isinstance of built-in types -/
theorem kit_ofZ {x : V} {u : Value} {T : String} (I : Inv X pins σ H s) (rx : RelV x u) (t : TyZ H x T) : ∃ P : Heap → Prop, PySem.W.KitX X.K u (.type T) P ∧ P s.heap ∧ u ≠ .builtin "__main__.__loader__#opaque" := by
  cases t with
  | non => cases (show u = Value.none from rx); exact ⟨_, PySem.W.kitx_none, True.intro, fun z => nomatch z⟩
  | bl y => cases (show u = Value.bool y from rx); exact ⟨_, PySem.W.kitx_bool, True.intro, fun z => nomatch z⟩
  | int i => obtain ⟨t, q⟩ := (show ∃ t, u = Value.int i t from rx); cases q; exact ⟨_, PySem.W.kitx_int, True.intro, fun z => nomatch z⟩
  | str y => obtain ⟨t, q⟩ := (show ∃ t, u = Value.str y t from rx); cases q; exact ⟨_, PySem.W.kitx_str, True.intro, fun z => nomatch z⟩
  | @lst a xs ea =>
    cases (show u = Value.ref a from rx)
    obtain ⟨_, _, n, _, h1⟩ := (show ObjOk X.prog X.w H s.heap a (.lst xs) from I.hok a _ ea)
    exact ⟨_, PySem.W.kitx_list, ⟨_, h1, rfl⟩, fun z => nomatch z⟩
  | @tup a xs ea =>
    cases (show u = Value.ref a from rx)
    obtain ⟨_, _, _, p⟩ := (show ObjOk X.prog X.w H s.heap a (.tup xs) from I.hok a _ ea)
    obtain ⟨o, h1, h2, _⟩ := p
    exact ⟨_, PySem.W.kitx_tuple, ⟨o, h1, h2⟩, fun z => nomatch z⟩
  | @dK a kvs ea =>
    cases (show u = Value.ref a from rx)
    obtain ⟨_, _, vs, _, p⟩ := (show ObjOk X.prog X.w H s.heap a (.dK kvs) from ea.ok I.hok)
    obtain ⟨o, es, ep, h1, h2, _⟩ := p
    exact ⟨_, PySem.W.kitx_dict, ⟨o, h1, h2.1⟩, fun z => nomatch z⟩
  | @dT a kvs ea =>
    cases (show u = Value.ref a from rx)
    obtain ⟨_, _, xs, _, o, es, ep, h1, h2, _⟩ := (show ObjOk X.prog X.w H s.heap a (.dT kvs) from ea.ok I.hok)
    exact ⟨_, PySem.W.kitx_dict, ⟨o, h1, h2.1⟩, fun z => nomatch z⟩
def rIsiZ : List V → Hp → VK → Prop := fun xs H Q => ∃ (x : V) (T U : String) (b : Bool), xs = [x, .ty U] ∧ TyZ H x T ∧ kitB T U = some b ∧ Q (.bl b) H
def rIsiTZ : List V → Hp → VK → Prop := fun xs H Q => ∃ (x : V) (tp : Addr) (Us : List String) (T : String) (b : Bool), xs = [x, .ref tp] ∧ H tp = some (.tup (Us.map V.ty)) ∧ TyZ H x T ∧ (∀ K, PySem.W.kitAny K (.type T) (Us.map Value.type) = some b) ∧ Q (.bl b) H
theorem call_isiZ : CallR X (.builtin "isinstance") rIsiZ := by
  intro pins s σ H xs us Q I r h
  obtain ⟨x, T, U, b, rfl, ty, e, q⟩ := h
  obtain ⟨u1, u2, rfl, r1, r2⟩ := vals2 r
  cases r2
  obtain ⟨P, Z, p, hx⟩ := kit_ofZ I r1 ty
  exact PySem.W.kia_one Z I.kIn p (kit_ty e) hx fun tk => ⟨.bl b, H, I.tok tk, rfl, q⟩
theorem vals_ty : ∀ {Us : List String} {us : List Value}, Vals (Us.map V.ty) us → us = Us.map Value.type
  | [], _, .nil => rfl
  | U :: Us, _, .cons h t => by rw [List.map_cons, vals_ty t, (show _ = Value.type U from h)]
theorem call_isiTZ : CallR X (.builtin "isinstance") rIsiTZ := by
  intro pins s σ H xs us Q I r h
  obtain ⟨x, tp, Us, T, b, rfl, hT, ty, e, q⟩ := h
  obtain ⟨u1, u2, rfl, r1, r2⟩ := vals2 r
  cases (show u2 = Value.ref tp from r2)
  obtain ⟨P, Z, p, hx⟩ := kit_ofZ I r1 ty
  obtain ⟨_, its, rv, o, h1, h2, n, h3⟩ := (show ObjOk X.prog X.w H s.heap tp (.tup (Us.map V.ty)) from I.hok tp _ hT)
  have e3 := vals_ty rv
  subst e3
  obtain ⟨oc, od, dt, sl⟩ := o
  simp only at h2 h3
  subst h2 h3
  exact PySem.W.kia_tup Z I.kIn p h1 (e X.K) hx fun tk => ⟨.bl b, H, I.tok tk, rfl, q⟩
end
def subTy (T U : String) : Bool := T == U || (T == "bool" && U == "int")
def tyNames : List String := ["NoneType", "bool", "int", "str", "tuple", "list", "dict"]
def clsNames : List String := ["int", "bool", "str", "list", "tuple", "dict"]
theorem kit_table : ∀ T ∈ tyNames, ∀ U ∈ clsNames, kitB T U = some (subTy T U) := by decide +kernel
theorem tyN_mem {d : D} {T : String} (h : d.tyN = some T) : T ∈ tyNames := by
  cases d <;> simp only [D.tyN, Option.some.injEq] at h <;> first | (subst h; decide) | cases h
/-- names of types -/
def tyList : List D → Option (List String)
  | [] => some []
  | .ty U :: ds => if U ∈ clsNames then (tyList ds).map (U :: ·) else none
  | _ :: _ => none
theorem kitAny_tab {T : String} (hT : T ∈ tyNames) : ∀ {ds : List D} {Us : List String}, tyList ds = some Us → ∀ K, PySem.W.kitAny K (.type T) (Us.map Value.type) = some (Us.any (subTy T))
  | [], Us, e => by
    simp only [tyList, Option.some.injEq] at e
    subst e
    exact fun _ => rfl
  | d :: ds, Us, e => by
    cases d <;> simp only [tyList] at e <;> try cases e
    rename_i U
    split at e
    · rename_i hU
      obtain ⟨Us, e1, rfl⟩ := Option.map_eq_some_iff.mp e
      intro K
      rw [List.map_cons, List.any_cons]
      refine kitAny_cons (kit_ty (kit_table T hT U hU)) (fun h => ?_) fun h => by rw [h, Bool.true_or]
      rw [h, Bool.false_or]
      exact kitAny_tab hT e1 K
    · cases e
theorem Owns.tys {W : Wd} {H : Hp} {P : Addr → Prop} : ∀ {ds : List D} {Us : List String} {m : Mode} {vs : List V} {F : List Addr}, tyList ds = some Us → Owns W H P m vs ds F → vs = Us.map V.ty
  | [], Us, _, _, _, e, h => by
    simp only [tyList, Option.some.injEq] at e
    subst e
    cases h
    rfl
  | d :: ds, Us, _, _, _, e, h => by
    cases d <;> simp only [tyList] at e <;> try cases e
    split at e
    · obtain ⟨Us, e1, rfl⟩ := Option.map_eq_some_iff.mp e
      cases h with
      | cons h t =>
        cases h
        rw [Owns.tys e1 t]
        rfl
    · cases e
def gIsi : List Val → Option Val
  | [(_, d), (_, .ty U)] => if U ∈ clsNames then d.tyN.map fun T => (.all, .bl (subTy T U)) else none
  | [(_, d), (_, .tup cs)] => match d.tyN, tyList cs with
    | some T, some Us => some (.all, .bl (Us.any (subTy T)))
    | _, _ => none
  | _ => none
theorem says_isi {W : Wd} : SaysC (fun xs H Q => rIsiZ xs H Q ∨ rIsiTZ xs H Q) W gIsi := by
  intro xs z w σ H Z Fs H1 Z1 env Fs1 vs F Q e p h
  unfold gIsi at e
  split at e
  · split at e
    · rename_i hU
      obtain ⟨T, eT, rfl⟩ := Option.map_eq_some_iff.mp e
      obtain ⟨v, u, F1, F2, rfl, eF, o1, o2⟩ := p.own.two
      cases o2
      exact .inl ⟨v, T, _, _, rfl, o1.tyZ eT, kit_table T (tyN_mem eT) _ hU, p.fin h fun _ => .bl _⟩
    · cases e
  · rename_i d _ cs
    cases eT : d.tyN with
    | none => rw [eT] at e; cases e
    | some T =>
      cases eU : tyList cs with
      | none => rw [eT, eU] at e; cases e
      | some Us =>
        rw [eT, eU] at e
        cases e
        obtain ⟨v, u, F1, F2, rfl, eF, o1, o2⟩ := p.own.two
        obtain ⟨a, ws, rfl, ha, hs⟩ := o2.tup_inv
        exact .inr ⟨v, a, Us, T, _, rfl, by rw [← hs.tys eU]; exact ha, o1.tyZ eT, kitAny_tab (tyN_mem eT) eU, p.fin h fun _ => .bl _⟩
  · cases e
end BV
set_option maxHeartbeats 2000000
/-! BV14: targets of assignments and loops. -/
namespace BV
open PySem PySem.Spec PyProof.Rows L2

/-- within a statement: slots may have changed, values are at hand -/
structure PostP (W : Wd) (mp : List Nat) (σ : L2.St) (H : Hp) (Z : Addr → Prop) (Fs : Nat → List Addr) (σ' : L2.St) (H' : Hp) (Z' : Addr → Prop) (env' : Env) (Fs' : Nat → List Addr) (xs : List Val) (vs : List V) (F : List Addr) : Prop where
  st : Step W H Z Fs H' Z' Fs' F
  sim : Sim W H' Z' σ' env' Fs'
  own : OwnL W H' (fun a => ¬ Z' a) xs vs F
  nd : F.Nodup
  sub : ∀ a ∈ F, Z' a
  dis : ∀ a ∈ F, ¬ OF Fs' a
  zd : ∀ a, Z a → H a ≠ none
  kp : ∀ i ∈ mp, σ'[i]? = σ[i]?

section
variable {W : Wd} {w : WX} {mp : List Nat} {σ σ1 σ2 : L2.St} {H H1 H2 : Hp} {Z Z1 Z2 : Addr → Prop} {Fs Fs1 Fs2 : Nat → List Addr} {env env1 : Env} {xs ys : List Val} {vs us : List V} {F G Fx : List Addr} {x y : Val} {v : V} {Q : VK}
theorem PostL.toP (p : PostL W H Z Fs σ H1 Z1 env Fs1 xs vs F) : PostP W mp σ H Z Fs σ H1 Z1 env Fs1 xs vs F := ⟨p.st, p.sim, p.own, p.nd, p.sub, p.dis, p.zd, fun _ _ => rfl⟩
theorem PostP.toS (p : PostP W mp σ H Z Fs σ1 H1 Z1 env Fs1 [] [] F) : PostS W mp σ H Z Fs σ1 H1 Z1 env Fs1 := ⟨p.st.less (fun _ z => nomatch z), p.sim, p.zd, p.kp⟩
theorem PostP.of (p : PostS W mp σ H Z Fs σ1 H1 Z1 env Fs1) (q : PostL W H1 Z1 Fs1 σ1 H2 Z2 env1 Fs2 xs vs F) : PostP W mp σ H Z Fs σ1 H2 Z2 env1 Fs2 xs vs F :=
  ⟨by have := p.st.seq p.zd q.st; simpa using this, q.sim, q.own, q.nd, q.sub, q.dis, p.zd, p.kp⟩
/-- the first value goes into a slot -/
theorem PostP.put {i : Nat} (p : PostP W mp σ H Z Fs σ1 H1 Z1 env Fs1 (x :: xs) (v :: vs) F) (hi : i ∉ mp) : ∃ Fs2 F2, PostP W mp σ H Z Fs (σ1.set i (some v)) H1 Z1 (env.set i (some (nrm x))) Fs2 xs vs F2 := by
  obtain ⟨v', vr, F1, F2, e1, rfl, o, t⟩ := p.own.inv
  cases e1
  obtain ⟨n1, n2, n3⟩ := List.nodup_append.mp p.nd
  -- the value as it is stored
  have key : ∃ F3, (∀ a ∈ F3, a ∈ F1) ∧ F3.Nodup ∧ Own W H1 (fun a => ¬ Z1 a) (nrm x).1 v (nrm x).2 F3 := by
    unfold nrm
    by_cases c : x.2.imm = true
    · rw [if_pos c]; exact ⟨[], fun _ z => (nomatch z), List.nodup_nil, (o.of_imm c).2 _ _⟩
    · rw [if_neg c]; exact ⟨F1, fun _ z => z, n1, o⟩
  obtain ⟨F3, h3, n3', o3⟩ := key
  have kp : ∀ j ∈ mp, (σ1.set i (some v))[j]? = σ[j]? := fun j hj => by rw [List.getElem?_set_ne (fun e => hi (by rw [e]; exact hj))]; exact p.kp j hj
  by_cases hl : i < env.length
  · have hs : i < σ1.length := by rw [← p.sim.len]; exact hl
    refine ⟨upF Fs1 i F3, F2, ⟨⟨p.st.fr, p.st.zin, p.st.zkeep, fun a h => ?_⟩, ⟨fun j y e => ?_, fun j h => ?_, fun j k a h1 h2 => ?_, fun j => ?_, fun j a h => ?_, p.sim.zdom, by rw [List.length_set, List.length_set]; exact p.sim.len, p.sim.tabs⟩, t, n2, fun a ha => p.sub a (List.mem_append_right _ ha), fun a ha z => ?_, p.zd, kp⟩⟩
    · rcases h with ⟨j, h⟩ | h
      · by_cases hj : j = i
        · rw [hj, upF_same] at h
          exact p.st.own a (.inr (List.mem_append_left _ (h3 a h)))
        · rw [upF_ne hj] at h
          exact p.st.own a (.inl ⟨j, h⟩)
      · exact p.st.own a (.inr (List.mem_append_right _ h))
    · by_cases hj : j = i
      · rw [hj] at e ⊢
        rw [List.getElem?_set_self hl] at e
        cases e
        exact ⟨v, List.getElem?_set_self hs, by rw [upF_same]; exact o3⟩
      · rw [List.getElem?_set_ne (Ne.symm hj)] at e
        obtain ⟨u, e1, o⟩ := p.sim.rep j y e
        exact ⟨u, by rw [List.getElem?_set_ne (Ne.symm hj)]; exact e1, by rw [upF_ne hj]; exact o⟩
    · by_cases hj : j = i
      · rw [hj] at h
        exact absurd (List.getElem?_set_self hl) (h _)
      · rw [upF_ne hj]
        exact p.sim.off j fun y => by have := h y; rwa [List.getElem?_set_ne (Ne.symm hj)] at this
    · by_cases hj : j = i
      · by_cases hk : k = i
        · rw [hj, hk]
        · rw [hj, upF_same] at h1
          rw [upF_ne hk] at h2
          exact absurd ⟨k, h2⟩ (p.dis a (List.mem_append_left _ (h3 a h1)))
      · by_cases hk : k = i
        · rw [upF_ne hj] at h1
          rw [hk, upF_same] at h2
          exact absurd ⟨j, h1⟩ (p.dis a (List.mem_append_left _ (h3 a h2)))
        · rw [upF_ne hj] at h1
          rw [upF_ne hk] at h2
          exact p.sim.dis j k a h1 h2
    · by_cases hj : j = i
      · rw [hj, upF_same]; exact n3'
      · rw [upF_ne hj]; exact p.sim.nd j
    · by_cases hj : j = i
      · rw [hj, upF_same] at h; exact p.sub a (List.mem_append_left _ (h3 a h))
      · rw [upF_ne hj] at h; exact p.sim.sub j a h
    · obtain ⟨j, z⟩ := z
      by_cases hj : j = i
      · rw [hj, upF_same] at z
        exact n3 a (h3 a z) a ha rfl
      · rw [upF_ne hj] at z
        exact p.dis a (List.mem_append_right _ ha) ⟨j, z⟩
  · have hs : ¬ i < σ1.length := by rw [← p.sim.len]; exact hl
    rw [List.set_eq_of_length_le (Nat.le_of_not_lt hl)]
    refine ⟨Fs1, F2, ⟨p.st.less (fun a ha => List.mem_append_right _ ha), by rw [List.set_eq_of_length_le (Nat.le_of_not_lt hs)]; exact p.sim, t, n2, fun a ha => p.sub a (List.mem_append_right _ ha), fun a ha => p.dis a (List.mem_append_right _ ha), p.zd, kp⟩⟩
/-- a row of items as values -/
theorem Owns.toL {P : Addr → Prop} : ∀ {m : Mode} {ws : List V} {ds : List D} {G : List Addr}, Owns W H P m ws ds G → OwnL W H P (ds.map fun d => (m, d)) ws G
  | _, _, _, _, .nil => .nil
  | _, _, _, _, .cons h t => .cons h (Owns.toL t)
/-- the first value is taken apart -/
theorem PostP.split {ys : List Val} {us : List V} (p : PostP W mp σ H Z Fs σ1 H1 Z1 env Fs1 (x :: xs) (v :: vs) F)
    (h : ∀ F1, F1.Nodup → Own W H1 (fun a => ¬ Z1 a) x.1 v x.2 F1 → ∃ G, OwnL W H1 (fun a => ¬ Z1 a) ys us G ∧ (∀ a ∈ G, a ∈ F1) ∧ G.Nodup) : ∃ F2, PostP W mp σ H Z Fs σ1 H1 Z1 env Fs1 (ys ++ xs) (us ++ vs) F2 := by
  obtain ⟨v', vr, F1, F2, e1, rfl, o, t⟩ := p.own.inv
  cases e1
  obtain ⟨n1, n2, n3⟩ := List.nodup_append.mp p.nd
  obtain ⟨G, g1, g2, g3⟩ := h F1 n1 o
  have sub : ∀ a ∈ G ++ F2, a ∈ F1 ++ F2 := fun a ha => (List.mem_append.mp ha).elim (fun z => List.mem_append_left _ (g2 a z)) fun z => List.mem_append_right _ z
  exact ⟨G ++ F2, ⟨p.st.less sub, p.sim, OwnL.append t g1, List.nodup_append.mpr ⟨g3, n2, fun a ha b hb => n3 a (g2 a ha) b hb⟩, fun a ha => p.sub a (sub a ha), fun a ha => p.dis a (sub a ha), p.zd, p.kp⟩⟩
end

inductive Tg where
  | nm (i : Nat) | tp (ts : List Tg)
mutual
def mTg (mp : List Nat) : Tg → Val → Env → Option Env
  | .nm i, x, env => if i ∈ mp then none else some (env.set i (some (nrm x)))
  | .tp ts, x, env => match x.2 with
    | .tup ds => mTgs mp ts (ds.map fun d => (x.1, d)) env
    | .lst ds => mTgs mp ts (ds.map fun d => (x.1.pred, d)) env
    | _ => none
def mTgs (mp : List Nat) : List Tg → List Val → Env → Option Env
  | [], [], env => some env
  | t :: ts, x :: xs, env => (mTg mp t x env).bind fun env => mTgs mp ts xs env
  | _, _, _ => none
end
theorem mTgs_len {mp : List Nat} : ∀ {ts : List Tg} {xs : List Val} {env env' : Env}, mTgs mp ts xs env = some env' → xs.length = ts.length
  | [], [], _, _, _ => rfl
  | [], _ :: _, _, _, h => by simp [mTgs] at h
  | _ :: _, [], _, _, h => by simp [mTgs] at h
  | t :: ts, x :: xs, env, _, h => by
    simp only [mTgs] at h
    cases e : mTg mp t x env with
    | none => rw [e] at h; cases h
    | some e1 =>
      rw [e] at h
      have := mTgs_len (ts := ts) (xs := xs) h
      simp [this]

def rdG (W : Wd) (mp : List Nat) (t : Tg) : TG := fun v σ H Q => ∃ σ0 H0 Z0 Fs0 Z env Fs x xs vs F, PostP W mp σ0 H0 Z0 Fs0 σ H Z env Fs (x :: xs) (v :: vs) F ∧ ∃ env', mTg mp t x env = some env' ∧
  ∀ σ' H' Fs' F', PostP W mp σ0 H0 Z0 Fs0 σ' H' Z env' Fs' xs vs F' → Q σ' H'
def rdGs (W : Wd) (mp : List Nat) (ts : List Tg) : TGs := fun us σ H Q => ∃ σ0 H0 Z0 Fs0 Z env Fs ys xs vs F, PostP W mp σ0 H0 Z0 Fs0 σ H Z env Fs (ys ++ xs) (us ++ vs) F ∧ us.length = ys.length ∧ ∃ env', mTgs mp ts ys env = some env' ∧
  ∀ σ' H' Fs' F', PostP W mp σ0 H0 Z0 Fs0 σ' H' Z env' Fs' xs vs F' → Q σ' H'
def GG (X : Cx) (W : Wd) (mp : List Nat) (tg : Expr) (t : Tg) : Prop := PG X tg (rdG W mp t)
def GGs (X : Cx) (W : Wd) (mp : List Nat) (tgs : List Expr) (ts : List Tg) : Prop := PGs X tgs (rdGs W mp ts)
theorem pg_imp {X : Cx} {tg : Expr} {t t' : TG} (p : PG X tg t) (h : ∀ v σ H Q, t' v σ H Q → t v σ H Q) : PG X tg t' := ⟨fun pins s σ H v u Q I r k => p.run pins s σ H v u Q I r (h v σ H Q k)⟩
theorem pgs_imp {X : Cx} {tg : List Expr} {t t' : TGs} (p : PGs X tg t) (h : ∀ v σ H Q, t' v σ H Q → t v σ H Q) : PGs X tg t' := ⟨fun pins s σ H v u Q I r k => p.run pins s σ H v u Q I r (h v σ H Q k)⟩
section
variable {X : Cx} {W : Wd} {mp : List Nat} {pos : Pos}
theorem gg_name {i : Nat} {x : Str} (hN : X.N.Nodup) (hi : X.N[i]? = some x) (hx : Loc X.env.scope x) (hf : X.fn x = true ∨ X.env.scope.names.lookup x = some .local) : GG X W mp (.Name x pos) (.nm i) :=
  pg_imp (pg_name hN hi hx hf) fun v σ H Q ⟨σ0, H0, Z0, Fs0, Z, env, Fs, y, xs, vs, F, p, env', e, h⟩ => by
    simp only [mTg] at e
    split at e
    · cases e
    · rename_i c
      simp only [Option.some.injEq] at e
      subst e
      obtain ⟨Fs2, F2, q⟩ := p.put c
      exact h _ _ _ _ q
theorem ggs_nil : GGs X W mp [] [] := pgs_imp pgs_nil fun us σ H Q ⟨σ0, H0, Z0, Fs0, Z, env, Fs, ys, xs, vs, F, p, hl, env', e, h⟩ => by
  have := mTgs_len e
  cases ys with
  | cons _ _ => cases this
  | nil =>
    cases us with
    | cons _ _ => cases hl
    | nil =>
      simp only [mTgs, Option.some.injEq] at e
      subst e
      exact ⟨rfl, h _ _ _ _ p⟩
theorem ggs_cons {tg : Expr} {tgs : List Expr} {t : Tg} {ts : List Tg} (h1 : GG X W mp tg t) (h2 : GGs X W mp tgs ts) (hs : (assignEach (tg :: tgs) X.env).map (·.2) = assign tg X.env :: (assignEach tgs X.env).map (·.2)) : GGs X W mp (tg :: tgs) (t :: ts) :=
  pgs_imp (pgs_cons h1 h2 hs) fun us σ H Q ⟨σ0, H0, Z0, Fs0, Z, env, Fs, ys, xs, vs, F, p, hl, env', e, h⟩ => by
    have := mTgs_len e
    cases ys with
    | nil => cases this
    | cons y ys =>
      cases us with
      | nil => cases hl
      | cons u us =>
        simp only [mTgs] at e
        cases e1 : mTg mp t y env with
        | none => rw [e1] at e; cases e
        | some env1 =>
          rw [e1] at e
          refine ⟨u, us, rfl, σ0, H0, Z0, Fs0, Z, env, Fs, y, ys ++ xs, us ++ vs, F, p, env1, e1, fun σ1 H1 Fs1 F1 q => ?_⟩
          exact ⟨σ0, H0, Z0, Fs0, Z, env1, Fs1, ys, xs, vs, F1, q, by simpa using hl, env', e, h⟩
theorem gg_tup {tgs : List Expr} {k : Nat} {ts : List Tg} {n : Nat} (hc : X.calm = true) (hK : W.K = X.K) (hg : GGs X W mp tgs ts) (hl : ts.length = n)
    (hn : (assignEach tgs X.env).length = n) (hst : (assignEach tgs X.env).findIdx? (·.1) = none) : GG X W mp (.Tuple tgs k pos) (.tp ts) := by
  have pt := pg_tup (k := k) (pos := pos) hc hg hn hst
  have pl := pg_lst (k := k) (pos := pos) hc hg hn hst
  refine ⟨fun pins s σ H v u Q I r hw => ?_⟩
  obtain ⟨σ0, H0, Z0, Fs0, Z, env, Fs, x, xs, vs, F, p, env', e, h⟩ := hw
  obtain ⟨m, d⟩ := x
  obtain ⟨v', vr, F1, F2, ev, _, o, _⟩ := p.own.inv
  cases ev
  cases d with
  | tup ds =>
    simp only [mTg] at e
    have el := mTgs_len e
    obtain ⟨a, ws, rfl, ha, hs⟩ := o.tup_inv
    refine pt.run pins s σ H _ u Q I r ⟨a, ws, rfl, SqT.of ha, by rw [hs.length, ← hl, ← el, List.length_map], ?_⟩
    obtain ⟨F3, q⟩ := p.split (ys := ds.map fun d => (m, d)) (us := ws) fun F1 nF o' => by
      obtain ⟨a', ws', e', ha', hs'⟩ := o'.tup_inv
      cases e'
      rw [ha] at ha'
      cases ha'
      exact ⟨F1, hs'.toL, fun _ z => z, nF⟩
    exact ⟨σ0, H0, Z0, Fs0, Z, env, Fs, _, xs, vs, F3, q, by rw [hs.length, List.length_map], env', e, h⟩
  | lst ds =>
    simp only [mTg] at e
    have el := mTgs_len e
    obtain ⟨a, ws, G, rfl, ha, hs, hG, hn'⟩ := o.lst_inv
    refine pl.run pins s σ H _ u Q I r ⟨a, ws, rfl, SqL.of ha, by rw [hs.length, ← hl, ← el, List.length_map], ?_⟩
    obtain ⟨F3, q⟩ := p.split (ys := ds.map fun d => (m.pred, d)) (us := ws) fun F1 nF o' => by
      obtain ⟨a', ws', G', e', ha', hs', hG', hn''⟩ := o'.lst_inv
      cases e'
      rw [ha] at ha'
      cases ha'
      exact ⟨G', hs'.toL, hG', hn'' nF⟩
    exact ⟨σ0, H0, Z0, Fs0, Z, env, Fs, _, xs, vs, F3, q, by rw [hs.length, List.length_map], env', e, h⟩
  | _ => simp only [mTg] at e; cases e
/-- target = value -/
def mAsg (mp : List Nat) (t : Tg) (ma : M Val) : M Fl := ma.bind fun x env => match mTg mp t x env with
  | some env' => .ok .nx env'
  | none => .bad
theorem gs_asg {tg e : Expr} {t : Tg} {ma : M Val} (he : GE X W e ma) (hg : GG X W mp tg t) (hs : swapsWithSole [tg] e pos.line X.env = pure false) (hw : swappedStores [tg] e X.env = pure none) (h1 : (assignEach [tg] X.env).map (·.2) = [assign tg X.env]) :
    GS X W mp (.Assign [tg] e pos) (mAsg mp t ma) := fun w tk => by
  refine ps_imp (ps_asg (he w tk) hg hs hw h1) fun D σ H h => ?_
  obtain ⟨Z, env, Fs, S, h⟩ := h
  refine rdE_mono (rs_expr S h) fun v H1 ⟨Z2, env2, Fs2, y, Fy, p, h2⟩ => ?_
  cases et : mTg mp t y env2 with
  | none => rw [et] at h2; exact h2.elim
  | some env' =>
    rw [et] at h2
    exact ⟨σ, H, Z, Fs, Z2, env2, Fs2, y, [], [], Fy, p.toP, env', et, fun σ' H' Fs' F' q => h2 _ _ _ _ q.toS⟩
end
end BV
set_option maxHeartbeats 2000000
/-! BV15: what a loop walks; for. -/
namespace BV
open PySem PySem.Spec PyProof.Rows L2

/-- J yields the data ds, one behind another, whatever happens to what is owned -/
structure Yields (W : Wd) (J : It) (H0 : Hp) (Z0 : Addr → Prop) (Fs0 : Nat → List Addr) (ds : List D) : Prop where
  stop : ∀ H Z Fs, Step W H0 Z0 Fs0 H Z Fs [] → J.stop ds.length H
  go : ∀ i H Z Fs, i < ds.length → Step W H0 Z0 Fs0 H Z Fs [] → J.go i H
  yld : ∀ i d H Z Fs x H', ds[i]? = some d → Step W H0 Z0 Fs0 H Z Fs [] → J.yld i H x H' → Fr W (fun _ => False) H H' ∧ Own W H' (fun a => ¬ Z a) .shr x d []
def FinI (W : Wd) (w : WX) (σ : L2.St) (H : Hp) (Z : Addr → Prop) (Fs : Nat → List Addr) (o : Out (List D)) (R : It → Hp → Prop) : Prop := match o with
  | .ok ds env' => ∀ H' Z' Fs' J, PostL W H Z Fs σ H' Z' env' Fs' [] [] [] → Yields W J H' Z' Fs' ds → R J H'
  | .exc c fs env' => ∀ H' Z' Fs' cls dd, PostX W H Z Fs σ H' Z' env' Fs' c fs cls dd → w cls dd σ H'
  | .bad => False
def rdI (W : Wd) (w : WX) (m : M (List D)) : TI := fun σ H R => ∃ Z env Fs, Sim W H Z σ env Fs ∧ FinI W w σ H Z Fs (m env) R
def GI (X : Cx) (W : Wd) (tg iter : Expr) (m : M (List D)) : Prop := ∀ w, Takes X w → PI X tg iter (rdI W w m)
theorem pi_imp {X : Cx} {tg e : Expr} {t t' : TI} (p : PI X tg e t) (h : ∀ σ H R, t' σ H R → t σ H R) : PI X tg e t' := ⟨fun pins s σ H R I k => p.run pins s σ H R I (h σ H R k)⟩

section
variable {W : Wd} {w : WX} {mp : List Nat} {σ : L2.St} {H H1 H2 : Hp} {Z Z1 Z2 : Addr → Prop} {Fs Fs1 Fs2 : Nat → List Addr} {env env1 : Env} {xs ys : List Val} {vs us : List V} {F G Fx : List Addr} {x : Val} {v : V}
/-- an expression, then what is walked -/
theorem ri_more {ma : M Val} {k : Val → M (List D)} {R : It → Hp → Prop} (h : rdI W w (ma.bind k) σ H R) :
    rdE W w ma σ H fun v H2 => ∃ Z Fs Z2 env2 Fs2 y Fy, PostL W H Z Fs σ H2 Z2 env2 Fs2 [y] [v] Fy ∧ FinI W w σ H Z Fs (k y env2) R := by
  obtain ⟨Z, env, Fs, S, h⟩ := h
  refine ⟨Z, env, Fs, S, ?_⟩
  have h : FinI W w σ H Z Fs ((ma env).bind k) R := h
  cases e : ma env with
  | ok y e2 =>
    rw [e] at h
    intro H' Z' Fs' v Fx q
    have := (PostL.start S).snoc q
    simp only [List.nil_append] at this
    exact ⟨Z, Fs, Z', e2, Fs', y, Fx, this, h⟩
  | exc c fs e2 => rw [e] at h; exact h
  | bad => rw [e] at h; exact h
theorem ri_args {ma : M (List Val)} {k : List Val → M (List D)} {R : It → Hp → Prop} (h : rdI W w (ma.bind k) σ H R) :
    rdA W w ma σ H fun us H2 => ∃ Z Fs Z2 env2 Fs2 ys Fy, PostL W H Z Fs σ H2 Z2 env2 Fs2 ys us Fy ∧ FinI W w σ H Z Fs (k ys env2) R := by
  obtain ⟨Z, env, Fs, S, h⟩ := h
  refine ⟨Z, env, Fs, S, ?_⟩
  have h : FinI W w σ H Z Fs ((ma env).bind k) R := h
  cases e : ma env with
  | ok y e2 =>
    rw [e] at h
    exact fun H' Z' Fs' v Fx q => ⟨Z, Fs, Z', e2, Fs', y, Fx, q, h⟩
  | exc c fs e2 => rw [e] at h; exact h
  | bad => rw [e] at h; exact h

/-- the items of a shared list, later -/
theorem Owns.later (so : ∀ a, OF Fs1 a → Z1 a) (b : Step W H1 Z1 Fs1 H2 Z2 Fs2 Fx) {ws : List V} {ds : List D} (o : Owns W H1 (fun a => ¬ Z1 a) .shr ws ds []) {i : Nat} {d : D} (e : ds[i]? = some d) : ∃ v, ws[i]? = some v ∧ Own W H2 (fun a => ¬ Z2 a) .shr v d [] := by
  obtain ⟨v, G, e1, o1, hG, _⟩ := o.get e
  have := o1.shr_nil
  subst this
  exact ⟨v, e1, Own.later so o1 (fun _ z => nomatch z) b⟩
theorem SqL.det {K : PySem.W.Frag} {a : Addr} {ws xs : List V} (hK : ∀ o, K.lookup a = some o → H a = none) (h : H a = some (.lst ws)) (s : SqL K H a xs) : xs = ws := by
  rcases s with (s | ⟨o, s⟩) | ⟨o, its, n, s, _⟩
  · rw [h] at s; cases s; rfl
  · rw [h] at s; cases s
  · have := hK o s; rw [h] at this; cases this
end

/-! the lists and tuples walked, by what is tracked alone -/
def Jl (a : Addr) : It := ⟨fun i H => ∃ xs x, H a = some (.lst xs) ∧ xs[i]? = some x, fun i H x H' => H' = H ∧ ∀ xs, H a = some (.lst xs) → xs[i]? = some x, fun i H => ∃ xs, H a = some (.lst xs) ∧ xs.length ≤ i⟩
def Jt (a : Addr) : It := ⟨fun i H => ∃ xs x, H a = some (.tup xs) ∧ xs[i]? = some x, fun i H x H' => H' = H ∧ ∀ xs, H a = some (.tup xs) → xs[i]? = some x, fun i H => ∃ xs, H a = some (.tup xs) ∧ xs.length ≤ i⟩
def Je (a : Addr) : It := ⟨fun i H => ∃ (xs : List V) (x : V), H a = some (.lst xs) ∧ xs[i]? = some x, fun i H v H' => ∃ T x, v = .ref T ∧ H T = none ∧ H' = upd H T (.tup [.int (i : Nat), x]) ∧ ∀ xs, H a = some (.lst xs) → xs[i]? = some x, fun i H => ∃ xs : List V, H a = some (.lst xs) ∧ xs.length ≤ i⟩
def Jz (a b : Addr) : It := ⟨fun i H => ∃ (xs ys : List V) (x y : V), H a = some (.lst xs) ∧ H b = some (.lst ys) ∧ xs[i]? = some x ∧ ys[i]? = some y,
  fun i H v H' => ∃ T x y, v = .ref T ∧ H T = none ∧ H' = upd H T (.tup [x, y]) ∧ (∀ xs, H a = some (.lst xs) → xs[i]? = some x) ∧ ∀ ys, H b = some (.lst ys) → ys[i]? = some y,
  fun i H => ∃ xs ys : List V, H a = some (.lst xs) ∧ H b = some (.lst ys) ∧ (xs.length ≤ i ∨ ys.length ≤ i)⟩
def Jzt (a b : Addr) : It := ⟨fun i H => ∃ (xs ys : List V) (x y : V), H a = some (.tup xs) ∧ H b = some (.tup ys) ∧ xs[i]? = some x ∧ ys[i]? = some y,
  fun i H v H' => ∃ T x y, v = .ref T ∧ H T = none ∧ H' = upd H T (.tup [x, y]) ∧ (∀ xs, H a = some (.tup xs) → xs[i]? = some x) ∧ ∀ ys, H b = some (.tup ys) → ys[i]? = some y,
  fun i H => ∃ xs ys : List V, H a = some (.tup xs) ∧ H b = some (.tup ys) ∧ (xs.length ≤ i ∨ ys.length ≤ i)⟩
/-- a walk that asks less -/
theorem Turn.weak {P : Program} {w : World} {K : PySem.W.Frag} {tg : Expr} {J J' : It} {fp : List Addr} {it : Addr} {tn : Nat → Heap → Prop} (T : Turn P w K tg J fp it tn) (g : ∀ i H, J'.go i H → J.go i H) (y : ∀ i H x H', J'.go i H → J.yld i H x H' → J'.yld i H x H') (st : ∀ i H, J'.stop i H → J.stop i H) : Turn P w K tg J' fp it tn where
  mem := T.mem
  obj := T.obj
  keep := T.keep
  item := fun X h1 h2 h3 h4 i pins s σ H E I hf t go => wpAny_mono (T.item X h1 h2 h3 h4 i pins s σ H E I hf t (g i H go)) (fun r s1 ⟨u, e, h⟩ => ⟨u, e, wpAny_mono h (fun _ s2 ⟨x, H', a, b, c, d⟩ => ⟨x, H', a, b, y i H x H' go c, d⟩) fun _ _ z => z⟩) fun _ _ z => z
  done := fun X h1 h2 h3 h4 i pins s σ H E I hf t s' => T.done X h1 h2 h3 h4 i pins s σ H E I hf t (st i H s')
  self := T.self
theorem pie_weak {X : Cx} {pins : List (Addr × Obj)} {σ : L2.St} {tg : Expr} {J J' : It} {H0 : Hp} {R : It → Hp → Prop} {itv : Value} {s2 : Shared} (h : PIE X pins σ tg (fun J1 H => J1 = J ∧ R J' H) itv s2) (g : ∀ i H, J'.go i H → J.go i H) (y : ∀ i H x H', J'.go i H → J.yld i H x H' → J'.yld i H x H') (st : ∀ i H, J'.stop i H → J.stop i H) : PIE X pins σ tg R itv s2 := by
  obtain ⟨it, fp, tn, J1, H', a, b, T, c, d, rfl, r⟩ := h
  exact ⟨it, fp, tn, J', H', a, b, Turn.weak T g y st, c, d, r⟩
section
variable {X : Cx} {tg : Expr}
/-- any of them -/
def iSeq (tl : TE) : TI := fun σ H R => tl σ H fun x H1 => (∃ a xs, x = .ref a ∧ H1 a = some (.lst xs) ∧ R (Jl a) H1) ∨ (∃ a xs, x = .ref a ∧ H1 a = some (.tup xs) ∧ R (Jt a) H1) ∨ ∃ z, x = .str z ∧ R (Its z) H1
theorem pi_seq {l : Expr} {tl : TE} (hl : PE X l tl) : PI X tg l (iSeq tl) := by
  refine ⟨fun pins s σ H R I h => ?_⟩
  refine thn (hl.run pins s σ H _ I h) fun v s1 ⟨x, H1, I1, r1, q1⟩ => ?_
  have fresh : ∀ b ∈ [s1.heap.objs.size], FpOk X pins H1 b := fun b hb => by
    have e : b = s1.heap.objs.size := by simpa using hb
    subst e
    exact I1.fpOk (Nat.le_refl _) (I1.hok.fresh (Nat.le_refl _))
  rcases q1 with ⟨a, xs, rfl, ha, q⟩ | ⟨a, xs, rfl, ha, q⟩ | ⟨z, rfl, q⟩
  · cases r1
    obtain ⟨its, rv, p, hz⟩ := I1.list (SqL.of ha)
    refine wpAny_pyIter_list p.isList ?_
    refine ⟨s1.heap.objs.size, [s1.heap.objs.size], _, Jl a, H1, rfl, I1.kept (t' := s1.toks) fun b o e => Heap.get?_push_of_some _ e, Turn.weak (turn_list (K := X.K) a _) (fun i H ⟨xs, x, h1, h2⟩ => ⟨xs, x, SqL.of h1, h2⟩) (fun i H x H' _ ⟨h1, h2⟩ => ⟨h1, fun xs h => h2 xs (SqL.of h)⟩) (fun i H ⟨xs, h1, h2⟩ => ⟨xs, SqL.of h1, h2⟩), ⟨_, Heap.get?_push_size _ rfl, rfl, rfl⟩, fresh, q⟩
  · cases r1
    obtain ⟨its, rv, p, hz⟩ := I1.tuple (SqT.of ha)
    refine wpAny_pyIter_tuple (show s1.heap.IsTuple a its.toArray from p) ?_
    refine ⟨s1.heap.objs.size, [s1.heap.objs.size], _, Jt a, H1, rfl, I1.kept (t' := s1.toks) fun b o e => Heap.get?_push_of_some _ e, Turn.weak (turn_tuple (K := X.K) a _) (fun i H ⟨xs, x, h1, h2⟩ => ⟨xs, x, SqT.of h1, h2⟩) (fun i H x H' _ ⟨h1, h2⟩ => ⟨h1, fun xs h => h2 xs (SqT.of h)⟩) (fun i H ⟨xs, h1, h2⟩ => ⟨xs, SqT.of h1, h2⟩), ⟨_, Heap.get?_push_size _ rfl, rfl, rfl⟩, fresh, q⟩
  · obtain ⟨t, rfl⟩ := r1
    cases ha : z.cps.all (· < 128)
    · exact wpAny_pyIter_wide ha (pi_one (tk := s1.toks) I1 _ (turn_str _ z t "str_iterator" (.inr rfl)) ⟨_, Heap.get?_push_size _ rfl, rfl, rfl⟩ q)
    · exact wpAny_pyIter_ascii ha (pi_one (tk := s1.toks) I1 _ (turn_str _ z t "str_ascii_iterator" (.inl rfl)) ⟨_, Heap.get?_push_size _ rfl, rfl, rfl⟩ q)
end
/-- what is walked, as data -/
def itemsOf : D → Option (List D)
  | .lst ds => some ds
  | .tup ds => some ds
  | .str z => some (z.cps.toList.map fun c => .str ⟨#[c]⟩)
  | _ => none
def mItems (ma : M Val) : M (List D) := ma.bind fun x => match itemsOf x.2 with
  | some ds => M.pure ds
  | none => M.bad
section
variable {X : Cx} {W : Wd} {w : WX} {σ : L2.St} {H H1 H2 : Hp} {Z Z1 Z2 : Addr → Prop} {Fs Fs1 Fs2 : Nat → List Addr} {env env1 : Env} {F : List Addr} {x : Val} {v : V}
theorem yields_lst {a : Addr} {ws : List V} {ds : List D} (S : Sim W H Z σ env Fs) (h : H a = some (.lst ws)) (hz : ¬ Z a) (o : Owns W H (fun a => ¬ Z a) .shr ws ds []) : Yields W (Jl a) H Z Fs ds := by
  have at_ : ∀ {H' Z' Fs'}, Step W H Z Fs H' Z' Fs' [] → H' a = some (.lst ws) := fun st => st.fr.keep a _ h (.inl fun z => hz (S.subO z)) (fun z => z)
  refine ⟨fun H' Z' Fs' st => ⟨ws, at_ st, by rw [o.length]; exact Nat.le_refl _⟩, fun i H' Z' Fs' hi st => ?_, fun i d H' Z' Fs' x H2 e st y => ?_⟩
  · have hi' : i < ws.length := by rw [o.length]; exact hi
    exact ⟨ws, ws[i], at_ st, List.getElem?_eq_getElem hi'⟩
  · obtain ⟨rfl, y⟩ := y
    obtain ⟨v, e1, o1⟩ := Owns.later (fun a z => S.subO z) st o e
    have := y ws (at_ st)
    rw [e1] at this
    cases this
    exact ⟨Fr.refl, o1⟩
theorem yields_tup {a : Addr} {ws : List V} {ds : List D} (S : Sim W H Z σ env Fs) (h : H a = some (.tup ws)) (o : Owns W H (fun a => ¬ Z a) .shr ws ds []) : Yields W (Jt a) H Z Fs ds := by
  have at_ : ∀ {H' Z' Fs'}, Step W H Z Fs H' Z' Fs' [] → H' a = some (.tup ws) := fun st => st.fr.keep a _ h (.inr trivial) (fun z => z)
  refine ⟨fun H' Z' Fs' st => ⟨ws, at_ st, by rw [o.length]; exact Nat.le_refl _⟩, fun i H' Z' Fs' hi st => ?_, fun i d H' Z' Fs' x H2 e st y => ?_⟩
  · have hi' : i < ws.length := by rw [o.length]; exact hi
    exact ⟨ws, ws[i], at_ st, List.getElem?_eq_getElem hi'⟩
  · obtain ⟨rfl, y⟩ := y
    obtain ⟨v, e1, o1⟩ := Owns.later (fun a z => S.subO z) st o e
    have := y ws (at_ st)
    rw [e1] at this
    cases this
    exact ⟨Fr.refl, o1⟩
theorem yields_str {z : Str} : Yields W (Its z) H Z Fs (z.cps.toList.map fun c => D.str ⟨#[c]⟩) := by
  refine ⟨fun H' Z' Fs' st => by simp [Its], fun i H' Z' Fs' hi st => by simpa [Its] using hi, fun i d H' Z' Fs' x H2 e st y => ?_⟩
  obtain ⟨rfl, c, e1, rfl⟩ := y
  rw [List.getElem?_map] at e
  have e2 : z.cps.toList[i]? = some c := by simpa using e1
  rw [e2] at e
  cases e
  exact ⟨Fr.refl, .str _⟩
theorem gi_seq {l : Expr} {ma : M Val} (hl : GE X W l ma) : GI X W tg l (mItems ma) := fun w tk => by
  refine pi_imp (pi_seq (hl w tk)) fun σ H R h => ?_
  refine rdE_mono (ri_more h) fun v H1 ⟨Z, Fs, Z2, env2, Fs2, y, Fy, p, h2⟩ => ?_
  obtain ⟨m, d⟩ := y
  obtain ⟨Z3, q⟩ := p.shr
  have o := q.own.inv1
  cases d with
  | lst ds =>
    obtain ⟨a, ws, G, rfl, ha, hs, _⟩ := o.lst_inv
    have hz : ¬ Z3 a := by
      cases o with
      | lstS pa _ _ => exact pa
    have := hs.shr_nil
    subst this
    exact .inl ⟨a, ws, rfl, ha, h2 _ _ _ _ q.drop (yields_lst q.sim ha hz hs)⟩
  | tup ds =>
    obtain ⟨a, ws, rfl, ha, hs⟩ := o.tup_inv
    exact .inr (.inl ⟨a, ws, rfl, ha, h2 _ _ _ _ q.drop (yields_tup q.sim ha hs)⟩)
  | str z =>
    have := o.str_inv
    subst this
    exact .inr (.inr ⟨z, rfl, h2 _ _ _ _ q.drop yields_str⟩)
  | _ => exact h2.elim
end

/-! ### for -/
def mFor (mp : List Nat) (t : Tg) (mb : M Fl) : List D → M Fl
  | [] => M.pure .nx
  | d :: ds => fun env => match mTg mp t (.shr, d) env with
    | some env1 => (mb env1).bind fun fl => match fl with
      | .nx => mFor mp t mb ds
      | .ct => mFor mp t mb ds
      | .bk => M.pure .nx
      | .rt x => M.pure (.rt x)
    | none => .bad
section
variable {X : Cx} {W : Wd} {w : WX} {mp : List Nat} {σ σ1 : L2.St} {H H1 H2 : Hp} {Z Z1 : Addr → Prop} {Fs Fs1 : Nat → List Addr} {env env1 : Env} {pos : Pos}
theorem Sim.grow (S : Sim W H Z σ env Fs) (f : Fr W (fun _ => False) H H1) : Sim W H1 Z σ env Fs where
  rep := fun i x e => let ⟨v, e1, o⟩ := S.rep i x e; ⟨v, e1, Own.frame f (fun _ _ z => z) o fun _ _ z => z⟩
  off := S.off
  dis := S.dis
  nd := S.nd
  sub := S.sub
  zdom := fun a z => f.there a (S.zdom a z)
  len := S.len
  tabs := f.tabs S.tabs
theorem PostS.grow (p : PostS W mp σ H Z Fs σ1 H1 Z1 env Fs1) (f : Fr W (fun _ => False) H1 H2) : PostS W mp σ H Z Fs σ1 H2 Z1 env Fs1 where
  st := ⟨⟨fun a o h k t => f.keep a o (p.st.fr.keep a o h k t) (.inl id) t, fun t => f.tabs (p.st.fr.tabs t), fun a h => f.there a (p.st.fr.there a h)⟩, p.st.zin, p.st.zkeep, p.st.own⟩
  sim := p.sim.grow f
  zd := p.zd
  kp := p.kp
theorem PostS.hold (p : PostS W mp σ H Z Fs σ1 H1 Z1 env Fs1) {x : V} {d : D} (o : Own W H1 (fun a => ¬ Z1 a) .shr x d []) : PostP W mp σ H Z Fs σ1 H1 Z1 env Fs1 [(.shr, d)] [x] [] :=
  ⟨p.st, p.sim, .cons (F := []) (x := (.shr, d)) o .nil, List.nodup_nil, fun _ z => (nomatch z), fun _ z => (nomatch z), p.zd, p.kp⟩
theorem gs_for {tg iter : Expr} {body : List Stmt} {t : Tg} {mi : M (List D)} {mb : M Fl} (hp : PassesOwn (model X.prog X.w) X.A X.env X.xe) (hc : X.calm = true) (hi : GI X W tg iter mi) (hg : GG X W mp tg t) (hb : GB X W mp body mb)
    (hs : ∀ x, foldedSetIterable iter X.env x = pure x) : GS X W mp (.For tg iter body [] pos) (mi.bind fun ds => mFor mp t mb ds) := fun w tk => by
  refine ps_imp (ps_for hp hc (hi w tk) hg (hb w tk) hs) fun D σ H h => ?_
  obtain ⟨Z, env, Fs, S, h⟩ := h
  refine ⟨Z, env, Fs, S, ?_⟩
  have h : FinS W w mp σ H Z Fs ((mi env).bind fun ds => mFor mp t mb ds) D := h
  cases ei : mi env with
  | exc c fs e => rw [ei] at h; exact fun H' Z' Fs' cls dd q => h _ _ _ _ _ _ q.toS
  | bad => rw [ei] at h; exact h
  | ok ds env1 =>
    rw [ei] at h
    intro H1 Z1 Fs1 J p Y
    have h : FinS W w mp σ H1 Z1 Fs1 (mFor mp t mb ds env1) D := FinS.go p.toS h
    refine ⟨fun i m σ2 H2 => m = ds.length - i ∧ i ≤ ds.length ∧ ∃ Z2 env2 Fs2, PostS W mp σ H1 Z1 Fs1 σ2 H2 Z2 env2 Fs2 ∧ FinS W w mp σ H1 Z1 Fs1 (mFor mp t mb (ds.drop i) env2) D, ⟨ds.length, by simp, Nat.zero_le _, Z1, env1, Fs1, PostS.start p.sim, h⟩, ?_⟩
    rintro i m σ2 H2 ⟨rfl, hle, Z2, env2, Fs2, q, h2⟩
    by_cases hlt : i < ds.length
    · refine .inr ⟨Y.go i _ _ _ hlt q.st, fun σ' H' => ∃ Z' env' Fs', PostS W mp σ H1 Z1 Fs1 σ' H' Z' env' Fs' ∧ FinS W w mp σ H1 Z1 Fs1 (mFor mp t mb (ds.drop (i + 1)) env') D, fun σ' H' k => ⟨ds.length - (i + 1), by omega, rfl, hlt, k⟩, fun x H3 y => ?_⟩
      obtain ⟨f, o⟩ := Y.yld i ds[i] _ _ _ x H3 (List.getElem?_eq_getElem hlt) q.st y
      have q3 := q.grow f
      rw [List.drop_eq_getElem_cons hlt] at h2
      unfold mFor at h2
      cases et : mTg mp t (.shr, ds[i]) env2 with
      | none => rw [et] at h2; exact h2.elim
      | some env3 =>
        rw [et] at h2
        dsimp only at h2
        refine ⟨σ, H1, Z1, Fs1, Z2, env2, Fs2, (.shr, ds[i]), [], [], [], q3.hold o, env3, et, fun σ4 H4 Fs4 F4 q4 => ?_⟩
        have q4 := q4.toS
        refine ⟨Z2, env3, Fs4, q4.sim, ?_⟩
        cases eb : mb env3 with
        | ok fl e2 =>
          rw [eb] at h2
          cases fl with
          | nx => exact fun σ' H' Z' Fs' r => ⟨Z', e2, Fs', q4.trans r, h2⟩
          | ct => exact fun σ' H' Z' Fs' r => ⟨Z', e2, Fs', q4.trans r, h2⟩
          | bk => exact fun σ' H' Z' Fs' r => h2 _ _ _ _ (q4.trans r)
          | rt x => exact fun σ' H' Z' Fs' v Fx r => h2 _ _ _ _ _ _ (q4.ret r)
        | exc c fs e2 =>
          rw [eb] at h2
          exact fun σ' H' Z' Fs' cls dd r => h2 _ _ _ _ _ _ (q4.exc r)
        | bad =>
          rw [eb] at h2
          exact h2
    · have e : i = ds.length := by omega
      subst e
      rw [List.drop_length] at h2
      exact .inl ⟨Y.stop _ _ _ q.st, h2 _ _ _ _ q⟩
end

/-! ### range, enumerate, zip -/
def WeakJ (J J' : It) : Prop := (∀ i H, J'.go i H → J.go i H) ∧ (∀ i H x H', J'.go i H → J.yld i H x H' → J'.yld i H x H') ∧ ∀ i H, J'.stop i H → J.stop i H
theorem pi_weakJ {X : Cx} {tg e : Expr} {wi : TI} (p : PI X tg e wi) : PI X tg e (fun σ H R => wi σ H fun J H1 => ∃ J', WeakJ J J' ∧ R J' H1) :=
  ⟨fun pins s σ H R I h => wpAny_mono (p.run pins s σ H _ I h) (fun v s1 h1 => wpAny_mono h1 (fun itv s2 ⟨it, fp, tn, J, H', a, b, T, c, d, J', w, r⟩ => ⟨it, fp, tn, J', H', a, b, Turn.weak T w.1 w.2.1 w.2.2, c, d, r⟩) fun _ _ z => z) fun _ _ z => z⟩
section
variable {X : Cx} {W : Wd} {w : WX} {σ : L2.St} {H H1 H2 : Hp} {Z Z1 : Addr → Prop} {Fs Fs1 : Nat → List Addr} {env env1 : Env} {p pos : Pos} {tg : Expr}
def rangeD (lo hi : Int) : List D := (List.range (hi - lo).toNat).map fun i => .int (lo + (i : Nat))
def gRange1 : List Val → Option (List D)
  | [(_, .int j)] => if -(2 ^ 62) ≤ j ∧ j < 2 ^ 62 then some (rangeD 0 j) else none
  | _ => none
def gRange2 : List Val → Option (List D)
  | [(_, .int i), (_, .int j)] => if -(2 ^ 62) ≤ i ∧ i < 2 ^ 62 ∧ -(2 ^ 62) ≤ j ∧ j < 2 ^ 62 then some (rangeD i j) else none
  | _ => none
def mWalk (g : List Val → Option (List D)) (ma : M (List Val)) : M (List D) := ma.bind fun xs => match g xs with
  | some ds => M.pure ds
  | none => M.bad
theorem yields_range {lo hi : Int} : Yields W (Itr lo (hi - lo).toNat) H Z Fs (rangeD lo hi) := by
  refine ⟨fun H' Z' Fs' st => by simp only [Itr, rangeD, List.length_map, List.length_range]; exact Nat.le_refl _, fun i H' Z' Fs' hi st => by simpa [Itr, rangeD] using hi, fun i d H' Z' Fs' x H2 e st y => ?_⟩
  obtain ⟨rfl, rfl⟩ := y
  unfold rangeD at e
  rw [List.getElem?_map] at e
  cases q : (List.range (hi - lo).toNat)[i]? with
  | none => rw [q] at e; cases e
  | some k =>
    rw [q] at e
    have hk : k = i := by
      obtain ⟨h1, h2⟩ := List.getElem?_eq_some_iff.mp q
      rw [List.getElem_range] at h2
      exact h2.symm
    subst hk
    cases e
    exact ⟨Fr.refl, .int _⟩
theorem gi_range1 {a : Expr} {ma : M (List Val)} (hg : Gl X "range") (hm : X.mg "range" = none) (ha : GA X W [a] ma) (hs : starEach [a] X.env = [(false, eval a X.env)]) : GI X W tg (.Call (.Name "range" p) [a] [] pos) (mWalk gRange1 ma) := fun w tk => by
  refine pi_imp (pi_range1 hg hm (ha w tk) hs) fun σ H R h => ?_
  refine rdA_mono (ri_args h) fun vs H1 ⟨Z, Fs, Z2, env2, Fs2, ys, Fy, p, h2⟩ => ?_
  cases eg : gRange1 ys with
  | none => rw [eg] at h2; exact h2.elim
  | some ds =>
    rw [eg] at h2
    unfold gRange1 at eg
    split at eg
    · split at eg
      · rename_i j c
        simp only [Option.some.injEq] at eg
        subst eg
        obtain ⟨v, rfl, o⟩ := p.own.one
        have := o.int_inv
        subst this
        refine ⟨j, rfl, c.1, c.2, h2 _ _ _ _ p.drop ?_⟩
        have y := yields_range (W := W) (H := H1) (Z := Z2) (Fs := Fs2) (lo := 0) (hi := j)
        simpa using y
      · cases eg
    · cases eg
theorem gi_range2 {a b : Expr} {ma : M (List Val)} (hg : Gl X "range") (hm : X.mg "range" = none) (ha : GA X W [a, b] ma) (hs : starEach [a, b] X.env = [(false, eval a X.env), (false, eval b X.env)]) (hs2 : starEach [b] X.env = [(false, eval b X.env)]) : GI X W tg (.Call (.Name "range" p) [a, b] [] pos) (mWalk gRange2 ma) := fun w tk => by
  refine pi_imp (pi_range2 hg hm (ha w tk) hs hs2) fun σ H R h => ?_
  refine rdA_mono (ri_args h) fun vs H1 ⟨Z, Fs, Z2, env2, Fs2, ys, Fy, p, h2⟩ => ?_
  cases eg : gRange2 ys with
  | none => rw [eg] at h2; exact h2.elim
  | some ds =>
    rw [eg] at h2
    unfold gRange2 at eg
    split at eg
    · split at eg
      · rename_i _ i _ j c
        simp only [Option.some.injEq] at eg
        subst eg
        obtain ⟨v, u, F1, F2, rfl, eF, o1, o2⟩ := p.own.two
        have e1 := o1.int_inv
        have e2 := o2.int_inv
        subst e1 e2
        exact ⟨i, j, rfl, ⟨c.1, c.2.1, c.2.2.1, c.2.2.2⟩, h2 _ _ _ _ p.drop yields_range⟩
      · cases eg
    · cases eg
/-! enumerate(list) -/
def gEnum : List Val → Option (List D)
  | [(_, .lst ds)] => some (ds.mapIdx fun i d => .tup [.int (i : Nat), d])
  | _ => none
theorem shr_lst {a : Addr} {ws : List V} {m : Mode} {ds : List D} {F : List Addr} {P : Addr → Prop} (o : Own W H P .shr (.ref a) (.lst ds) F) : P a := by
  cases o with
  | lstS pa _ _ => exact pa
  | lstO n _ _ => exact absurd rfl n
theorem yields_enum {a : Addr} {ws : List V} {ds : List D} (S : Sim W H Z σ env Fs) (h : H a = some (.lst ws)) (hz : ¬ Z a) (o : Owns W H (fun a => ¬ Z a) .shr ws ds []) : Yields W (Je a) H Z Fs (ds.mapIdx fun i d => .tup [.int (i : Nat), d]) := by
  have at_ : ∀ {H' Z' Fs'}, Step W H Z Fs H' Z' Fs' [] → H' a = some (.lst ws) := fun st => st.fr.keep a _ h (.inl fun z => hz (S.subO z)) (fun z => z)
  refine ⟨fun H' Z' Fs' st => ⟨ws, at_ st, by rw [o.length, List.length_mapIdx]; exact Nat.le_refl _⟩, fun i H' Z' Fs' hi st => ?_, fun i d H' Z' Fs' x H2 e st y => ?_⟩
  · have hi' : i < ws.length := by rw [o.length]; simpa using hi
    exact ⟨ws, ws[i], at_ st, List.getElem?_eq_getElem hi'⟩
  · obtain ⟨T, y0, rfl, hT, rfl, y⟩ := y
    rw [List.getElem?_mapIdx] at e
    cases q : ds[i]? with
    | none => rw [q] at e; cases e
    | some d0 =>
      rw [q] at e
      cases e
      obtain ⟨v, e1, o1⟩ := Owns.later (fun a z => S.subO z) st o q
      have := y ws (at_ st)
      rw [e1] at this
      cases this
      have f : Fr W (fun _ => False) H' (upd H' T (.tup [.int (i : Nat), y0])) := Fr.new hT
      refine ⟨f, .tup upd_same ?_⟩
      exact .cons (F := []) (.int _) (.cons (F := []) (Own.frame f (fun _ _ z => z) o1 fun _ z => (nomatch z)) .nil)
theorem weak_enum {K : PySem.W.Frag} {a : Addr} : WeakJ (Ite K a) (Je a) := ⟨fun i H ⟨xs, x, h1, h2⟩ => ⟨xs, x, SqL.of h1, h2⟩, fun i H x H' _ ⟨T, y, h1, h2, h3, h4⟩ => ⟨T, y, h1, h2, h3, fun xs h => h4 xs (SqL.of h)⟩, fun i H ⟨xs, h1, h2⟩ => ⟨xs, SqL.of h1, h2⟩⟩
theorem weak_zip {K : PySem.W.Frag} {a b : Addr} : WeakJ (Itz K a b) (Jz a b) := ⟨fun i H ⟨xs, ys, x, y, h1, h2, h3, h4⟩ => ⟨xs, ys, x, y, SqL.of h1, SqL.of h2, h3, h4⟩, fun i H x H' _ ⟨T, y, z, h1, h2, h3, h4, h5⟩ => ⟨T, y, z, h1, h2, h3, fun xs h => h4 xs (SqL.of h), fun xs h => h5 xs (SqL.of h)⟩, fun i H ⟨xs, ys, h1, h2, h3⟩ => ⟨xs, ys, SqL.of h1, SqL.of h2, h3⟩⟩
theorem weak_zipT {K : PySem.W.Frag} {a b : Addr} : WeakJ (RZ.ItzT K a b) (Jzt a b) := ⟨fun i H ⟨xs, ys, x, y, h1, h2, h3, h4⟩ => ⟨xs, ys, x, y, SqT.of h1, SqT.of h2, h3, h4⟩, fun i H x H' _ ⟨T, y, z, h1, h2, h3, h4, h5⟩ => ⟨T, y, z, h1, h2, h3, fun xs h => h4 xs (SqT.of h), fun xs h => h5 xs (SqT.of h)⟩, fun i H ⟨xs, ys, h1, h2, h3⟩ => ⟨xs, ys, SqT.of h1, SqT.of h2, h3⟩⟩
theorem gi_enum {e : Expr} {ma : M (List Val)} {tpos : Pos} {elts : List Expr} {kk : Nat} (hg : Gl X "enumerate") (hm : X.mg "enumerate" = none) (ha : GA X W [e] ma) (hs : starEach [e] X.env = [(false, eval e X.env)]) :
    GI X W (.Tuple elts kk tpos) (.Call (.Name "enumerate" p) [e] [] pos) (mWalk gEnum ma) := fun w tk => by
  refine pi_imp (pi_weakJ (pi_enum hg hm (ha w tk) hs)) fun σ H R h => ?_
  refine rdA_mono (ri_args h) fun vs H1 ⟨Z, Fs, Z2, env2, Fs2, ys, Fy, p, h2⟩ => ?_
  cases eg : gEnum ys with
  | none => rw [eg] at h2; exact h2.elim
  | some ds =>
    rw [eg] at h2
    unfold gEnum at eg
    split at eg
    · simp only [Option.some.injEq] at eg
      subst eg
      obtain ⟨Z3, q⟩ := p.shr
      obtain ⟨v, rfl, o⟩ := q.own.one
      obtain ⟨a, ws, G, rfl, ha, hs, _⟩ := o.lst_inv
      have hz : ¬ Z3 a := shr_lst (ws := ws) (m := .shr) o
      have := hs.shr_nil
      subst this
      exact ⟨a, ws, rfl, SqL.of ha, Je a, weak_enum, h2 _ _ _ _ q.drop (yields_enum q.sim ha hz hs)⟩
    · cases eg
/-! zip of two lists, of two tuples -/
def gZip : List Val → Option (List D)
  | [(_, .lst ds), (_, .lst es)] => some (List.zipWith (fun d e => .tup [d, e]) ds es)
  | [(_, .tup ds), (_, .tup es)] => some (List.zipWith (fun d e => .tup [d, e]) ds es)
  | _ => none
theorem zip_get {ds es : List D} {i : Nat} {d : D} (h : (List.zipWith (fun d e => D.tup [d, e]) ds es)[i]? = some d) : ∃ d1 d2, ds[i]? = some d1 ∧ es[i]? = some d2 ∧ d = .tup [d1, d2] := by
  rw [List.getElem?_zipWith] at h
  cases e1 : ds[i]? with
  | none => rw [e1] at h; cases h
  | some d1 =>
    cases e2 : es[i]? with
    | none => rw [e1, e2] at h; cases h
    | some d2 => rw [e1, e2] at h; cases h; exact ⟨d1, d2, rfl, rfl, rfl⟩
theorem yields_zip {a b : Addr} {ws us : List V} {ds es : List D} (S : Sim W H Z σ env Fs) (h : H a = some (.lst ws)) (hz : ¬ Z a) (h' : H b = some (.lst us)) (hz' : ¬ Z b) (o : Owns W H (fun a => ¬ Z a) .shr ws ds []) (o' : Owns W H (fun a => ¬ Z a) .shr us es []) : Yields W (Jz a b) H Z Fs (List.zipWith (fun d e => .tup [d, e]) ds es) := by
  have at1 : ∀ {H' Z' Fs'}, Step W H Z Fs H' Z' Fs' [] → H' a = some (.lst ws) := fun st => st.fr.keep a _ h (.inl fun z => hz (S.subO z)) (fun z => z)
  have at2 : ∀ {H' Z' Fs'}, Step W H Z Fs H' Z' Fs' [] → H' b = some (.lst us) := fun st => st.fr.keep b _ h' (.inl fun z => hz' (S.subO z)) (fun z => z)
  have l1 := o.length
  have l2 := o'.length
  refine ⟨fun H' Z' Fs' st => ⟨ws, us, at1 st, at2 st, by rw [List.length_zipWith]; omega⟩, fun i H' Z' Fs' hi st => ?_, fun i d H' Z' Fs' x H2 e st y => ?_⟩
  · rw [List.length_zipWith] at hi
    have hi1 : i < ws.length := by omega
    have hi2 : i < us.length := by omega
    exact ⟨ws, us, ws[i], us[i], at1 st, at2 st, List.getElem?_eq_getElem hi1, List.getElem?_eq_getElem hi2⟩
  · obtain ⟨T, y0, y1, rfl, hT, rfl, y, y'⟩ := y
    obtain ⟨d1, d2, q1, q2, rfl⟩ := zip_get e
    obtain ⟨v, e1, o1⟩ := Owns.later (fun a z => S.subO z) st o q1
    obtain ⟨u, e2, o2⟩ := Owns.later (fun a z => S.subO z) st o' q2
    have := y ws (at1 st)
    rw [e1] at this
    cases this
    have := y' us (at2 st)
    rw [e2] at this
    cases this
    have f : Fr W (fun _ => False) H' (upd H' T (.tup [y0, y1])) := Fr.new hT
    exact ⟨f, .tup upd_same (.cons (F := []) (Own.frame f (fun _ _ z => z) o1 fun _ z => (nomatch z)) (.cons (F := []) (Own.frame f (fun _ _ z => z) o2 fun _ z => (nomatch z)) .nil))⟩
theorem yields_zipT {a b : Addr} {ws us : List V} {ds es : List D} (S : Sim W H Z σ env Fs) (h : H a = some (.tup ws)) (h' : H b = some (.tup us)) (o : Owns W H (fun a => ¬ Z a) .shr ws ds []) (o' : Owns W H (fun a => ¬ Z a) .shr us es []) : Yields W (Jzt a b) H Z Fs (List.zipWith (fun d e => .tup [d, e]) ds es) := by
  have at1 : ∀ {H' Z' Fs'}, Step W H Z Fs H' Z' Fs' [] → H' a = some (.tup ws) := fun st => st.fr.keep a _ h (.inr trivial) (fun z => z)
  have at2 : ∀ {H' Z' Fs'}, Step W H Z Fs H' Z' Fs' [] → H' b = some (.tup us) := fun st => st.fr.keep b _ h' (.inr trivial) (fun z => z)
  have l1 := o.length
  have l2 := o'.length
  refine ⟨fun H' Z' Fs' st => ⟨ws, us, at1 st, at2 st, by rw [List.length_zipWith]; omega⟩, fun i H' Z' Fs' hi st => ?_, fun i d H' Z' Fs' x H2 e st y => ?_⟩
  · rw [List.length_zipWith] at hi
    have hi1 : i < ws.length := by omega
    have hi2 : i < us.length := by omega
    exact ⟨ws, us, ws[i], us[i], at1 st, at2 st, List.getElem?_eq_getElem hi1, List.getElem?_eq_getElem hi2⟩
  · obtain ⟨T, y0, y1, rfl, hT, rfl, y, y'⟩ := y
    obtain ⟨d1, d2, q1, q2, rfl⟩ := zip_get e
    obtain ⟨v, e1, o1⟩ := Owns.later (fun a z => S.subO z) st o q1
    obtain ⟨u, e2, o2⟩ := Owns.later (fun a z => S.subO z) st o' q2
    have := y ws (at1 st)
    rw [e1] at this
    cases this
    have := y' us (at2 st)
    rw [e2] at this
    cases this
    have f : Fr W (fun _ => False) H' (upd H' T (.tup [y0, y1])) := Fr.new hT
    exact ⟨f, .tup upd_same (.cons (F := []) (Own.frame f (fun _ _ z => z) o1 fun _ z => (nomatch z)) (.cons (F := []) (Own.frame f (fun _ _ z => z) o2 fun _ z => (nomatch z)) .nil))⟩
theorem gi_zip {e e2 : Expr} {ma : M (List Val)} {tpos : Pos} {elts : List Expr} {kk : Nat} (hg : Gl X "zip") (hm : X.mg "zip" = none) (ha : GA X W [e, e2] ma) (hs : starEach [e, e2] X.env = (false, eval e X.env) :: starEach [e2] X.env) (hpl : (backTo pos (starEach [e2] X.env)).any (·.1) = false) :
    GI X W (.Tuple elts kk tpos) (.Call (.Name "zip" p) [e, e2] [] pos) (mWalk gZip ma) := fun w tk => by
  refine pi_imp (pi_weakJ (RZ.pi_zipA hg hm (ha w tk) hs hpl)) fun σ H R h => ?_
  refine rdA_mono (ri_args h) fun vs H1 ⟨Z, Fs, Z2, env2, Fs2, ys, Fy, p, h2⟩ => ?_
  cases eg : gZip ys with
  | none => rw [eg] at h2; exact h2.elim
  | some ds =>
    rw [eg] at h2
    unfold gZip at eg
    split at eg
    · simp only [Option.some.injEq] at eg
      subst eg
      obtain ⟨Z3, q⟩ := p.shr
      obtain ⟨v, u, F1, F2, rfl, eF, o, o'⟩ := q.own.two
      obtain ⟨a, ws, G, rfl, ha, hs, _⟩ := o.lst_inv
      obtain ⟨b, us, G', rfl, hb, hs', _⟩ := o'.lst_inv
      have hz : ¬ Z3 a := shr_lst (ws := ws) (m := .shr) o
      have hz' : ¬ Z3 b := shr_lst (ws := ws) (m := .shr) o'
      have := hs.shr_nil
      subst this
      have := hs'.shr_nil
      subst this
      exact ⟨a, b, ws, us, rfl, .inl ⟨SqL.of ha, SqL.of hb, Jz a b, weak_zip, h2 _ _ _ _ q.drop (yields_zip q.sim ha hz hb hz' hs hs')⟩⟩
    · simp only [Option.some.injEq] at eg
      subst eg
      obtain ⟨Z3, q⟩ := p.shr
      obtain ⟨v, u, F1, F2, rfl, eF, o, o'⟩ := q.own.two
      obtain ⟨a, ws, rfl, ha, hs⟩ := o.tup_inv
      obtain ⟨b, us, rfl, hb, hs'⟩ := o'.tup_inv
      have e1 := hs.shr_nil
      have e2 := hs'.shr_nil
      subst e1 e2
      exact ⟨a, b, ws, us, rfl, .inr ⟨SqT.of ha, SqT.of hb, Jzt a b, weak_zipT, h2 _ _ _ _ q.drop (yields_zipT q.sim ha hb hs hs')⟩⟩
    · cases eg
end
end BV
set_option maxHeartbeats 2000000
/-! BV16: what is owned is changed. -/
namespace BV
open PySem PySem.Spec PyProof.Rows L2

section
variable {W : Wd} {w : WX} {mp : List Nat} {σ : L2.St} {H H1 H2 : Hp} {Z Z1 Z2 : Addr → Prop} {Fs Fs1 Fs2 : Nat → List Addr} {env env1 : Env} {xs ys : List Val} {vs us : List V} {F F' G Fx Fy : List Addr} {x x' y : Val} {v v' u : V} {Q : VK} {i : Nat} {a : Addr} {o o' : HO}
theorem tabs_wr {T : List (Addr × Str)} (h1 : H1 a = some o) (hf : ¬ Fixed o) (ht : ¬ Tbl o) (t : LamX.Tabs T H1) : LamX.Tabs T (upd H1 a o') := fun p hp => by
  obtain ⟨ps, e1, e2, e3⟩ := t p hp
  have n1 : p.1 ≠ a := fun z => by rw [z, h1] at e1; cases e1; exact ht trivial
  refine ⟨ps, by rw [upd_ne n1]; exact e1, e2, fun pos cv hc => ?_⟩
  obtain ⟨c, f1, f2⟩ := e3 pos cv hc
  have n2 : c ≠ a := fun z => by rw [z, h1] at f2; cases f2; exact hf trivial
  exact ⟨c, f1, by rw [upd_ne n2]; exact f2⟩
theorem Fr.wr (h1 : H1 a = some o) (hf : ¬ Fixed o) (ht : ¬ Tbl o) : Fr W (fun c => c = a) H1 (upd H1 a o') where
  keep := fun c u h k _ => by
    have n : c ≠ a := by
      rcases k with k | k
      · exact k
      · intro z; rw [z, h1] at h; cases h; exact hf k
    rw [upd_ne n]; exact h
  tabs := tabs_wr h1 hf ht
  there := fun c h => by
    by_cases e : c = a
    · rw [e, upd_same]; exact fun z => nomatch z
    · rw [upd_ne e]; exact h
theorem PostL.wr (p : PostL W H Z Fs σ H1 Z1 env Fs1 xs vs F) (hσ : σ[i]? = some (some v')) (ha : a ∈ Fs1 i) (h1 : H1 a = some o) (hf : ¬ Fixed o) (ht : ¬ Tbl o)
    (z1 : ∀ c, Z2 c → Z1 c) (z2 : ∀ c, Z1 c → c ∉ Fs1 i → c ∉ F → Z2 c) (own' : Own W (upd H1 a o') (fun c => ¬ Z2 c) x'.1 v' x'.2 F') (ownY : Own W (upd H1 a o') (fun c => ¬ Z2 c) y.1 u y.2 Fy)
    (nd : (F' ++ Fy).Nodup) (sub : ∀ c ∈ F' ++ Fy, Z2 c ∧ (c ∈ Fs1 i ∨ c ∈ F)) : PostE W H Z Fs σ (upd H1 a o') Z2 (env.set i (some x')) (upF Fs1 i F') y u Fy := by
  have hl : i < env.length := by rw [p.sim.len]; exact (List.getElem?_eq_some_iff.mp hσ).1
  have f := Fr.wr (W := W) (o' := o') h1 hf ht
  have back : ∀ c, c ∈ Fs1 i ∨ c ∈ F → OF Fs c ∨ H c = none := fun c h => h.elim (fun z => p.st.own c (.inl ⟨i, z⟩)) fun z => p.st.own c (.inr z)
  have aO : OF Fs a ∨ H a = none := back a (.inl ha)
  have s' : ∀ c ∈ F', Z2 c ∧ (c ∈ Fs1 i ∨ c ∈ F) := fun c h => sub c (List.mem_append_left _ h)
  have sy : ∀ c ∈ Fy, Z2 c ∧ (c ∈ Fs1 i ∨ c ∈ F) := fun c h => sub c (List.mem_append_right _ h)
  obtain ⟨n1, n2, n3⟩ := List.nodup_append.mp nd
  have apart : ∀ {c j}, j ≠ i → c ∈ Fs1 j → ¬ (c ∈ Fs1 i ∨ c ∈ F) := fun {c j} hj h z => z.elim (fun z => hj (p.sim.dis j i c h z)) fun z => p.dis c z ⟨j, h⟩
  refine ⟨⟨⟨fun c u h k t => ?_, fun t => f.tabs (p.st.fr.tabs t), fun c h => f.there c (p.st.fr.there c h)⟩, fun c z => p.st.zin c (z1 c z), fun c z k => ?_, fun c z => ?_⟩, ⟨fun j x e => ?_, fun j h => ?_, fun j k c h1 h2 => ?_, fun j => ?_, fun j c h => ?_, fun c z => f.there c (p.sim.zdom c (z1 c z)), by rw [List.length_set]; exact p.sim.len, f.tabs p.sim.tabs⟩, ⟨ownY, n2, fun c h => (sy c h).1, fun c h z => ?_⟩⟩
  · have e1 := p.st.fr.keep c u h k t
    have n : c ≠ a := fun z => by
      rcases k with k | k
      · rw [z] at h k; exact aO.elim k fun n => by rw [h] at n; cases n
      · rw [z, h1] at e1; cases e1; exact hf k
    rw [upd_ne n]; exact e1
  · exact z2 c (p.st.zkeep c z k) (fun q => (back c (.inl q)).elim k (p.zd c z)) fun q => (back c (.inr q)).elim k (p.zd c z)
  · rcases z with ⟨j, z⟩ | z
    · by_cases hj : j = i
      · rw [hj, upF_same] at z; exact back c (s' c z).2
      · rw [upF_ne hj] at z; exact p.st.own c (.inl ⟨j, z⟩)
    · exact back c (sy c z).2
  · by_cases hj : j = i
    · rw [hj] at e ⊢
      rw [List.getElem?_set_self hl] at e
      cases e
      exact ⟨v', hσ, by rw [upF_same]; exact own'⟩
    · rw [List.getElem?_set_ne (Ne.symm hj)] at e
      obtain ⟨q, e1, o1⟩ := p.sim.rep j x e
      refine ⟨q, e1, ?_⟩
      rw [upF_ne hj]
      exact Own.weak (fun c n _ z => n (z1 c z)) (Own.frame f (fun c n z => n (z ▸ p.sim.sub i a ha)) o1 fun c hc z => hj (p.sim.dis j i c hc (z ▸ ha)))
  · by_cases hj : j = i
    · rw [hj] at h
      exact absurd (List.getElem?_set_self hl) (h _)
    · rw [upF_ne hj]
      exact p.sim.off j fun y => by have := h y; rwa [List.getElem?_set_ne (Ne.symm hj)] at this
  · by_cases hj : j = i
    · by_cases hk : k = i
      · rw [hj, hk]
      · rw [hj, upF_same] at h1
        rw [upF_ne hk] at h2
        exact absurd (s' c h1).2 (apart hk h2)
    · by_cases hk : k = i
      · rw [upF_ne hj] at h1
        rw [hk, upF_same] at h2
        exact absurd (s' c h2).2 (apart hj h1)
      · rw [upF_ne hj] at h1
        rw [upF_ne hk] at h2
        exact p.sim.dis j k c h1 h2
  · by_cases hj : j = i
    · rw [hj, upF_same]; exact n1
    · rw [upF_ne hj]; exact p.sim.nd j
  · by_cases hj : j = i
    · rw [hj, upF_same] at h; exact (s' c h).1
    · rw [upF_ne hj] at h
      exact z2 c (p.sim.sub j c h) (fun q => apart hj h (.inl q)) fun q => apart hj h (.inr q)
  · obtain ⟨j, z⟩ := z
    by_cases hj : j = i
    · rw [hj, upF_same] at z; exact n3 c z c h rfl
    · rw [upF_ne hj] at z; exact apart hj z (sy c h).2
end

/-! ### methods of an owned list in a slot -/
section
variable {W : Wd} {w : WX} {mp : List Nat} {σ : L2.St} {H H1 H2 : Hp} {Z Z1 Z2 : Addr → Prop} {Fs Fs1 Fs2 : Nat → List Addr} {env env1 : Env} {xs ys : List Val} {vs us : List V} {F F' G Fx Fy : List Addr} {x x' y : Val} {v v' u : V} {Q : VK} {i : Nat} {a : Addr}
/-- the owned list in slot i -/
theorem PostL.slotLst {m : Mode} {ds : List D} (p : PostL W H Z Fs σ H1 Z1 env Fs1 xs vs F) (e : env[i]? = some (some (m, .lst ds))) (hm : m ≠ .shr) :
    ∃ a ws G, σ[i]? = some (some (.ref a)) ∧ H1 a = some (.lst ws) ∧ Fs1 i = a :: G ∧ Owns W H1 (fun a => ¬ Z1 a) m.pred ws ds G := by
  obtain ⟨v, e1, o⟩ := p.sim.rep i _ e
  dsimp only at o
  generalize ed : D.lst ds = d at o
  generalize eF : Fs1 i = Fi at o
  cases o with
  | lstO n h t => cases ed; exact ⟨_, _, _, e1, h, rfl, t⟩
  | lstS _ _ _ => exact absurd rfl hm
  | _ => cases ed
/-- both wholly owned, or the items are shared from now on -/
def both (m : Mode) (ks : List Mode) : Bool := m == .all && ks.all (· == .all)
/-- a list in slot i gets new items: old ones (some of them) and what is at hand -/
theorem PostL.wrLst {ds' : List D} {ws ws' : List V} {a : Addr} {G Gn : List Addr} {k : Bool} (p : PostL W H Z Fs σ H1 Z1 env Fs1 xs vs F) (hσ : σ[i]? = some (some (.ref a))) (h1 : H1 a = some (.lst ws)) (hF : Fs1 i = a :: G)
    (oA : k = true → Owns W H1 (fun a => ¬ Z1 a) .all ws' ds' Gn) (oS : Owns W H1 (fun c => ¬ (Z1 c ∧ c ∉ Gn)) .shr ws' ds' []) (hG : ∀ c ∈ Gn, c ∈ G ∨ c ∈ F) (hn : Gn.Nodup) (h : Fin W w σ H Z Fs (.ok (.all, .non) (env.set i (some (BV.newL k ds')))) Q) : Q .non (upd H1 a (.lst ws')) := by
  have ha : a ∈ Fs1 i := by rw [hF]; exact List.mem_cons_self ..
  have ni := p.sim.nd i
  rw [hF] at ni
  have aG : a ∉ G := (List.nodup_cons.mp ni).1
  have aF : a ∉ F := fun z => p.dis a z ⟨i, ha⟩
  have aGn : a ∉ Gn := fun z => (hG a z).elim aG aF
  have Za : Z1 a := p.sim.sub i a ha
  have f := Fr.wr (W := W) (o := .lst ws) (o' := .lst ws') h1 (fun z => z) (fun z => z)
  have Gsub : ∀ c ∈ Gn, c ∈ Fs1 i ∨ c ∈ F := fun c hc => (hG c hc).imp (fun z => by rw [hF]; exact List.mem_cons_of_mem _ z) id
  unfold BV.newL at h
  by_cases im : immAll ds' = true
  · rw [im, Bool.or_true, if_pos rfl] at h
    have o2 := (oS.of_imm im).2 .all (fun c => ¬ Z1 c)
    refine h _ _ _ _ _ (p.wr (o := .lst ws) (o' := .lst ws') (x' := (.all, .lst ds')) (y := (.all, .non)) (F' := [a]) (Fy := []) (Z2 := Z1) hσ ha h1 (fun z => z) (fun z => z) (fun c z => z) (fun c z _ _ => z) ?_ .non ?_ ?_)
    · exact .lstO (fun z => nomatch z) upd_same (Owns.frame f (fun c n z => n (z ▸ Za)) o2 fun _ z => (nomatch z))
    · simp
    · intro c hc
      have : c = a := by simpa using hc
      subst this
      exact ⟨Za, .inl ha⟩
  · cases k with
    | true =>
      rw [Bool.true_or, if_pos rfl] at h
      have o := oA rfl
      refine h _ _ _ _ _ (p.wr (o := .lst ws) (o' := .lst ws') (x' := (.all, .lst ds')) (y := (.all, .non)) (F' := a :: Gn) (Fy := []) (Z2 := Z1) hσ ha h1 (fun z => z) (fun z => z) (fun c z => z) (fun c z _ _ => z) ?_ .non ?_ ?_)
      · exact .lstO (fun z => nomatch z) upd_same (Owns.frame f (fun c n z => n (z ▸ Za)) o fun c hc z => aGn (z ▸ hc))
      · rw [List.append_nil]; exact List.nodup_cons.mpr ⟨aGn, hn⟩
      · intro c hc
        rw [List.append_nil] at hc
        rcases List.mem_cons.mp hc with rfl | hc
        · exact ⟨Za, .inl ha⟩
        · exact ⟨(Gsub c hc).elim (p.sim.sub i c) (p.sub c), Gsub c hc⟩
    | false =>
      rw [Bool.false_or, if_neg im] at h
      refine h _ _ _ _ _ (p.wr (o := .lst ws) (o' := .lst ws') (x' := (.top, .lst ds')) (y := (.all, .non)) (F' := [a]) (Fy := []) (Z2 := fun c => Z1 c ∧ c ∉ Gn) hσ ha h1 (fun z => z) (fun z => z) (fun c z => z.1) (fun c z n1 n2 => ⟨z, fun z' => (Gsub c z').elim n1 n2⟩) ?_ .non ?_ ?_)
      · refine .lstO (fun z => nomatch z) upd_same ?_
        exact Owns.frame f (fun c n z => n (z ▸ ⟨Za, aGn⟩)) oS fun _ z => (nomatch z)
      · simp
      · intro c hc
        have : c = a := by simpa using hc
        subst this
        exact ⟨⟨Za, aGn⟩, .inl ha⟩
end
/-- a method of what slot i holds -/
def mMeth (i : Nat) (isT : D → Bool) (g : List Val → M Val) (ma : M (List Val)) : M Val := fun env => match env[i]? with
  | some (some (_, d)) => if isT d then (ma.bind g) env else .bad
  | _ => .bad
def D.isLst : D → Bool
  | .lst _ => true
  | _ => false
def D.isDic : D → Bool
  | .dic _ _ => true
  | _ => false
/-- the rule of a method answers as g says -/
def SaysM (r : V → List V → Hp → VK → Prop) (W : Wd) (i : Nat) (g : List Val → M Val) : Prop := ∀ (xs : List Val) (w : WX) (σ : L2.St) (H : Hp) (Z : Addr → Prop) (Fs : Nat → List Addr) (H1 : Hp) (Z1 : Addr → Prop) (env : Env) (Fs1 : Nat → List Addr) (vs : List V) (F : List Addr) (Q : VK) (v : V),
  PostL W H Z Fs σ H1 Z1 env Fs1 xs vs F → σ[i]? = some (some v) → Fin W w σ H Z Fs (g xs env) Q → r v vs H1 Q
section
variable {X : Cx} {W : Wd} {w : WX} {σ : L2.St} {H : Hp} {Q : VK} {i : Nat} {g : List Val → M Val} {ma : M (List Val)} {r : V → List V → Hp → VK → Prop}
theorem isLst_inv {d : D} (h : d.isLst = true) : ∃ ds, d = .lst ds := by cases d <;> first | exact ⟨_, rfl⟩ | cases h
theorem isDic_inv {d : D} (h : d.isDic = true) : ∃ t ds, d = .dic t ds := by cases d <;> first | exact ⟨_, _, rfl⟩ | cases h
theorem rd_meth {K : PySem.W.Frag} {T : String} {isT : D → Bool} (hT : ∀ {H P m v d F}, Own W H P m v d F → isT d = true → tyV K T v H) (hr : SaysM r W i g) (h : rdE W w (mMeth i isT g ma) σ H Q) : tBM K T r (tVar i) (rdA W w ma) σ H Q := by
  obtain ⟨Z, env, Fs, S, h⟩ := h
  unfold mMeth at h
  cases e : env[i]? with
  | none => rw [e] at h; exact h.elim
  | some o =>
    cases o with
    | none => rw [e] at h; exact h.elim
    | some y =>
      rw [e] at h
      obtain ⟨m, d⟩ := y
      dsimp only at h
      by_cases c : isT d = true
      · rw [if_pos c] at h
        obtain ⟨v, e1, o⟩ := S.rep i _ e
        refine ⟨v, e1, hT o c, ?_⟩
        refine rdA_mono (rd_args (PostL.start S) h) fun us H2 ⟨Z2, env2, Fs2, ys, Fy, p, _, f⟩ => ?_
        simp only [List.nil_append] at p
        exact hr ys w σ H Z Fs H2 Z2 env2 Fs2 us Fy Q v p e1 f
      · rw [if_neg c] at h; exact h.elim
theorem rd_meth0 {K : PySem.W.Frag} {T : String} {isT : D → Bool} (hT : ∀ {H P m v d F}, Own W H P m v d F → isT d = true → tyV K T v H) (hr : SaysM r W i g) (h : rdE W w (mMeth i isT g mNil) σ H Q) : tBM0 K T r (tVar i) σ H Q := by
  obtain ⟨v, e1, t, h⟩ := rd_meth hT hr h
  obtain ⟨Z, env, Fs, S, h⟩ := h
  exact ⟨v, e1, t, h H Z Fs [] [] (PostL.start S)⟩
theorem lst_ty {K : PySem.W.Frag} {H : Hp} {P : Addr → Prop} {m : Mode} {v : V} {d : D} {F : List Addr} (o : Own W H P m v d F) (h : d.isLst = true) : tyV K "list" v H := by
  obtain ⟨ds, rfl⟩ := isLst_inv h
  obtain ⟨a, ws, G, rfl, ha, _⟩ := o.lst_inv
  exact .inl ⟨rfl, ws, SqL.of ha⟩
/-- xs.append(y) -/
def gAppend (i : Nat) : List Val → M Val
  | [x] => fun env => (match env[i]? with
    | some (some (m, .lst ds)) => if m ≠ .shr ∧ ds.length < sizeLine then .ok (.all, .non) (env.set i (some (newL (m == .all && x.1 == .all) (ds ++ [x.2])))) else .bad
    | _ => .bad)
  | _ => M.bad
theorem says_append : SaysM rAppend W i (gAppend i) := by
  intro xs w σ H Z Fs H1 Z1 env Fs1 vs F Q v p hσ h
  unfold gAppend at h
  split at h
  · rename_i x
    split at h
    · rename_i m ds e
      split at h
      · rename_i c
        obtain ⟨a, ws, G, e1, h1, hF, o⟩ := p.slotLst e c.1
        rw [hσ] at e1
        cases e1
        obtain ⟨u, rfl, oy⟩ := p.own.one
        refine ⟨a, ws, u, rfl, rfl, h1, by rw [o.length]; exact c.2, ?_⟩
        have ni := p.sim.nd i
        rw [hF] at ni
        have dGF : ∀ c ∈ G, ∀ d ∈ F, c ≠ d := fun c hc d hd e => p.dis d hd ⟨i, by rw [hF, ← e]; exact List.mem_cons_of_mem _ hc⟩
        refine p.wrLst (k := m == .all && x.1 == .all) (Gn := G ++ F) hσ h1 hF (fun k => ?_) ?_ (fun c hc => List.mem_append.mp hc) (List.nodup_append.mpr ⟨(List.nodup_cons.mp ni).2, p.nd, dGF⟩) h
        · obtain ⟨rfl, ex⟩ := both_all k
          rw [ex] at oy
          exact Owns.append (by simpa using Owns.cons oy .nil) o
        · refine Owns.append (F := []) (.cons (F := []) (Own.freeze (fun c n _ z => n z.1) oy fun c hc z => z.2 (List.mem_append_right _ hc)) .nil) (Owns.freeze (fun c n _ z => n z.1) o fun c hc z => z.2 (List.mem_append_left _ hc))
      · exact h.elim
    · exact h.elim
  · exact h.elim
/-- xs.extend(ys) -/
def gExtend (i : Nat) : List Val → M Val
  | [(m2, .lst es)] => fun env => (match env[i]? with
    | some (some (m, .lst ds)) => if m ≠ .shr ∧ ds.length + es.length ≤ sizeLine then .ok (.all, .non) (env.set i (some (newL (m == .all && m2 == .all) (ds ++ es)))) else .bad
    | _ => .bad)
  | _ => M.bad
theorem says_extend : SaysM rExtend W i (gExtend i) := by
  intro xs w σ H Z Fs H1 Z1 env Fs1 vs F Q v p hσ h
  unfold gExtend at h
  split at h
  · rename_i m2 es
    split at h
    · rename_i m ds e
      split at h
      · rename_i c
        obtain ⟨a, ws, G, e1, h1, hF, o⟩ := p.slotLst e c.1
        rw [hσ] at e1
        cases e1
        obtain ⟨u, rfl, oy⟩ := p.own.one
        obtain ⟨b, us, G2, rfl, hb, o2, hG2, hn2⟩ := oy.lst_inv
        refine ⟨a, b, ws, us, rfl, rfl, h1, hb, by rw [o.length, o2.length]; exact c.2, ?_⟩
        have ni := p.sim.nd i
        rw [hF] at ni
        have dGF : ∀ c ∈ G, ∀ d ∈ G2, c ≠ d := fun c hc d hd e => p.dis d (hG2 d hd) ⟨i, by rw [hF, ← e]; exact List.mem_cons_of_mem _ hc⟩
        refine p.wrLst (k := m == .all && m2 == .all) (Gn := G ++ G2) hσ h1 hF (fun k => ?_) ?_ (fun c hc => (List.mem_append.mp hc).imp id (hG2 c)) (List.nodup_append.mpr ⟨(List.nodup_cons.mp ni).2, hn2 p.nd, dGF⟩) h
        · obtain ⟨rfl, rfl⟩ := both_all k
          exact Owns.append o2 o
        · exact Owns.append (F := []) (Owns.freeze (fun c n _ z => n z.1) o2 fun c hc z => z.2 (List.mem_append_right _ hc)) (Owns.freeze (fun c n _ z => n z.1) o fun c hc z => z.2 (List.mem_append_left _ hc))
      · exact h.elim
    · exact h.elim
  · exact h.elim
end
end BV
set_option maxHeartbeats 2000000
/-! BV17: pop, stores into lists. -/
namespace BV
open PySem PySem.Spec PyProof.Rows L2

section
variable {W : Wd} {w : WX} {mp : List Nat} {σ : L2.St} {H H1 H2 : Hp} {Z Z1 Z2 : Addr → Prop} {Fs Fs1 Fs2 : Nat → List Addr} {env env1 : Env} {xs ys : List Val} {vs us : List V} {F F' G Fx Fy : List Addr} {x x' y : Val} {v v' u : V} {Q : VK} {i : Nat} {a : Addr}
theorem Owns.erase {P : Addr → Prop} {m : Mode} : ∀ {ws : List V} {ds : List D} {G : List Addr} {k : Nat} {d : D}, Owns W H P m ws ds G → ds[k]? = some d → G.Nodup → ∃ v Gi Gr, ws[k]? = some v ∧ Own W H P m v d Gi ∧ Owns W H P m (ws.eraseIdx k) (ds.eraseIdx k) Gr ∧ (Gi ++ Gr).Nodup ∧ ∀ c ∈ Gi ++ Gr, c ∈ G
  | _, _, _, _, _, .nil, e, _ => by simp at e
  | _, _, _, 0, _, .cons (v := v) (F := F) (G := G) h t, e, n => by
    simp at e
    subst e
    exact ⟨v, F, G, rfl, h, t, n, fun _ z => z⟩
  | _, _, _, k + 1, _, .cons (v := v) (F := F) (G := G) h t, e, n => by
    obtain ⟨n1, n2, n3⟩ := List.nodup_append.mp n
    obtain ⟨u, Gi, Gr, e1, o, r, nd, sub⟩ := Owns.erase t (by simpa using e) n2
    refine ⟨u, Gi, F ++ Gr, by simpa using e1, o, .cons h r, ?_, fun c hc => ?_⟩
    · obtain ⟨m1, m2, m3⟩ := List.nodup_append.mp nd
      refine List.nodup_append.mpr ⟨m1, List.nodup_append.mpr ⟨n1, m2, fun x hx y hy => n3 x hx y (sub y (List.mem_append_right _ hy))⟩, fun x hx y hy => ?_⟩
      rcases List.mem_append.mp hy with hy | hy
      · exact fun e => n3 y hy x (sub x (List.mem_append_left _ hx)) e.symm
      · exact m3 x hx y hy
    · rcases List.mem_append.mp hc with hc | hc
      · exact List.mem_append_right _ (sub c (List.mem_append_left _ hc))
      · rcases List.mem_append.mp hc with hc | hc
        · exact List.mem_append_left _ hc
        · exact List.mem_append_right _ (sub c (List.mem_append_right _ hc))
/-- an item leaves the list in slot i -/
theorem PostL.pop {m : Mode} {ds : List D} {k : Nat} {d : D} {ws : List V} {a : Addr} {G : List Addr} (p : PostL W H Z Fs σ H1 Z1 env Fs1 xs vs F) (hm : m ≠ .shr) (hσ : σ[i]? = some (some (.ref a))) (h1 : H1 a = some (.lst ws)) (hF : Fs1 i = a :: G)
    (o : Owns W H1 (fun a => ¬ Z1 a) m.pred ws ds G) (hk : ds[k]? = some d) (h : Fin W w σ H Z Fs (.ok (nrm (m.pred, d)) (env.set i (some (newL (m == .all) (ds.eraseIdx k))))) Q) : ∃ u, ws[k]? = some u ∧ Q u (upd H1 a (.lst (ws.eraseIdx k))) := by
  have ha : a ∈ Fs1 i := by rw [hF]; exact List.mem_cons_self ..
  have ni := p.sim.nd i
  rw [hF] at ni
  obtain ⟨aG, nG⟩ := List.nodup_cons.mp ni
  have Za : Z1 a := p.sim.sub i a ha
  have f := Fr.wr (W := W) (o := .lst ws) (o' := .lst (ws.eraseIdx k)) h1 (fun z => z) (fun z => z)
  obtain ⟨u, Gi, Gr, e1, oi, r, nd, sub⟩ := o.erase hk nG
  refine ⟨u, e1, ?_⟩
  obtain ⟨m1, m2, m3⟩ := List.nodup_append.mp nd
  have inI : ∀ c ∈ Gi ++ Gr, c ∈ Fs1 i := fun c hc => by rw [hF]; exact List.mem_cons_of_mem _ (sub c hc)
  have naG : ∀ c ∈ Gi ++ Gr, ¬ c = a := fun c hc z => aG (z ▸ sub c hc)
  have fP : ∀ c, ¬ Z1 c → ¬ c = a := fun c n z => n (z ▸ Za)
  -- what the answer owns
  have yy : ∃ Fy, (∀ c ∈ Fy, c ∈ Gi) ∧ Fy.Nodup ∧ Own W (upd H1 a (.lst (ws.eraseIdx k))) (fun c => ¬ Z1 c) (nrm (m.pred, d)).1 u (nrm (m.pred, d)).2 Fy := by
    unfold nrm
    by_cases c : d.imm = true
    · rw [if_pos c]
      exact ⟨[], fun _ z => (nomatch z), List.nodup_nil, Own.frame f fP ((oi.of_imm c).2 .all _) fun _ z => (nomatch z)⟩
    · rw [if_neg c]
      exact ⟨Gi, fun _ z => z, m1, Own.frame f fP oi fun c hc => naG c (List.mem_append_left _ hc)⟩
  obtain ⟨Fy, y1, y2, y3⟩ := yy
  -- what the slot owns
  have xx : ∃ F', (∀ c ∈ F', c = a ∨ c ∈ Gr) ∧ F'.Nodup ∧ Own W (upd H1 a (.lst (ws.eraseIdx k))) (fun c => ¬ Z1 c) (newL (m == .all) (ds.eraseIdx k)).1 (.ref a) (newL (m == .all) (ds.eraseIdx k)).2 F' := by
    unfold BV.newL
    by_cases c : immAll (ds.eraseIdx k) = true
    · rw [c, Bool.or_true, if_pos rfl]
      exact ⟨[a], fun c hc => .inl (by simpa using hc), by simp, .lstO (fun z => nomatch z) upd_same (Owns.frame f fP ((r.of_imm c).2 .all _) fun _ z => (nomatch z))⟩
    · cases km : (m == .all) with
      | true =>
        have := beq_all km
        subst this
        rw [Bool.true_or, if_pos rfl]
        exact ⟨a :: Gr, fun c hc => by simpa using hc, List.nodup_cons.mpr ⟨fun z => naG a (List.mem_append_right _ z) rfl, m2⟩, .lstO (fun z => nomatch z) upd_same (Owns.frame f fP r fun c hc => naG c (List.mem_append_right _ hc))⟩
      | false =>
        rw [Bool.false_or, if_neg c]
        have e : m.pred = .shr := by cases m <;> first | rfl | (exact absurd km (by decide))
        rw [e] at r
        have := r.shr_nil
        subst this
        exact ⟨[a], fun c hc => .inl (by simpa using hc), by simp, .lstO (fun z => nomatch z) upd_same (Owns.frame f fP r fun _ z => (nomatch z))⟩
  obtain ⟨F', x1, x2, x3⟩ := xx
  refine h _ _ _ _ _ (p.wr (o := .lst ws) (o' := .lst (ws.eraseIdx k)) (Z2 := Z1) hσ ha h1 (fun z => z) (fun z => z) (fun c z => z) (fun c z _ _ => z) x3 y3 (List.nodup_append.mpr ⟨x2, y2, fun x hx z hz e => ?_⟩) fun c hc => ?_)
  · subst e
    rcases x1 x hx with e | q
    · exact naG x (List.mem_append_left _ (y1 x hz)) e
    · exact m3 x (y1 x hz) x q rfl
  · have : c ∈ Fs1 i := by
      rcases List.mem_append.mp hc with hc | hc
      · rcases x1 c hc with e | q
        · rw [e]; exact ha
        · exact inI c (List.mem_append_right _ q)
      · exact inI c (List.mem_append_left _ (y1 c hc))
    exact ⟨p.sim.sub i c this, .inl this⟩
/-- xs.pop(), xs.pop(k) -/
def gPop (i : Nat) : List Val → M Val
  | [] => fun env => (match env[i]? with
    | some (some (m, .lst ds)) => if m = .shr then .bad else match ds[ds.length - 1]? with
      | some d => .ok (nrm (m.pred, d)) (env.set i (some (newL (m == .all) (ds.eraseIdx (ds.length - 1)))))
      | none => .bad
    | _ => .bad)
  | _ => M.bad
def gPopAt (i : Nat) : List Val → M Val
  | [(_, .int j)] => fun env => (match env[i]? with
    | some (some (m, .lst ds)) => if m = .shr ∨ ¬ (-(2 ^ 63) ≤ j ∧ j < 2 ^ 63) then .bad else match seqIndex? j ds.length with
      | some k => (match ds[k]? with
        | some d => .ok (nrm (m.pred, d)) (env.set i (some (newL (m == .all) (ds.eraseIdx k))))
        | none => .bad)
      | none => .bad
    | _ => .bad)
  | _ => M.bad
theorem says_pop : SaysM rPop W i (gPop i) := by
  intro xs w σ H Z Fs H1 Z1 env Fs1 vs F Q v p hσ h
  unfold gPop at h
  split at h
  · split at h
    · rename_i m ds e
      split at h
      · exact h.elim
      · rename_i hm
        split at h
        · rename_i d hd
          obtain ⟨a, ws, G, e1, h1, hF, o⟩ := p.slotLst e hm
          rw [hσ] at e1
          cases e1
          have hv := p.own.length
          have hv : vs = [] := by cases vs <;> first | rfl | cases hv
          subst hv
          obtain ⟨u, hu, q⟩ := p.pop hm hσ h1 hF o hd h
          rw [← o.length] at hu q
          exact ⟨a, ws, u, rfl, rfl, h1, hu, by rw [← List.eraseIdx_length_sub_one]; exact q⟩
        · exact h.elim
    · exact h.elim
  · exact h.elim
theorem says_popAt : SaysM rPopAt W i (gPopAt i) := by
  intro xs w σ H Z Fs H1 Z1 env Fs1 vs F Q v p hσ h
  unfold gPopAt at h
  split at h
  · rename_i j
    split at h
    · rename_i m ds e
      split at h
      · exact h.elim
      · rename_i hm
        have hm1 : m ≠ .shr := fun z => hm (.inl z)
        have hm2 : -(2 ^ 63) ≤ j ∧ j < 2 ^ 63 := Classical.byContradiction fun z => hm (.inr z)
        split at h
        · rename_i k hk
          split at h
          · rename_i d hd
            obtain ⟨a, ws, G, e1, h1, hF, o⟩ := p.slotLst e hm1
            rw [hσ] at e1
            cases e1
            obtain ⟨u0, rfl, oy⟩ := p.own.one
            have := oy.int_inv
            subst this
            obtain ⟨u, hu, q⟩ := p.pop hm1 hσ h1 hF o hd h
            exact ⟨a, ws, j, k, u, rfl, rfl, h1, hm2.1, hm2.2, by rw [o.length]; exact hk, hu, q⟩
          · exact h.elim
        · exact h.elim
    · exact h.elim
  · exact h.elim
end
end BV
set_option maxHeartbeats 2000000
/-! BV18: reading without taking: a slot frozen for good; all slots frozen while an expression is read. -/
namespace BV
open PySem PySem.Spec PyProof.Rows L2

def frzE (env : Env) : Env := env.map fun o => o.map frzV
mutual
/-- a wholly owned value that leans on nothing shared -/
def D.solid : D → Bool
  | .tup ds => solidAll ds
  | .lst ds => solidAll ds
  | .dic _ kvs => solidKV kvs
  | .ins _ _ => false
  | .clo _ _ => false
  | .pin => false
  | _ => true
def solidAll : List D → Bool
  | [] => true
  | d :: ds => d.solid && solidAll ds
def solidKV : List (D × D) → Bool
  | [] => true
  | kv :: r => kv.2.solid && solidKV r
end
theorem solid_zip : ∀ {ks ds : List D}, solidKV (ks.zip ds) = true → ks.length = ds.length → solidAll ds = true
  | [], [], _, _ => rfl
  | [], _ :: _, _, h => by simp at h
  | _ :: _, [], _, h => by simp at h
  | k :: ks, d :: ds, h, l => by
    simp only [List.zip_cons_cons, solidKV, Bool.and_eq_true] at h
    simp only [solidAll, Bool.and_eq_true]
    exact ⟨h.1, solid_zip h.2 (by simpa using l)⟩
section
variable {W : Wd} {H : Hp} {P P' : Addr → Prop}
mutual
theorem Own.solid : ∀ {m v d F}, Own W H P m v d F → m = .all → d.solid = true → Own W H P' m v d F
  | _, _, _, _, .non, _, _ => .non
  | _, _, _, _, .bl b, _, _ => .bl b
  | _, _, _, _, .int i, _, _ => .int i
  | _, _, _, _, .str x, _, _ => .str x
  | _, _, _, _, .ty n, _, _ => .ty n
  | _, _, _, _, .glo e, _, _ => .glo e
  | _, _, _, _, .tup e h, em, i => .tup e (Owns.solid h em (by simpa only [D.solid] using i))
  | _, _, _, _, .lstS .., em, _ => nomatch em
  | _, _, _, _, .lstO n e h, em, i => .lstO n e (Owns.solid h (by rw [em]; rfl) (by simpa only [D.solid] using i))
  | _, _, _, _, .dKS .., em, _ => nomatch em
  | _, _, _, _, .dKO n k e h, em, i => .dKO n k e (Owns.solid h (by rw [em]; rfl) (solid_zip (by simpa only [D.solid] using i) (by have := h.length; simpa using this)))
  | _, _, _, _, .dTS .., em, _ => nomatch em
  | _, _, _, _, .dTO n k e h, em, i => .dTO n k e (Owns.solid h (by rw [em]; rfl) (solid_zip (by simpa only [D.solid] using i) (by have := h.length; simpa using this)))
  | _, _, _, _, .insS .., em, _ => nomatch em
  | _, _, _, _, .insO .., _, i => by simp [D.solid] at i
  | _, _, _, _, .scr e, _, _ => .scr e
  | _, _, _, _, .pin .., _, i => by simp [D.solid] at i
  | _, _, _, _, .clo .., _, i => by simp [D.solid] at i
theorem Owns.solid : ∀ {m vs ds F}, Owns W H P m vs ds F → m = .all → solidAll ds = true → Owns W H P' m vs ds F
  | _, _, _, _, .nil, _, _ => .nil
  | _, _, _, _, .cons h t, em, i => by
    simp only [solidAll, Bool.and_eq_true] at i
    exact .cons (Own.solid h em i.1) (Owns.solid t em i.2)
end
end
section
variable {W : Wd} {w : WX} {σ : L2.St} {H H1 H2 : Hp} {Z Z1 Z2 : Addr → Prop} {Fs Fs1 Fs2 : Nat → List Addr} {env env1 : Env} {x : Val} {v : V} {Fx : List Addr}
def noF : Nat → List Addr := fun _ => []
theorem not_OF_noF {a : Addr} : ¬ OF noF a := fun ⟨_, z⟩ => nomatch z
theorem frzE_get {i : Nat} {y : Val} (e : (frzE env)[i]? = some (some y)) : ∃ x, env[i]? = some (some x) ∧ y = frzV x := by
  unfold frzE at e
  rw [List.getElem?_map] at e
  cases q : env[i]? with
  | none => rw [q] at e; cases e
  | some o =>
    cases o with
    | none => rw [q] at e; cases e
    | some x => rw [q] at e; cases e; exact ⟨x, rfl, rfl⟩
/-- all slots frozen -/
theorem Sim.frz (S : Sim W H Z σ env Fs) : Sim W H (fun a => Z a ∧ ¬ OF Fs a) σ (frzE env) noF where
  rep := fun i y e => by
    obtain ⟨x, e1, rfl⟩ := frzE_get e
    obtain ⟨v, e2, o⟩ := S.rep i x e1
    exact ⟨v, e2, Own.frzV (fun a n _ z => n z.1) o fun a ha z => z.2 ⟨i, ha⟩⟩
  off := fun _ _ => rfl
  dis := fun _ _ _ h _ => nomatch h
  nd := fun _ => List.nodup_nil
  sub := fun _ _ h => nomatch h
  zdom := fun a h => S.zdom a h.1
  len := by unfold frzE; rw [List.length_map]; exact S.len
  tabs := S.tabs
theorem Sim.frzStep (S : Sim W H Z σ env Fs) : Step W H Z Fs H (fun a => Z a ∧ ¬ OF Fs a) noF [] :=
  ⟨Fr.refl, fun _ h => .inl h.1, fun _ h n => ⟨h, n⟩, fun a h => h.elim (fun z => absurd z not_OF_noF) fun z => nomatch z⟩
/-- back from it with a value that leans on nothing -/
theorem Sim.thaw (S : Sim W H Z σ env Fs) (q : PostE W H (fun a => Z a ∧ ¬ OF Fs a) noF σ H1 Z1 env1 Fs1 x v Fx) (hx : x.1 = .all ∧ x.2.solid = true) : ∃ Z2, PostE W H Z Fs σ H1 Z2 env Fs x v Fx := by
  have hn : ∀ a ∈ Fx, H a = none := fun a ha => (q.st.own a (.inr ha)).elim (fun z => absurd z not_OF_noF) id
  have f : Fr W (fun _ => False) H H1 := ⟨fun a o h k t => q.st.fr.keep a o h (.inl not_OF_noF) t, q.st.fr.tabs, q.st.fr.there⟩
  refine ⟨fun a => Z a ∨ a ∈ Fx, ⟨⟨fun a o h k t => f.keep a o h (.inl id) t, f.tabs, f.there⟩, fun a z => z.imp id (hn a), fun a z _ => .inl z, fun a z => z.imp id (hn a)⟩, ⟨fun i y e => ?_, S.off, S.dis, S.nd, fun i a h => .inl (S.sub i a h), fun a z => ?_, S.len, f.tabs S.tabs⟩, ⟨?_, q.pd.nd, fun a ha => .inr ha, fun a ha z => ?_⟩⟩
  · obtain ⟨u, e1, o⟩ := S.rep i y e
    exact ⟨u, e1, Own.frame f (fun _ _ z => z) (Own.weak (fun a n t z => z.elim n fun z => t (hn a z)) o) fun _ _ z => z⟩
  · rcases z with z | z
    · exact f.there a (S.zdom a z)
    · exact q.pd.own.dom a z
  · obtain ⟨m, d⟩ := x
    obtain ⟨rfl, h2⟩ := hx
    exact q.pd.own.solid rfl h2
  · exact S.zdom a (S.subO z) (hn a ha)
/-- and with a raise the slots stay frozen -/
theorem Sim.thawX {c : Str} {fs : List (Str × D)} {cls : Value} {dd : Option Addr} (S : Sim W H Z σ env Fs) (q : PostX W H (fun a => Z a ∧ ¬ OF Fs a) noF σ H1 Z1 env1 Fs1 c fs cls dd) : PostX W H Z Fs σ H1 Z1 env1 Fs1 c fs cls dd :=
  ⟨by have := S.frzStep.seq S.zdom q.st; simpa using this, q.sim, q.cls, q.fld⟩
/-- a name whose slot is frozen for good -/
def mVarF (i : Nat) : M Val := fun env => match env[i]? with
  | some (some x) => .ok (frzV x) (env.set i (some (frzV x)))
  | _ => .bad
/-- while e is read all slots are frozen -/
def mPeek (m : M Val) : M Val := fun env => match m (frzE env) with
  | .ok x env' => if x.1 = .all ∧ x.2.solid = true then .ok x env else .bad
  | .exc c fs env' => .exc c fs env'
  | .bad => .bad
def mPeekT (m : M Bool) : M Bool := fun env => match m (frzE env) with
  | .ok b env' => .ok b env
  | .exc c fs env' => .exc c fs env'
  | .bad => .bad
end
section
variable {X : Cx} {W : Wd} {e : Expr} {m : M Val} {mt : M Bool}
theorem ge_varF {i : Nat} {x : Str} {pos : Pos} (hN : X.N[i]? = some x) (hv : Vis X.env.scope x) (hd : (x == ("__debug__" : Str)) = false) (hcd : (x == ("__classdict__" : Str)) = false) : GE X W (.Name x pos) (mVarF i) := fun w _ => by
  refine pe_imp (pe_var hN hv hd hcd) fun σ H Q h => ?_
  obtain ⟨Z, env, Fs, S, h⟩ := h
  unfold mVarF at h
  cases e : env[i]? with
  | none => rw [e] at h; exact h.elim
  | some o =>
    cases o with
    | none => rw [e] at h; exact h.elim
    | some x =>
      obtain ⟨v, e1, o⟩ := S.rep i _ e
      refine ⟨v, e1, ?_⟩
      rw [e] at h
      dsimp only at h
      have fz : ∀ {Z' : Addr → Prop}, (∀ a, Z' a → Z a ∧ a ∉ Fs i) → Own W H (fun a => ¬ Z' a) (frzV x).1 v (frzV x).2 [] := fun hz => Own.frzV (fun a n _ z => n (hz a z).1) o fun a ha z => (hz a z).2 ha
      have hl : i < env.length := (List.getElem?_eq_some_iff.mp e).1
      refine h H (fun a => Z a ∧ a ∉ Fs i) (upF Fs i []) v [] ⟨⟨Fr.refl, fun a z => .inl z.1, fun a z n => ⟨z, fun z' => n ⟨i, z'⟩⟩, fun a z => .inl ?_⟩, ⟨fun j y ej => ?_, fun j hj => ?_, fun j k a h1 h2 => ?_, fun j => ?_, fun j a ha => ?_, fun a z => S.zdom a z.1, by rw [List.length_set]; exact S.len, S.tabs⟩, ⟨fz fun a z => z, List.nodup_nil, fun _ z => (nomatch z), fun _ z => (nomatch z)⟩⟩
      · rcases z with ⟨j, z⟩ | z
        · by_cases hj : j = i
          · rw [hj, upF_same] at z; cases z
          · rw [upF_ne hj] at z; exact ⟨j, z⟩
        · cases z
      · by_cases hj : j = i
        · subst hj
          rw [List.getElem?_set_self hl] at ej
          cases ej
          exact ⟨v, e1, by rw [upF_same]; exact fz fun a z => z⟩
        · rw [List.getElem?_set_ne (Ne.symm hj)] at ej
          obtain ⟨u, e2, o2⟩ := S.rep j y ej
          exact ⟨u, e2, by rw [upF_ne hj]; exact Own.weak (fun a n _ z => n z.1) o2⟩
      · by_cases hji : j = i
        · rw [hji, upF_same]
        · rw [upF_ne hji]
          exact S.off j fun y => by have := hj y; rwa [List.getElem?_set_ne (Ne.symm hji)] at this
      · by_cases hj : j = i
        · rw [hj, upF_same] at h1; cases h1
        · by_cases hk : k = i
          · rw [hk, upF_same] at h2; cases h2
          · rw [upF_ne hj] at h1
            rw [upF_ne hk] at h2
            exact S.dis j k a h1 h2
      · by_cases hj : j = i
        · rw [hj, upF_same]; exact List.nodup_nil
        · rw [upF_ne hj]; exact S.nd j
      · by_cases hj : j = i
        · rw [hj, upF_same] at ha; cases ha
        · rw [upF_ne hj] at ha
          exact ⟨S.sub j a ha, fun z => hj (S.dis j i a ha z)⟩
theorem ge_peek (h : GE X W e m) : GE X W e (mPeek m) := fun w tk => by
  refine pe_imp (h w tk) fun σ H Q h => ?_
  obtain ⟨Z, env, Fs, S, h⟩ := h
  refine ⟨_, _, _, S.frz, ?_⟩
  unfold mPeek at h
  cases e : m (frzE env) with
  | ok x env' =>
    rw [e] at h
    dsimp only at h
    by_cases c : x.1 = .all ∧ x.2.solid = true
    · rw [if_pos c] at h
      intro H' Z' Fs' v Fx q
      obtain ⟨Z2, q2⟩ := S.thaw q c
      exact h _ _ _ _ _ q2
    · rw [if_neg c] at h; exact h.elim
  | exc c fs env' =>
    rw [e] at h
    exact fun H' Z' Fs' cls dd q => h _ _ _ _ _ (S.thawX q)
  | bad => rw [e] at h; exact h
theorem gt_peek (h : GT X W e mt) : GT X W e (mPeekT mt) := fun w tk => by
  refine pt_imp (h w tk) fun σ H Q h => ?_
  obtain ⟨Z, env, Fs, S, h⟩ := h
  refine ⟨_, _, _, S.frz, ?_⟩
  unfold mPeekT at h
  cases e : mt (frzE env) with
  | ok b env' =>
    rw [e] at h
    intro H' Z' Fs' q
    have q1 : PostE W H (fun a => Z a ∧ ¬ OF Fs a) noF σ H' Z' env' Fs' (.all, .non) .non [] := ⟨q.st, q.sim, pend_imm .non⟩
    obtain ⟨Z2, q2⟩ := S.thaw q1 ⟨rfl, rfl⟩
    exact h _ _ _ ⟨q2.st, q2.sim, .nil, List.nodup_nil, fun _ z => (nomatch z), fun _ z => (nomatch z), S.zdom⟩
  | exc c fs env' =>
    rw [e] at h
    exact fun H' Z' Fs' cls dd q => h _ _ _ _ _ (S.thawX q)
  | bad => rw [e] at h; exact h
theorem gw_peek (h : GW X W e mt) : GW X W e (mPeekT mt) := fun w tk => by
  refine pw_imp (h w tk) fun σ H Q h => ?_
  obtain ⟨Z, env, Fs, S, h⟩ := h
  refine ⟨_, _, _, S.frz, ?_⟩
  unfold mPeekT at h
  cases e : mt (frzE env) with
  | ok b env' =>
    rw [e] at h
    intro H' Z' Fs' q
    have q1 : PostE W H (fun a => Z a ∧ ¬ OF Fs a) noF σ H' Z' env' Fs' (.all, .non) .non [] := ⟨q.st, q.sim, pend_imm .non⟩
    obtain ⟨Z2, q2⟩ := S.thaw q1 ⟨rfl, rfl⟩
    exact h _ _ _ ⟨q2.st, q2.sim, .nil, List.nodup_nil, fun _ z => (nomatch z), fun _ z => (nomatch z), S.zdom⟩
  | exc c fs env' =>
    rw [e] at h
    exact fun H' Z' Fs' cls dd q => h _ _ _ _ _ (S.thawX q)
  | bad => rw [e] at h; exact h
end
end BV
set_option maxHeartbeats 2000000
/-! BV19: dicts: reading. -/
namespace BV
open PySem PySem.Spec PyProof.Rows L2

def kid1 : D → Option Key
  | .int i => some (.inl i)
  | .str x => some (.inr x)
  | _ => none
def kids : List D → Option (List Key)
  | [] => some []
  | d :: ds => match kid1 d, kids ds with
    | some k, some ks => some (k :: ks)
    | _, _ => none
/-- a key as data, once for all -/
def kid : D → Option (Bool × List Key)
  | .int i => some (false, [.inl i])
  | .str x => some (false, [.inr x])
  | .tup ds => (kids ds).map fun ks => (true, ks)
  | _ => none
theorem kid1_kD (k : Key) : kid1 (kD k) = some k := by cases k <;> rfl
theorem kids_kD : ∀ ks : List Key, kids (ks.map kD) = some ks
  | [] => rfl
  | k :: ks => by simp only [List.map_cons, kids, kid1_kD, kids_kD ks]
theorem kid_kD (k : Key) : kid (kD k) = some (false, [k]) := by cases k <;> rfl
theorem kid_kDs (ks : List Key) : kid (kDs ks) = some (true, ks) := by simp only [kDs, kid, kids_kD, Option.map_some]

def dGet (kvs : List (D × D)) (k : D) : Option D := (kvs.find? fun kv => decide (kid kv.1 = kid k)).map (·.2)
def dHas (kvs : List (D × D)) (k : D) : Bool := kvs.any fun kv => decide (kid kv.1 = kid k)
def dPut (kvs : List (D × D)) (k v : D) : List (D × D) := if dHas kvs k then kvs.map (fun kv => if kid kv.1 = kid k then (kv.1, v) else kv) else kvs ++ [(k, v)]

section
variable {W : Wd} {H : Hp} {P : Addr → Prop} {m : Mode}
theorem Own.key {v : V} {d : D} {F : List Addr} {k : Key} (o : Own W H P m v d F) (h : kid d = some (false, [k])) : v = kV k := by
  cases o <;> simp only [kid] at h <;> try cases h
  · rfl
  · rfl
  · obtain ⟨ks, _, e⟩ := Option.map_eq_some_iff.mp h
    cases e
theorem Owns.keys : ∀ {vs : List V} {ds : List D} {F : List Addr} {ks : List Key}, Owns W H P m vs ds F → kids ds = some ks → vs = ks.map kV
  | _, _, _, _, .nil, h => by simp only [kids, Option.some.injEq] at h; subst h; rfl
  | _, _, _, _, .cons (d := d) (ds := ds) o t, h => by
    simp only [kids] at h
    split at h
    · rename_i k ks e1 e2
      simp only [Option.some.injEq] at h
      subst h
      rw [List.map_cons, Owns.keys t e2]
      have : ∀ {v : V} {F : List Addr}, Own W H P m v d F → v = kV k := fun o => by
        cases o <;> simp only [kid1, Option.some.injEq] at e1 <;> first | (subst e1; rfl) | cases e1
      rw [this o]
    · cases h
theorem Own.keyT {v : V} {d : D} {F : List Addr} {ks : List Key} (o : Own W H P m v d F) (h : kid d = some (true, ks)) : ∃ b, v = .ref b ∧ H b = some (.tup (ks.map kV)) := by
  cases d <;> simp only [kid] at h <;> try cases h
  obtain ⟨ks', e1, e⟩ := Option.map_eq_some_iff.mp h
  cases e
  obtain ⟨a, ws, rfl, ha, hs⟩ := o.tup_inv
  exact ⟨a, rfl, by rw [← hs.keys e1]; exact ha⟩
theorem Owns.consV {v : V} {vs : List V} {ds : List D} {F : List Addr} (o : Owns W H P m (v :: vs) ds F) : ∃ d dr F1 F2, ds = d :: dr ∧ F = F1 ++ F2 ∧ Own W H P m v d F1 ∧ Owns W H P m vs dr F2 := by
  cases o with
  | cons h t => exact ⟨_, _, _, _, rfl, rfl, h, t⟩
section
variable {κ : Type} [DecidableEq κ] {enc : κ → D} (he : ∀ a b, kid (enc a) = kid (enc b) ↔ a = b)
include he
theorem dGet_some {k : κ} {d : D} : ∀ {kvs : List (κ × V)} {ds : List D} {F : List Addr}, Owns W H P m (kvs.map (·.2)) ds F → dGet ((kvs.map fun p => enc p.1).zip ds) (enc k) = some d →
    ∃ v G, valV kvs k = some v ∧ Own W H P m v d G ∧ (∀ a ∈ G, a ∈ F) ∧ (F.Nodup → G.Nodup)
  | [], _, _, _, h => by simp [dGet] at h
  | p :: r, _, _, oo, h => by
    obtain ⟨d0, ds, F1, F2, rfl, rfl, o, t⟩ := oo.consV
    by_cases e : p.1 = k
    · have e' : kid (enc p.1) = kid (enc k) := (he _ _).mpr e
      simp only [dGet, List.map_cons, List.zip_cons_cons, List.find?_cons, e', decide_true] at h
      cases h
      exact ⟨p.2, F1, valV_pos e, o, fun a ha => List.mem_append_left _ ha, fun n => (List.nodup_append.mp n).1⟩
    · have e' : ¬ kid (enc p.1) = kid (enc k) := fun z => e ((he _ _).mp z)
      have h2 : dGet ((r.map fun p => enc p.1).zip ds) (enc k) = some d := by
        simp only [dGet, List.map_cons, List.zip_cons_cons, List.find?_cons, e', decide_false] at h
        exact h
      obtain ⟨u, G, a, b, c, n⟩ := dGet_some t h2
      exact ⟨u, G, by rw [valV_neg e]; exact a, b, fun a ha => List.mem_append_right _ (c a ha), fun z => n (List.nodup_append.mp z).2.1⟩
theorem dGet_none {k : κ} : ∀ {kvs : List (κ × V)} {ds : List D} {F : List Addr}, Owns W H P m (kvs.map (·.2)) ds F → dGet ((kvs.map fun p => enc p.1).zip ds) (enc k) = none → valV kvs k = none
  | [], _, _, _, h => rfl
  | p :: r, _, _, oo, h => by
    obtain ⟨d0, ds, F1, F2, rfl, rfl, o, t⟩ := oo.consV
    by_cases e : p.1 = k
    · have e' : kid (enc p.1) = kid (enc k) := (he _ _).mpr e
      simp only [dGet, List.map_cons, List.zip_cons_cons, List.find?_cons, e', decide_true] at h
      cases h
    · have e' : ¬ kid (enc p.1) = kid (enc k) := fun z => e ((he _ _).mp z)
      rw [valV_neg e]
      refine dGet_none t ?_
      simp only [dGet, List.map_cons, List.zip_cons_cons, List.find?_cons, e', decide_false] at h
      exact h
end
theorem kD_kid (a b : Key) : kid (kD a) = kid (kD b) ↔ a = b := by rw [kid_kD, kid_kD]; simp
theorem kDs_kid (a b : List Key) : kid (kDs a) = kid (kDs b) ↔ a = b := by rw [kid_kDs, kid_kDs]; simp
theorem dGet_kid {kvs : List (D × D)} {k k' : D} (h : kid k = kid k') : dGet kvs k = dGet kvs k' := by unfold dGet; rw [h]
theorem dHas_get {kvs : List (D × D)} {k : D} : dHas kvs k = (dGet kvs k).isSome := by
  unfold dHas dGet
  induction kvs with
  | nil => rfl
  | cons p r ih =>
    rw [List.any_cons, List.find?_cons]
    by_cases e : kid p.1 = kid k
    · simp only [e, decide_true, Bool.true_or, Option.map_some, Option.isSome_some]
    · simp only [e, decide_false, Bool.false_or]; exact ih
/-- is the key of the dict's sort? -/
def keyOk (t : Bool) (k : D) : Bool := match kid k with
  | some (t', _) => t == t'
  | none => false
/-- a look into a dict -/
theorem Own.dget {P' : Addr → Prop} {m' : Mode} {v y : V} {t : Bool} {kvs : List (D × D)} {k : D} {F F' : List Addr} (o : Own W H P m v (.dic t kvs) F) (ok : Own W H P' m' y k F') (hk : keyOk t k = true) :
    ∃ a r, v = .ref a ∧ DGet H a y r ∧ match dGet kvs k with
      | some d => ∃ u G, r = some u ∧ Own W H P m.pred u d G ∧ (∀ c ∈ G, c ∈ F) ∧ (F.Nodup → G.Nodup)
      | none => r = none := by
  have fin : ∀ {a : Addr} {r : Option V} {kvs' : List (D × D)} {q : V → D → List Addr → Prop}, (∀ d, dGet kvs' k = some d → ∃ u G, r = some u ∧ q u d G) → (dGet kvs' k = none → r = none) → match dGet kvs' k with
      | some d => ∃ u G, r = some u ∧ q u d G
      | none => r = none := fun {a r kvs' q} h1 h2 => by
    cases e : dGet kvs' k with
    | some d => exact h1 d e
    | none => exact h2 e
  unfold keyOk at hk
  cases ek : kid k with
  | none => rw [ek] at hk; cases hk
  | some p =>
    obtain ⟨t', ks⟩ := p
    rw [ek] at hk
    have : t = t' := by simpa using hk
    subst this
    -- keys of one item
    have one : t = false → ∃ k0, ks = [k0] := fun e => by
      subst e
      cases k <;> simp only [kid, Option.some.injEq, Prod.mk.injEq] at ek <;> first | exact ⟨_, ek.2.symm⟩ | cases ek | skip
      obtain ⟨_, _, q⟩ := Option.map_eq_some_iff.mp ek
      cases q
    cases o with
    | dKS pa e h =>
      obtain ⟨k0, rfl⟩ := one rfl
      have ee : kid k = kid (kD k0) := by rw [ek, kid_kD]
      rename_i a kvs ds
      refine ⟨a, valV kvs k0, rfl, .inl ⟨kvs, k0, .inl e, ok.key ek, rfl⟩, fin (a := a) (fun d hd => ?_) fun hd => ?_⟩
      · rw [dGet_kid ee] at hd
        obtain ⟨u, G, a1, a2, a3, a4⟩ := dGet_some kD_kid h hd
        exact ⟨u, G, a1, a2, a3, a4⟩
      · rw [dGet_kid ee] at hd
        exact dGet_none kD_kid h hd
    | dKO n nk e h =>
      obtain ⟨k0, rfl⟩ := one rfl
      have ee : kid k = kid (kD k0) := by rw [ek, kid_kD]
      rename_i a kvs ds G0
      refine ⟨a, valV kvs k0, rfl, .inl ⟨kvs, k0, .inl e, ok.key ek, rfl⟩, fin (a := a) (fun d hd => ?_) fun hd => ?_⟩
      · rw [dGet_kid ee] at hd
        obtain ⟨u, G, a1, a2, a3, a4⟩ := dGet_some kD_kid h hd
        exact ⟨u, G, a1, a2, fun c hc => List.mem_cons_of_mem _ (a3 c hc), fun z => a4 (List.nodup_cons.mp z).2⟩
      · rw [dGet_kid ee] at hd
        exact dGet_none kD_kid h hd
    | dTS pa e h =>
      obtain ⟨b, rfl, hb⟩ := ok.keyT ek
      have ee : kid k = kid (kDs ks) := by rw [ek, kid_kDs]
      rename_i a kvs ds
      refine ⟨a, valV kvs ks, rfl, .inr ⟨kvs, ks, b, .inl e, rfl, hb, rfl⟩, fin (a := a) (fun d hd => ?_) fun hd => ?_⟩
      · rw [dGet_kid ee] at hd
        obtain ⟨u, G, a1, a2, a3, a4⟩ := dGet_some kDs_kid h hd
        exact ⟨u, G, a1, a2, a3, a4⟩
      · rw [dGet_kid ee] at hd
        exact dGet_none kDs_kid h hd
    | dTO n nk e h =>
      obtain ⟨b, rfl, hb⟩ := ok.keyT ek
      have ee : kid k = kid (kDs ks) := by rw [ek, kid_kDs]
      rename_i a kvs ds G0
      refine ⟨a, valV kvs ks, rfl, .inr ⟨kvs, ks, b, .inl e, rfl, hb, rfl⟩, fin (a := a) (fun d hd => ?_) fun hd => ?_⟩
      · rw [dGet_kid ee] at hd
        obtain ⟨u, G, a1, a2, a3, a4⟩ := dGet_some kDs_kid h hd
        exact ⟨u, G, a1, a2, fun c hc => List.mem_cons_of_mem _ (a3 c hc), fun z => a4 (List.nodup_cons.mp z).2⟩
      · rw [dGet_kid ee] at hd
        exact dGet_none kDs_kid h hd
end

/-! ### d[k], k in d, {} -/
def gDGet (x : Val) (k : D) : Option Val := match x.2 with
  | .dic t kvs => if keyOk t k then (dGet kvs k).map fun d => nrm (x.1.pred, d) else none
  | _ => none
def gDIn (k x : D) : Option D := match x with
  | .dic t kvs => if keyOk t k then some (.bl (dHas kvs k)) else none
  | _ => none
def gDNotIn (k x : D) : Option D := match x with
  | .dic t kvs => if keyOk t k then some (.bl (!dHas kvs k)) else none
  | _ => none
section
variable {X : Cx} {W : Wd} {a b : Expr} {pos : Pos} {ma mb : M Val}
abbrev rDGet : R2 := fun x y H Q => ∃ a v, x = .ref a ∧ DGet H a y (some v) ∧ Q v H
theorem says_dget : SaysV rDGet W gDGet := by
  intro x y z w σ H Z Fs H1 Z1 env Fs1 v u F Q eg p h
  obtain ⟨m, d⟩ := x
  obtain ⟨m2, d2⟩ := y
  obtain ⟨F1, F2, eF, o1, o2⟩ := p.own.inv2
  unfold gDGet at eg
  dsimp only at eg
  split at eg
  · rename_i t kvs
    split at eg
    · rename_i hk
      obtain ⟨d, ed, rfl⟩ := Option.map_eq_some_iff.mp eg
      obtain ⟨a, r, rfl, g, q⟩ := o1.dget o2 hk
      rw [ed] at q
      obtain ⟨u', G, rfl, o, hG, hn⟩ := q
      have nF : F1.Nodup := (List.nodup_append.mp (eF ▸ p.nd)).1
      exact ⟨a, u', rfl, g, p.partN o (fun b hb => by rw [eF]; exact List.mem_append_left _ (hG b hb)) (hn nF) h⟩
    · cases eg
  · cases eg
theorem ge_dget (hu : X.A.units + 1 < cLine) (ha : GE X W a ma) (hb : GE X W b mb) (hs : NoSl b) : GE X W (.Subscript a b pos) (mOpV gDGet ma mb) :=
  ge_opV (fun _ _ h1 h2 => pe_dget hu h1 h2 hs) says_dget ha hb
abbrev rDIn : R2 := fun y x H Q => ∃ a o, x = .ref a ∧ DGet H a y o ∧ Q (.bl o.isSome) H
abbrev rDNotIn : R2 := fun y x H Q => ∃ a o, x = .ref a ∧ DGet H a y o ∧ Q (.bl (!o.isSome)) H
theorem says_din : Says W rDIn gDIn := by
  intro x y d H P v u F G Q e o1 o2 k
  obtain ⟨m1, x⟩ := x
  obtain ⟨m2, y⟩ := y
  unfold gDIn at e
  dsimp only at e o1 o2
  split at e
  · rename_i t kvs
    split at e
    · rename_i hk
      simp only [Option.some.injEq] at e
      subst e
      obtain ⟨a, r, rfl, g, q⟩ := o2.dget o1 hk
      refine ⟨a, r, rfl, g, ?_⟩
      have : r.isSome = dHas kvs x := by
        rw [dHas_get]
        cases ed : dGet kvs x with
        | some d => rw [ed] at q; obtain ⟨_, _, rfl, _⟩ := q; rfl
        | none => rw [ed] at q; rw [q]; rfl
      rw [this]
      exact k _ fun _ => .bl _
    · cases e
  · cases e
theorem says_dnotin : Says W rDNotIn gDNotIn := by
  intro x y d H P v u F G Q e o1 o2 k
  obtain ⟨m1, x⟩ := x
  obtain ⟨m2, y⟩ := y
  unfold gDNotIn at e
  dsimp only at e o1 o2
  split at e
  · rename_i t kvs
    split at e
    · rename_i hk
      simp only [Option.some.injEq] at e
      subst e
      obtain ⟨a, r, rfl, g, q⟩ := o2.dget o1 hk
      refine ⟨a, r, rfl, g, ?_⟩
      have : r.isSome = dHas kvs x := by
        rw [dHas_get]
        cases ed : dGet kvs x with
        | some d => rw [ed] at q; obtain ⟨_, _, rfl, _⟩ := q; rfl
        | none => rw [ed] at q; rw [q]; rfl
      rw [this]
      exact k _ fun _ => .bl _
    · cases e
  · cases e
end
/-! ### a new empty dict -/
section
variable {X : Cx} {W : Wd} {pos : Pos}
def mDNew (t : Bool) : M Val := M.pure (.all, .dic t [])
theorem PostL.newObj {W : Wd} {σ : L2.St} {H H1 : Hp} {Z Z1 : Addr → Prop} {Fs Fs1 : Nat → List Addr} {env : Env} {xs : List Val} {vs : List V} {F G : List Addr} {x : Val} {q : Addr} {o : HO} (p : PostL W H Z Fs σ H1 Z1 env Fs1 xs vs F) (n : H1 q = none)
    (ow : Own W (upd H1 q o) (fun a => ¬ (Z1 a ∨ a = q)) x.1 (.ref q) x.2 (q :: G)) (hG : ∀ a ∈ G, a ∈ F) (hn : G.Nodup) : PostE W H Z Fs σ (upd H1 q o) (fun a => Z1 a ∨ a = q) env Fs1 x (.ref q) (q :: G) := by
  have hz : ¬ Z1 q := fun z => p.sim.zdom q z n
  have f : Fr W (fun _ => False) H1 (upd H1 q o) := Fr.new n
  have oq : ¬ OF Fs1 q := fun z => hz (p.sim.subO z)
  refine ⟨⟨⟨fun a u h k t => f.keep a u (p.st.fr.keep a u h k t) (.inl id) t, fun t => f.tabs (p.st.fr.tabs t), fun a h => f.there a (p.st.fr.there a h)⟩, fun a z => ?_, fun a z k => .inl (p.st.zkeep a z k), fun a z => ?_⟩, ?_, ⟨ow, ?_, fun a ha => ?_, fun a ha => ?_⟩⟩
  · rcases z with z | rfl
    · exact p.st.zin a z
    · exact .inr (Classical.byContradiction fun z => p.st.fr.there a z n)
  · rcases z with z | z
    · exact p.st.own a (.inl z)
    · rcases List.mem_cons.mp z with rfl | z
      · exact .inr (Classical.byContradiction fun z => p.st.fr.there a z n)
      · exact p.st.own a (.inr (hG a z))
  · refine ⟨fun i x e => ?_, p.sim.off, p.sim.dis, p.sim.nd, fun i a h => .inl (p.sim.sub i a h), fun a z => ?_, p.sim.len, f.tabs p.sim.tabs⟩
    · obtain ⟨v, e1, o⟩ := p.sim.rep i x e
      exact ⟨v, e1, Own.frame f (fun _ _ z => z) (Own.weak (fun a k t z => z.elim k fun e => t (e ▸ n)) o) fun _ _ z => z⟩
    · rcases z with z | rfl
      · exact f.there a (p.sim.zdom a z)
      · rw [upd_same]; exact fun z => nomatch z
  · exact List.nodup_cons.mpr ⟨fun z => hz (p.sub q (hG q z)), hn⟩
  · rcases List.mem_cons.mp ha with rfl | ha
    · exact .inr rfl
    · exact .inl (p.sub a (hG a ha))
  · rcases List.mem_cons.mp ha with rfl | ha
    · exact oq
    · exact p.dis a (hG a ha)
theorem ge_dnewK : GE X W (.Dict [] [] pos) (mDNew false) := fun w tk => pe_imp pe_dnewK fun σ H Q h => by
  obtain ⟨Z, env, Fs, S, h⟩ := h
  exact fun q n => h _ _ _ _ _ ((PostL.start S).newObj n (.dKO (kvs := []) (ds := []) (fun z => nomatch z) List.nodup_nil upd_same .nil) (fun _ z => (nomatch z)) List.nodup_nil)
theorem ge_dnewT : GE X W (.Dict [] [] pos) (mDNew true) := fun w tk => pe_imp pe_dnewT fun σ H Q h => by
  obtain ⟨Z, env, Fs, S, h⟩ := h
  exact fun q n => h _ _ _ _ _ ((PostL.start S).newObj n (.dTO (kvs := []) (ds := []) (fun z => nomatch z) List.nodup_nil upd_same .nil) (fun _ z => (nomatch z)) List.nodup_nil)
end
end BV
set_option maxHeartbeats 2000000
/-! BV20: list comprehensions. -/
namespace BV
open PySem PySem.Spec PyProof.Rows L2

section
variable {W : Wd} {w : WX} {mp : List Nat} {σ σ' σ1 σ2 : L2.St} {H H1 H2 : Hp} {Z Z1 Z2 : Addr → Prop} {Fs Fs1 Fs2 : Nat → List Addr} {env env1 env2 : Env} {xs ys : List Val} {vs us : List V} {F F' G Fx : List Addr} {x y : Val} {v u : V} {a : Addr} {o o' : HO} {is : List Nat}
/-- an owned object at hand is written -/
theorem PostL.wrHand {xs' : List Val} {vs' : List V} (p : PostL W H Z Fs σ H1 Z1 env Fs1 xs vs F) (ha : a ∈ F) (h1 : H1 a = some o) (hf : ¬ Fixed o) (ht : ¬ Tbl o) (z1 : ∀ c, Z2 c → Z1 c) (z2 : ∀ c, Z1 c → c ∉ F → Z2 c)
    (own' : OwnL W (upd H1 a o') (fun c => ¬ Z2 c) xs' vs' F') (nd : F'.Nodup) (sub : ∀ c ∈ F', Z2 c ∧ c ∈ F) : PostL W H Z Fs σ (upd H1 a o') Z2 env Fs1 xs' vs' F' := by
  have f := Fr.wr (W := W) (o' := o') h1 hf ht
  have back : ∀ c ∈ F, OF Fs c ∨ H c = none := fun c h => p.st.own c (.inr h)
  refine ⟨⟨⟨fun c u h k t => ?_, fun t => f.tabs (p.st.fr.tabs t), fun c h => f.there c (p.st.fr.there c h)⟩, fun c z => p.st.zin c (z1 c z), fun c z k => z2 c (p.st.zkeep c z k) fun z' => (back c z').elim k (p.zd c z), fun c z => ?_⟩,
    ⟨fun j x e => ?_, p.sim.off, p.sim.dis, p.sim.nd, fun j c h => z2 c (p.sim.sub j c h) fun z => p.dis c z ⟨j, h⟩, fun c z => f.there c (p.sim.zdom c (z1 c z)), p.sim.len, f.tabs p.sim.tabs⟩, own', nd, fun c h => (sub c h).1, fun c h => p.dis c (sub c h).2, p.zd⟩
  · have e1 := p.st.fr.keep c u h k t
    have n : c ≠ a := fun z => by
      rcases k with k | k
      · rw [z] at h k; exact (back a ha).elim k fun n => by rw [h] at n; cases n
      · rw [z, h1] at e1; cases e1; exact hf k
    rw [upd_ne n]; exact e1
  · rcases z with z | z
    · exact p.st.own c (.inl z)
    · exact back c (sub c z).2
  · obtain ⟨q, e1, o1⟩ := p.sim.rep j x e
    exact ⟨q, e1, Own.weak (fun c n _ z => n (z1 c z)) (Own.frame f (fun c n z => n (z ▸ p.sub a ha)) o1 fun c hc z => p.dis a ha ⟨j, z ▸ hc⟩)⟩
theorem newL_ns {k : Bool} {ds : List D} : (newL k ds).1 ≠ .shr ∧ (newL k ds).2 = .lst ds ∧ (k = true → (newL k ds).1 = .all) := by
  unfold BV.newL
  by_cases c : (k || immAll ds) = true
  · rw [if_pos c]; exact ⟨fun z => (nomatch z), rfl, fun _ => rfl⟩
  · rw [if_neg c]; exact ⟨fun z => (nomatch z), rfl, fun z => by rw [z] at c; exact absurd rfl c⟩
theorem Own.lstO_inv {P : Addr → Prop} {m : Mode} {ds : List D} (h : Own W H P m v (.lst ds) F) (hm : m ≠ .shr) : ∃ a ws G, v = .ref a ∧ F = a :: G ∧ H a = some (.lst ws) ∧ Owns W H P m.pred ws ds G := by
  generalize ed : D.lst ds = d at h
  cases h with
  | lstO n e t => cases ed; exact ⟨_, _, _, rfl, rfl, e, t⟩
  | lstS _ _ _ => exact absurd rfl hm
  | _ => cases ed
/-- a list at hand takes a value at hand -/
theorem PostL.app {k : Bool} {ds : List D} {D0 : Addr} (p : PostL W H Z Fs σ H1 Z1 env Fs1 [newL k ds, y] [.ref D0, u] F) :
    ∃ acc, H1 D0 = some (.lst acc) ∧ acc.length = ds.length ∧ ∃ Z2 F', PostL W H Z Fs σ (upd H1 D0 (.lst (acc ++ [u]))) Z2 env Fs1 [newL (k && y.1 == .all) (ds ++ [y.2])] [.ref D0] F' := by
  obtain ⟨F1, F2, eF, o1, oy⟩ := p.own.inv2
  obtain ⟨n1, n2, n3⟩ := newL_ns (k := k) (ds := ds)
  rw [n2] at o1
  obtain ⟨a, acc, G, e1, rfl, h1, os⟩ := o1.lstO_inv n1
  cases e1
  subst eF
  obtain ⟨nd1, nd2, nd3⟩ := List.nodup_append.mp p.nd
  obtain ⟨aG, nG⟩ := List.nodup_cons.mp nd1
  have aF2 : D0 ∉ F2 := fun z => nd3 D0 (List.mem_cons_self ..) D0 z rfl
  have aGF : D0 ∉ G ++ F2 := fun z => (List.mem_append.mp z).elim aG aF2
  have nGF : (G ++ F2).Nodup := List.nodup_append.mpr ⟨nG, nd2, fun c hc d hd => nd3 c (List.mem_cons_of_mem _ hc) d hd⟩
  have subF : ∀ c ∈ G ++ F2, c ∈ D0 :: G ++ F2 := fun c hc => List.mem_cons_of_mem _ hc
  have ha : D0 ∈ D0 :: G ++ F2 := List.mem_cons_self ..
  have Za : Z1 D0 := p.sub D0 ha
  have f := Fr.wr (W := W) (o := .lst acc) (o' := .lst (acc ++ [u])) h1 (fun z => z) (fun z => z)
  refine ⟨acc, h1, os.length, ?_⟩
  unfold BV.newL
  by_cases im : immAll (ds ++ [y.2]) = true
  · rw [im, Bool.or_true, if_pos rfl]
    have o2 : Owns W H1 (fun c => ¬ (Z1 c ∧ c ∉ G ++ F2)) .shr (acc ++ [u]) (ds ++ [y.2]) [] := Owns.append (F := []) (.cons (F := []) (Own.freeze (fun c n _ z => n z.1) oy fun c hc z => z.2 (List.mem_append_right _ hc)) .nil) (Owns.freeze (fun c n _ z => n z.1) os fun c hc z => z.2 (List.mem_append_left _ hc))
    have o3 := (o2.of_imm im).2 .all (fun c => ¬ Z1 c)
    refine ⟨Z1, [D0], p.wrHand (o := .lst acc) ha h1 (fun z => z) (fun z => z) (fun c z => z) (fun c z _ => z) (.cons (F := [D0]) (.lstO (fun z => nomatch z) upd_same (Owns.frame f (fun c n z => n (z ▸ Za)) o3 fun _ z => (nomatch z))) .nil) (by simp) fun c hc => ?_⟩
    have : c = D0 := by simpa using hc
    subst this
    exact ⟨Za, ha⟩
  · rw [Bool.eq_false_iff.mpr im, Bool.or_false]
    cases k2 : (k && y.1 == .all) with
    | true =>
      rw [if_pos rfl]
      obtain ⟨k1, y1⟩ := by simpa only [Bool.and_eq_true, beq_iff_eq] using k2
      have e3 := n3 k1
      rw [e3] at os
      rw [y1] at oy
      have o2 : Owns W H1 (fun c => ¬ Z1 c) .all (acc ++ [u]) (ds ++ [y.2]) (G ++ F2) := Owns.append (by simpa using Owns.cons oy .nil) os
      refine ⟨Z1, D0 :: (G ++ F2), p.wrHand (o := .lst acc) ha h1 (fun z => z) (fun z => z) (fun c z => z) (fun c z _ => z) ?_ (List.nodup_cons.mpr ⟨aGF, nGF⟩) fun c hc => ?_⟩
      · have : Own W (upd H1 D0 (.lst (acc ++ [u]))) (fun c => ¬ Z1 c) .all (.ref D0) (.lst (ds ++ [y.2])) (D0 :: (G ++ F2)) := .lstO (fun z => nomatch z) upd_same (Owns.frame f (fun c n z => n (z ▸ Za)) o2 fun c hc z => aGF (z ▸ hc))
        simpa using OwnL.cons (x := (.all, .lst (ds ++ [y.2]))) this .nil
      · rcases List.mem_cons.mp hc with rfl | hc
        · exact ⟨Za, ha⟩
        · exact ⟨p.sub c (subF c hc), subF c hc⟩
    | false =>
      rw [if_neg (by simp)]
      have o2 : Owns W H1 (fun c => ¬ (Z1 c ∧ c ∉ G ++ F2)) .shr (acc ++ [u]) (ds ++ [y.2]) [] := Owns.append (F := []) (.cons (F := []) (Own.freeze (fun c n _ z => n z.1) oy fun c hc z => z.2 (List.mem_append_right _ hc)) .nil) (Owns.freeze (fun c n _ z => n z.1) os fun c hc z => z.2 (List.mem_append_left _ hc))
      refine ⟨fun c => Z1 c ∧ c ∉ G ++ F2, [D0], p.wrHand (o := .lst acc) ha h1 (fun z => z) (fun z => z) (fun c z => z.1) (fun c z n => ⟨z, fun z' => n (subF c z')⟩) (.cons (F := [D0]) (.lstO (fun z => nomatch z) upd_same (Owns.frame f (fun c n z => n (z ▸ ⟨Za, aGF⟩)) o2 fun _ z => (nomatch z))) .nil) (by simp) fun c hc => ?_⟩
      have : c = D0 := by simpa using hc
      subst this
      exact ⟨⟨Za, aGF⟩, ha⟩

/-! ### slots of a block's own -/
theorem wipe_at (σ : L2.St) (i : Nat) : ∀ is : List Nat, (wipe σ is)[i]? = if i ∈ is then (if i < σ.length then some none else none) else σ[i]?
  | [] => by simp [wipe]
  | v :: is => by
    unfold wipe
    by_cases e : i = v
    · subst e
      rw [List.getElem?_set]
      simp [wipe_length]
    · rw [List.getElem?_set_ne (Ne.symm e), wipe_at σ i is]
      simp [e]
def wipeE (env : Env) (is : List Nat) : Env := env.mapIdx fun i o => if i ∈ is then none else o
theorem wipeE_at {i : Nat} : (wipeE env is)[i]? = if i ∈ is then (if i < env.length then some none else none) else env[i]? := by
  unfold wipeE
  rw [List.getElem?_mapIdx]
  by_cases h : i < env.length
  · rw [List.getElem?_eq_getElem h]
    by_cases c : i ∈ is <;> simp [c, h]
  · rw [List.getElem?_eq_none (Nat.le_of_not_lt h)]
    by_cases c : i ∈ is <;> simp [c, h]
def wipeF (Fs : Nat → List Addr) (is : List Nat) : Nat → List Addr := fun i => if i ∈ is then [] else Fs i
theorem OF_wipeF {c : Addr} (h : OF (wipeF Fs is) c) : OF Fs c := by
  obtain ⟨j, h⟩ := h
  unfold wipeF at h
  split at h
  · cases h
  · exact ⟨j, h⟩
theorem Sim.wipe (S : Sim W H Z σ env Fs) (hσ : ∀ i, i ∉ is → σ'[i]? = σ[i]?) (hl : σ'.length = σ.length) : Sim W H Z σ' (wipeE env is) (wipeF Fs is) where
  rep := fun i x e => by
    rw [wipeE_at] at e
    by_cases c : i ∈ is
    · rw [if_pos c] at e; split at e <;> cases e
    · rw [if_neg c] at e
      obtain ⟨v, e1, o⟩ := S.rep i x e
      exact ⟨v, by rw [hσ i c]; exact e1, by unfold wipeF; rw [if_neg c]; exact o⟩
  off := fun i h => by
    unfold wipeF
    by_cases c : i ∈ is
    · rw [if_pos c]
    · rw [if_neg c]
      refine S.off i fun x e => h x ?_
      rw [wipeE_at, if_neg c]; exact e
  dis := fun i j a h1 h2 => by
    unfold wipeF at h1 h2
    split at h1
    · cases h1
    · split at h2
      · cases h2
      · exact S.dis i j a h1 h2
  nd := fun i => by
    unfold wipeF
    split
    · exact List.nodup_nil
    · exact S.nd i
  sub := fun i a h => by
    unfold wipeF at h
    split at h
    · cases h
    · exact S.sub i a h
  zdom := S.zdom
  len := by unfold wipeE; rw [List.length_mapIdx, S.len, hl]
  tabs := S.tabs
theorem PostL.wipe (p : PostL W H Z Fs σ H1 Z1 env Fs1 xs vs F) (hσ : ∀ i, i ∉ is → σ'[i]? = σ[i]?) (hl : σ'.length = σ.length) : PostL W H Z Fs σ' H1 Z1 (wipeE env is) (wipeF Fs1 is) xs vs F :=
  ⟨⟨p.st.fr, p.st.zin, p.st.zkeep, fun a h => p.st.own a (h.imp OF_wipeF id)⟩, p.sim.wipe hσ hl, p.own, p.nd, p.sub, fun a h z => p.dis a h (OF_wipeF z), p.zd⟩
/-- what a slot still holds behind a block that had it for its own -/
def keepO : Option Val → Option Val
  | some x => if x.2.imm then some (.all, x.2) else if x.1 = .shr then some x else none
  | none => none
def restE (env0 env : Env) (is : List Nat) : Env := env.mapIdx fun i o => if i ∈ is then keepO (env0[i]?).join else o
theorem restE_at {env0 : Env} {i : Nat} : (restE env0 env is)[i]? = if i ∈ is then (if i < env.length then some (keepO (env0[i]?).join) else none) else env[i]? := by
  unfold restE
  rw [List.getElem?_mapIdx]
  by_cases h : i < env.length
  · rw [List.getElem?_eq_getElem h]
    by_cases c : i ∈ is <;> simp [c, h]
  · rw [List.getElem?_eq_none (Nat.le_of_not_lt h)]
    by_cases c : i ∈ is <;> simp [c, h]
theorem PostL.rest (S0 : Sim W H Z σ env Fs) (p : PostL W H Z Fs σ' H1 Z1 env1 Fs1 xs vs F) (hσ : ∀ i, i ∉ is → σ'[i]? = σ[i]?) (hl : σ'.length = σ.length) (hw : ∀ i ∈ is, ∀ x, env1[i]? ≠ some (some x)) : PostL W H Z Fs σ H1 Z1 (restE env env1 is) Fs1 xs vs F := by
  refine ⟨p.st, ⟨fun i x e => ?_, fun i h => ?_, p.sim.dis, p.sim.nd, p.sim.sub, p.sim.zdom, by unfold restE; rw [List.length_mapIdx, p.sim.len, hl], p.sim.tabs⟩, p.own, p.nd, p.sub, p.dis, p.zd⟩
  · rw [restE_at] at e
    by_cases c : i ∈ is
    · rw [if_pos c] at e
      split at e
      · simp only [Option.some.injEq] at e
        cases q : env[i]? with
        | none => rw [q] at e; cases e
        | some o =>
          cases o with
          | none => rw [q] at e; cases e
          | some y =>
            rw [q] at e
            simp only [Option.join, Option.bind_some, id, keepO] at e
            obtain ⟨v, e1, o⟩ := S0.rep i y q
            have F0 : Fs1 i = [] := p.sim.off i (hw i c)
            refine ⟨v, e1, ?_⟩
            rw [F0]
            split at e
            · rename_i im
              cases e
              have o2 := (o.of_imm im).2 .all (fun a => ¬ Z a)
              exact Own.later (fun a z => S0.subO z) o2 (fun _ z => nomatch z) p.st
            · split at e
              · rename_i hs
                cases e
                rw [hs] at o ⊢
                have := o.shr_nil
                rw [this] at o
                exact Own.later (fun a z => S0.subO z) o (fun _ z => nomatch z) p.st
              · cases e
      · cases e
    · rw [if_neg c] at e
      obtain ⟨v, e1, o⟩ := p.sim.rep i x e
      exact ⟨v, by rw [← hσ i c]; exact e1, o⟩
  · by_cases c : i ∈ is
    · exact p.sim.off i (hw i c)
    · refine p.sim.off i fun x e => h x ?_
      rw [restE_at, if_neg c]; exact e
theorem PostL.grow (p : PostL W H Z Fs σ H1 Z1 env Fs1 xs vs F) (f : Fr W (fun _ => False) H1 H2) : PostL W H Z Fs σ H2 Z1 env Fs1 xs vs F := by
  have := p.append (ys := []) (us := []) (Fx := []) (H2 := H2) (Z2 := Z1) (env1 := env) (Fs2 := Fs1) ⟨⟨⟨fun a o h k t => f.keep a o h (.inl id) t, f.tabs, f.there⟩, fun _ z => .inl z, fun _ z _ => z, fun a z => .inl (z.elim id fun z => nomatch z)⟩, p.sim.grow f, .nil, List.nodup_nil, fun _ z => (nomatch z), fun _ z => (nomatch z), p.sim.zdom⟩
  simpa using this
end
mutual
theorem mTg_length {mp : List Nat} : ∀ (t : Tg) {x : Val} {env env' : Env}, mTg mp t x env = some env' → env'.length = env.length
  | .nm i, x, env, env', h => by
    simp only [mTg] at h
    split at h
    · cases h
    · simp only [Option.some.injEq] at h; subst h; rw [List.length_set]
  | .tp ts, x, env, env', h => by
    simp only [mTg] at h
    split at h
    · exact mTgs_length ts h
    · exact mTgs_length ts h
    · cases h
theorem mTgs_length {mp : List Nat} : ∀ (ts : List Tg) {xs : List Val} {env env' : Env}, mTgs mp ts xs env = some env' → env'.length = env.length
  | [], [], env, env', h => by simp only [mTgs, Option.some.injEq] at h; subst h; rfl
  | [], _ :: _, _, _, h => by simp [mTgs] at h
  | _ :: _, [], _, _, h => by simp [mTgs] at h
  | t :: ts, x :: xs, env, env', h => by
    simp only [mTgs] at h
    cases e : mTg mp t x env with
    | none => rw [e] at h; cases h
    | some e1 =>
      rw [e] at h
      rw [mTgs_length ts h, mTg_length t e]
end

/-! ### [e for t in it if c] -/
/-- the slots that are not the block's own -/
def others (n : Nat) (is : List Nat) : List Nat := (List.range n).filter fun i => !(is.contains i)
theorem mem_others {n i : Nat} {is : List Nat} : i ∈ others n is ↔ i < n ∧ i ∉ is := by
  unfold others
  rw [List.mem_filter, List.mem_range]
  simp
def mLcGo (n : Nat) (is : List Nat) (t : Tg) (mt : M Bool) (me : M Val) : List D → Bool → List D → Env → Option (Bool × List D × Env)
  | [], k, acc, env => some (k, acc, env)
  | d :: ds, k, acc, env => match mTg (others n is) t (.shr, d) (wipeE env is) with
    | none => none
    | some env2 => match mt env2 with
      | .ok false env3 => mLcGo n is t mt me ds k acc env3
      | .ok true env3 => (match me env3 with
        | .ok y env4 => if acc.length < sizeLine then mLcGo n is t mt me ds (k && y.1 == .all) (acc ++ [y.2]) env4 else none
        | _ => none)
      | _ => none
def mLc (n : Nat) (is : List Nat) (mi : M (List D)) (t : Tg) (mt : M Bool) (me : M Val) : M Val := mi.bind fun ds env => match mLcGo n is t mt me ds true [] env with
  | some (k, acc, env') => .ok (newL k acc) (restE env (wipeE env' is) is)
  | none => .bad
section
variable {X : Cx} {W : Wd}
theorem takesF {X : Cx} : Takes X (fun _ _ _ _ => False) := LamX.takes0
/-- the tests of a block -/
def GTs (X : Cx) (W : Wd) (ifs : List Expr) (m : M Bool) : Prop := ∀ w, Takes X w → PTs X ifs (rdT W w m)
theorem gts_nil : GTs X W [] (M.pure true) := fun w tk => ⟨fun pins s σ H Q I h => by
  obtain ⟨Z, env, Fs, S, h⟩ := h
  exact pts_nil.run pins s σ H Q I (h H Z Fs (PostL.start S))⟩
theorem gts_one {c : Expr} {m : M Bool} (h : GT X W c m) : GTs X W [c] m := fun w tk => pts_one (h w tk)
theorem lc_read {w : WX} {σ : L2.St} {H : Hp} {Q : VK} {mi : M (List D)} {t : Tg} {mt : M Bool} {me : M Val} {n : Nat} {is : List Nat} (lenσ : σ.length = n) (h : rdE W w (mLc n is mi t mt me) σ H Q) :
    tLc (rdI W w mi) (rdG W (others n is) t) (rdT W (fun _ _ _ _ => False) mt) (rdE W (fun _ _ _ _ => False) me) is σ H Q := by
  obtain ⟨Z, env, Fs, S, h⟩ := h
  refine ⟨Z, env, Fs, S, ?_⟩
  have h : Fin W w σ H Z Fs ((mi env).bind _) Q := h
  cases ei : mi env with
  | exc c fs e => rw [ei] at h; exact h
  | bad => rw [ei] at h; exact h
  | ok ds env1 =>
    rw [ei] at h
    intro H1 Z1 Fs1 J p0 Y
    replace h : Fin W w σ H Z Fs (match mLcGo n is t mt me ds true [] env1 with
      | some (k, acc, env') => .ok (newL k acc) (restE env1 (wipeE env' is) is)
      | none => .bad) Q := h
    intro D0 nD
    cases eg : mLcGo n is t mt me ds true [] env1 with
    | none => rw [eg] at h; exact h.elim
    | some r =>
      obtain ⟨kr, accr, envr⟩ := r
      rw [eg] at h
      -- the list begins
      have S1 := p0.sim
      have b0 : PostL W H1 Z1 Fs1 σ H1 Z1 env1 Fs1 [] [] [] := PostL.start S1
      have b1 := b0.newLst (m := .all) (ws := []) (ds := []) (G := []) (q := D0) nD (fun z => nomatch z) .nil (fun _ z => nomatch z) List.nodup_nil
      have b2 : PostL W H1 Z1 Fs1 σ (upd H1 D0 (.lst [])) (fun a => Z1 a ∨ a = D0) env1 Fs1 [newL true []] [.ref D0] [D0] := by
        have := b0.snoc b1
        exact this
      refine ⟨fun i m H' => i + m = ds.length ∧ ∃ σi Z' env' Fs' F k acc, (∀ j, j ∉ is → σi[j]? = σ[j]?) ∧ σi.length = σ.length ∧ PostL W H1 Z1 Fs1 σi H' Z' env' Fs' [newL k acc] [.ref D0] F ∧ mLcGo n is t mt me (ds.drop i) k acc env' = some (kr, accr, envr), ⟨ds.length, by omega, σ, _, env1, Fs1, [D0], true, [], fun _ _ => rfl, rfl, b2, eg⟩, fun i m H' ⟨him, σi, Z', env', Fs', F, k, acc, hσi, hli, p, eg'⟩ => ?_⟩
      have wσ : ∀ j, j ∉ is → (wipe σ is)[j]? = σi[j]? := fun j hj => by rw [wipe_at, if_neg hj, hσi j hj]
      have wl : (wipe σ is).length = σi.length := by rw [wipe_length, hli]
      by_cases hlt : i < ds.length
      · refine .inr ⟨Y.go i _ _ _ hlt (p.st.less fun _ z => nomatch z), fun H' => ∃ m', m' < m ∧ ((i + 1) + m' = ds.length ∧ ∃ σi Z' env' Fs' F k acc, (∀ j, j ∉ is → σi[j]? = σ[j]?) ∧ σi.length = σ.length ∧ PostL W H1 Z1 Fs1 σi H' Z' env' Fs' [newL k acc] [.ref D0] F ∧ mLcGo n is t mt me (ds.drop (i + 1)) k acc env' = some (kr, accr, envr)), fun H' z => z, fun xv H2 yl => ?_⟩
        obtain ⟨f, oy⟩ := Y.yld i ds[i] _ _ _ xv H2 (List.getElem?_eq_getElem hlt) (p.st.less fun _ z => nomatch z) yl
        have p2 := (p.grow f).wipe (is := is) (σ' := wipe σ is) wσ wl
        rw [List.drop_eq_getElem_cons hlt] at eg'
        unfold mLcGo at eg'
        cases et : mTg (others n is) t (.shr, ds[i]) (wipeE env' is) with
        | none => rw [et] at eg'; cases eg'
        | some env2 =>
          rw [et] at eg'
          dsimp only at eg'
          have pp : PostP W (others n is) (wipe σ is) H1 Z1 Fs1 (wipe σ is) H2 Z' (wipeE env' is) (wipeF Fs' is) [(.shr, ds[i]), newL k acc] [xv, .ref D0] F :=
            ⟨p2.st, p2.sim, .cons (F := []) (x := (.shr, ds[i])) oy p2.own, p2.nd, p2.sub, p2.dis, p2.zd, fun _ _ => rfl⟩
          refine ⟨_, _, _, _, _, _, _, _, _, _, _, pp, env2, et, fun σ2 H3 Fs2 F2 q => ?_⟩
          have l2 : σ2.length = σ.length := by
            have := q.sim.len
            rw [mTg_length t et] at this
            rw [← this]
            unfold wipeE
            rw [List.length_mapIdx, p.sim.len, hli]
          have k2 : ∀ j, j ∉ is → σ2[j]? = σ[j]? := fun j hj => by
            by_cases hjn : j < n
            · rw [q.kp j (mem_others.mpr ⟨hjn, hj⟩), wipe_at, if_neg hj]
            · rw [List.getElem?_eq_none (by omega), List.getElem?_eq_none (by omega)]
          refine ⟨?_, ?_⟩
          · refine List.ext_getElem? fun j => ?_
            rw [wipe_at, wipe_at, l2]
            by_cases hj : j ∈ is
            · rw [if_pos hj, if_pos hj]
            · rw [if_neg hj, if_neg hj, k2 j hj]
          have q1 : PostL W H1 Z1 Fs1 σ2 H3 Z' env2 Fs2 [newL k acc] [.ref D0] F2 := ⟨q.st, q.sim, q.own, q.nd, q.sub, q.dis, q.zd⟩
          refine ⟨Z', env2, Fs2, q.sim, ?_⟩
          cases em : mt env2 with
          | exc c fs e => rw [em] at eg'; cases eg'
          | bad => rw [em] at eg'; cases eg'
          | ok b env3 =>
            rw [em] at eg'
            intro H4 Z4 Fs4 r
            have q2 := q1.append r
            rw [List.append_nil, List.append_nil, List.append_nil] at q2
            cases b with
            | false =>
              rw [if_neg (by decide)]
              exact ⟨m - 1, by omega, by omega, σ2, Z4, env3, Fs4, F2, k, acc, k2, l2, q2, eg'⟩
            | true =>
              rw [if_pos rfl]
              refine ⟨Z4, env3, Fs4, q2.sim, ?_⟩
              dsimp only at eg'
              cases ee : me env3 with
              | exc c fs e => rw [ee] at eg'; cases eg'
              | bad => rw [ee] at eg'; cases eg'
              | ok y env4 =>
                rw [ee] at eg'
                dsimp only at eg'
                intro H5 Z5 Fs5 v Fy r5
                have q3 := q2.snoc r5
                by_cases hl : acc.length < sizeLine
                · rw [if_pos hl] at eg'
                  obtain ⟨ws, h1, h2, Z6, F6, q4⟩ := q3.app
                  exact ⟨ws, h1, by rw [h2]; exact hl, m - 1, by omega, by omega, σ2, Z6, env4, Fs5, F6, _, _, k2, l2, q4, eg'⟩
                · rw [if_neg hl] at eg'; cases eg'
      · have e : i = ds.length := by omega
        subst e
        rw [List.drop_length] at eg'
        simp only [mLcGo, Option.some.injEq, Prod.mk.injEq] at eg'
        obtain ⟨rfl, rfl, rfl⟩ := eg'
        refine .inl ⟨Y.stop _ _ _ (p.st.less fun _ z => nomatch z), ?_⟩
        have p3 := p.wipe (is := is) (σ' := wipe σ is) wσ wl
        have p4 := PostL.rest (is := is) S1 p3 (fun j hj => by rw [wipe_at, if_neg hj]) (wipe_length ..) fun j hj x z => by
          rw [wipeE_at, if_pos hj] at z
          split at z <;> cases z
        have p5 := p0.append p4
        exact h _ _ _ _ _ p5.one
theorem ge_lc {elt tg iter : Expr} {ifs : List Expr} {scope : Scope} {own : List (Str × Nat)} {pos : Pos} {mi : M (List D)} {t : Tg} {mt : M Bool} {me : M Val} {n : Nat} (hc : X.calm = true) (hN : X.N.Nodup) (hn : X.N.length = n) (hi : GI X W tg iter mi) (ok : BlkOk X.N X.env.scope scope own)
    (hg : ∀ s H C cl fp, GG (X.blk s H scope (compEnvC scope cl C X.env) fp) W (others n (own.map (·.2))) tg t) (ht : ∀ s H C cl fp, GTs (X.blk s H scope (compEnvC scope cl C X.env) fp) W ifs mt)
    (he : ∀ s H C cl fp, GE (X.blk s H scope (compEnvC scope cl C X.env) fp) W elt me) (hs : ∀ x, foldedSetIterable iter X.env x = pure x) : GE X W (.ListComp elt [⟨tg, iter, ifs, 0⟩] scope pos) (mLc n (own.map (·.2)) mi t mt me) := fun w tk =>
  ⟨fun pins s0 σ H Q I h => (pe_lc (pos := pos) hc hN (hi w tk) ok hg (fun s H C cl fp => ht s H C cl fp _ takesF) (fun s H C cl fp => he s H C cl fp _ takesF) hs).run pins s0 σ H Q I (lc_read (by rw [I.len, hn]) h)⟩
/-- name = [e for t in it if c] -/
theorem gs_setLc {mp : List Nat} {i : Nat} {y : Str} {py : Pos} {elt tg iter : Expr} {ifs : List Expr} {scope : Scope} {own : List (Str × Nat)} {pos spos : Pos} {mi : M (List D)} {t : Tg} {mt : M Bool} {me : M Val} {n : Nat} (hc : X.calm = true) (hN : X.N.Nodup) (hn : X.N.length = n)
    (hy : X.N[i]? = some y) (hyl : X.env.scope.names.lookup y = some .local) (hsw : swapsWith (.ListComp elt [⟨tg, iter, ifs, 0⟩] scope pos) (some (.Name y py)) spos.line X.env = pure true) (hi : GI X W tg iter mi) (ok : BlkOk X.N X.env.scope scope own)
    (hg : ∀ s H C cl fp, GG (X.blk s H scope (compEnvC scope cl C X.env) fp) W (others n (own.map (·.2))) tg t) (ht : ∀ s H C cl fp, GTs (X.blk s H scope (compEnvC scope cl C X.env) fp) W ifs mt)
    (he : ∀ s H C cl fp, GE (X.blk s H scope (compEnvC scope cl C X.env) fp) W elt me) (hs : ∀ x, foldedSetIterable iter X.env x = pure x) : GS X W mp (.Assign [.Name y py] (.ListComp elt [⟨tg, iter, ifs, 0⟩] scope pos) spos) (mSet mp i (mLc n (own.map (·.2)) mi t mt me)) := fun w tk => by
  refine ⟨fun pins s0 σ H D I h => (ps_setLc (pos := pos) (spos := spos) hc hN hy hyl hsw (hi w tk) ok hg (fun s H C cl fp => ht s H C cl fp _ takesF) (fun s H C cl fp => he s H C cl fp _ takesF) hs).run pins s0 σ H D I ?_⟩
  obtain ⟨Z, env, Fs, S, h⟩ := h
  refine lc_read (by rw [I.len, hn]) (rdE_mono (rs_expr S h) fun v H1 ⟨Z2, env2, Fs2, y, Fy, p, h2⟩ => ?_)
  by_cases c : i ∈ mp
  · rw [if_pos c] at h2; exact h2.elim
  · rw [if_neg c] at h2
    obtain ⟨F, p⟩ := p.nrm1
    obtain ⟨Fs3, p⟩ := p.put c
    exact h2 _ _ _ _ p
end
end BV
set_option maxHeartbeats 2000000
/-! BV21: raise, try .. except .. as e: return (text, e.f). -/
namespace BV
open PySem PySem.Spec PyProof.Rows L2

/-- the promise of an exception's own __init__ that stores its one argument -/
def spI (K : PySem.W.Frag) (f : Str) : Sp := fun vs H Q E => ∃ (a C : Addr) (y : V), vs = [.ref a, y] ∧ OexC K C ∧ PySem.W.findIn K (.ref C) f = some none ∧ H a = some (exo a C none) ∧ ∀ dx, H dx = none → dx ≠ a → Q .non (upd (upd H dx (exd dx [(f, y)])) a (exo a C (some dx)))
theorem init_ok {P : Program} {pw : World} {K : PySem.W.Frag} {mg : Str → Option Value} {base : Heap} {x qual self par f : Str} {params : Arguments} {sc : Scope} {dvs : List V} {kws : List (Str × V)} {fI : Addr} {fd : FuncData} {p1 p2 p3 p4 : Pos} {k : Nat}
    (F : FunD K x qual params [.Assign [.Attribute (.Name self p1) f p2] (.Name par p3) p4] sc dvs kws fI fd) (S : FnScope [self, par] [self, par] sc) (hv1 : Vis sc self) (hv2 : Vis sc par)
    (d1 : (self == ("__debug__" : Str)) = false) (d2 : (self == ("__classdict__" : Str)) = false) (d3 : (par == ("__debug__" : Str)) = false) (d4 : (par == ("__classdict__" : Str)) = false) :
    FnOk P pw K mg base (L2.CX P pw) (k + 1) fI fd [self, par] (spI K f) := by
  refine F.ok S (fun vs H Q E h => ?_) fun cdv A outer s H vs Q E hr h => ?_
  · obtain ⟨a, C, y, rfl, _⟩ := h
    rfl
  · refine ⟨_, pss_one (ps_ost (to := tVar 0) (te := tVar 1) (pe_var rfl hv1 d1 d2) (pe_var rfl hv2 d3 d4)), ?_⟩
    obtain ⟨a, C, y, rfl, T, hf, ha, q⟩ := h
    exact ⟨y, rfl, .ref a, rfl, a, C, rfl, T, hf, .inl ⟨ha, fun dx n ne => q dx n ne⟩⟩
/-- raise C(x): f the one field -/
def mRaise (c f : Str) (ma : M Val) : M Fl := fun env => match ma env with
  | .ok x env' => .exc c [(f, x.2)] env'
  | .exc c fs env' => .exc c fs env'
  | .bad => .bad
section
variable {X : Cx} {W : Wd} {mp : List Nat} {ma : M Val} {e : Expr} {x f : Str} {p pos pos' : Pos}
theorem gs_raise {C fI : Addr} {k : Nat} {fd : FuncData} {ps : List Str} (hK : W.K = X.K) (hmg : W.mg = X.mg) (hc : X.calm = true) (T : OexC X.K C) (iC : PySem.W.findIn X.K (.ref C) "__init__" = some (some (.ref fI))) (tI : PySem.W.typeIn X.K (.ref fI) = some (.type "function"))
    (F1 : FnOk X.prog X.w X.K X.mg X.base (L2.CX X.prog X.w) k fI fd ps (spI X.K f)) (hr : Room (k + 1) X.A) (hb : Binds X.K fd ps []) (hf : PySem.W.findIn X.K (.ref C) f = some none) (hg : Gl X x) (hm : X.mg x = some (.ref C)) (ha : GE X W e ma)
    (hdb : (x == ("__debug__" : Str)) = false) (hs : starEach [e] X.env = [(false, eval e X.env)]) : GS X W mp (.Raise (some (.Call (.Name x p) [e] [] pos)) none pos') (mRaise x f ma) := fun w tk => by
  have pa : PA X [e] (tCons (rdE W w ma) tNil) := pa_cons (ha w tk) pa_nil (by rw [hs]; rfl)
  refine ps_imp (ps_raise hc tk (pmk_oex (CX := L2.CX X.prog X.w) T iC tI F1 hr hb .nil (passes_call takesF fun _ _ _ _ h => h) hg hm pa hdb hs rfl)) fun D σ H h => ?_
  obtain ⟨Z, env, Fs, S, h⟩ := h
  show rdE W w ma σ H _
  refine ⟨Z, env, Fs, S, ?_⟩
  unfold mRaise at h
  cases ea : ma env with
  | exc c fs e2 =>
    rw [ea] at h
    exact fun H' Z' Fs' cls dd q => h _ _ _ _ _ _ q.toS
  | bad => rw [ea] at h; exact h
  | ok y e2 =>
    rw [ea] at h
    intro H1 Z1 Fs1 v Fx q
    show (1 ≤ 1000 ∧ _)
    refine ⟨by decide, fun a na => ?_⟩
    refine ⟨a, C, v, rfl, T, hf, upd_same, fun dx ndx hda => ?_⟩
    rw [upd_ne hda] at ndx
    refine ⟨rfl, dx, [(f, v)], upd_same, by rw [upd_ne hda, upd_same], ndx, ?_⟩
    have eH : upd (del (upd (upd (upd H1 a (exo a C none)) dx (exd dx [(f, v)])) a (exo a C (some dx))) a) dx (.xd [(f, v)]) = upd H1 dx (.xd [(f, v)]) := by
      funext b
      by_cases e1 : b = dx
      · rw [e1, upd_same, upd_same]
      · rw [upd_ne e1, upd_ne e1]
        by_cases e2 : b = a
        · rw [e2, del_same, na]
        · rw [del_ne e2, upd_ne e2, upd_ne e1, upd_ne e2]
    rw [eH]
    have q1 : PostL W H Z Fs σ H1 Z1 e2 Fs1 [y] [v] Fx := by simpa using (PostL.start S).snoc q
    obtain ⟨Z2, q2⟩ := q1.shr
    have g : Fr W (fun _ => False) H1 (upd H1 dx (.xd [(f, v)])) := Fr.new ndx
    have q3 := q2.grow g
    refine h σ _ Z2 Fs1 _ _ ⟨⟨q3.st, q3.sim, ⟨C, by rw [hmg]; exact hm, rfl⟩, .inr ⟨dx, [v], rfl, upd_same, rfl, ?_⟩⟩, fun _ _ => rfl⟩
    have o := q3.own.inv1
    simpa using Owns.cons o .nil

/-- try: body, except C as e: return (s, e.f) -/
def mTryAs (hx : Str → Option Bool) (i : Nat) (s f : Str) (mb : M Fl) : M Fl := fun env => match mb env with
  | .ok fl env' => .ok fl env'
  | .exc c fs env' => (match hx c with
    | some true => (match fs.lookup f with
      | some d => if i < env'.length then .ok (.rt (mkTup [(.all, .str s), frzV (.shr, d)])) env' else .bad
      | none => .bad)
    | some false => .exc c fs env'
    | none => .bad)
  | .bad => .bad
theorem Owns.consD {W : Wd} {H : Hp} {P : Addr → Prop} {m : Mode} {d : D} {ds : List D} {vs : List V} {F : List Addr} (o : Owns W H P m vs (d :: ds) F) : ∃ v vr F1 F2, vs = v :: vr ∧ F = F1 ++ F2 ∧ Own W H P m v d F1 ∧ Owns W H P m vr ds F2 := by
  cases o with
  | cons h t => exact ⟨_, _, _, _, rfl, rfl, h, t⟩
theorem lookup_zip {H : Hp} {P : Addr → Prop} {f : Str} {d : D} : ∀ {fs : List (Str × D)} {vs : List V}, Owns W H P .shr vs (fs.map (·.2)) [] → fs.lookup f = some d → ∃ v : V, ((fs.map (·.1)).zip vs).lookup f = some v ∧ Own W H P .shr v d []
  | [], _, _, h => by cases h
  | (g, d0) :: fs, vs, o, h => by
    obtain ⟨v, vr, F1, F2, rfl, eF, oo, t⟩ := o.consD
    have e1 := oo.shr_nil
    have e2 := t.shr_nil
    subst e1 e2
    simp only [List.lookup] at h
    simp only [List.map_cons, List.zip_cons_cons, List.lookup]
    by_cases c : (f == g) = true
    · rw [c] at h ⊢
      cases h
      exact ⟨v, rfl, oo⟩
    · rw [Bool.eq_false_iff.mpr c] at h ⊢
      exact lookup_zip t h
theorem gs_try_as {C : Addr} {n s : Str} {i : Nat} {body : List Stmt} {mb : M Fl} {hx : Str → Option Bool} {np hp rp tp p1 p2 p3 : Pos} {k1 k2 : Nat} (hK : W.K = X.K) (hmg : W.mg = X.mg) (hs : X.stack = X.env :: X.outer) (hfr : X.env.frame = some X.env.locals) (hN : X.N.Nodup) (hi : X.N[i]? = some n) (hln : X.env.kindOf n = some .local)
    (hc : Names X x (.ref C)) (hv : Vis X.env.scope n) (dn : (n == ("__debug__" : Str)) = false) (dn2 : (n == ("__classdict__" : Str)) = false) (T : XfC X.K C) (hno : PySem.W.findIn X.K (.ref C) f = some none) (hit : ∀ (c : Str) (C' : Addr) (b : Bool), hx c = some b → X.mg c = some (.ref C') → PySem.W.exmOne X.K (.ref C') (.ref C) = some b ∧ (b = true → C' = C))
    (hat : attributeBase (.Name n p2) f X.env (eval (.Name n p2) X.env) = eval (.Name n p2) X.env)
    (hb : ∀ pn xe, PassesOwn (model X.prog X.w) X.A X.env xe → GB (X.tr pn xe) W mp body mb) :
    GS X W mp (.Try body [.ExceptHandler (some (.Name x np)) (some n) [.Return (some (.Tuple [.Constant (.str s) k1 p1, .Attribute (.Name n p2) f p3] k2 tp)) rp] hp] [] [] pos) (mTryAs hx i s f mb) := fun w tk => by
  have suite : ∀ (a : Addr) (oe : Obj) (cls : Value) (d : Option Addr) (pn : List (Addr × Obj)), Zc cls d oe → (∃ vs, oe.data = .fields vs) → PSs (X.suite a ((a, oe) :: pn)) [.Return (some (.Tuple [.Constant (.str s) k1 p1, .Attribute (.Name n p2) f p3] k2 tp)) rp] (tRet (tTup (tCons (tC (.str s)) (tCons (tXf a cls d C f (tVar i)) tNil)))) :=
    fun a oe cls d pn hz hd => pss_one (ps_ret (pe_tup (pa_cons pe_str (pa_cons (pe_xf (n := f) T hno hz hd (pe_var (i := i) hi hv dn dn2) hat) pa_nil))))
  refine ps_imp (ps_try_as hs hfr hN hi hln hc tk (tb := fun W' => rdS W W' mp mb) (fun W' pn xe tk' po => hb pn xe po W' tk') suite) fun D σ H h => ?_
  obtain ⟨Z, env, Fs, S, h⟩ := h
  refine ⟨Z, env, Fs, S, ?_⟩
  unfold mTryAs at h
  cases eb : mb env with
  | bad => rw [eb] at h; exact h
  | ok fl e2 =>
    rw [eb] at h
    exact h
  | exc c fs e2 =>
    rw [eb] at h
    intro σ' H' Z' Fs' cls dd q
    dsimp only at h
    obtain ⟨C', m', rfl⟩ := q.px.cls
    cases ex : hx c with
    | none => rw [ex] at h; exact h.elim
    | some b =>
      rw [ex] at h
      obtain ⟨em, ec⟩ := hit c C' b ex (by rw [← hmg]; exact m')
      refine ⟨b, em, fun hb a na => ?_, fun hb => ?_⟩
      · subst hb
        have := ec rfl
        subst this
        dsimp only at h
        cases el : fs.lookup f with
        | none => rw [el] at h; exact h.elim
        | some d =>
          rw [el] at h
          dsimp only at h
          by_cases hl : i < e2.length
          · rw [if_pos hl] at h
            rcases q.px.fld with ⟨_, e0⟩ | ⟨dx, vs, rfl, hdx, _, ow⟩
            · rw [e0] at el; cases el
            obtain ⟨v, lv, ov⟩ := lookup_zip ow el
            have hi' : (σ'.set i (some (V.ref a)))[i]? = some (some (V.ref a)) := List.getElem?_set_self (by rw [← q.px.sim.len]; exact hl)
            refine ⟨.ref a, hi', rfl, rfl, dx, _, v, rfl, hdx, lv, ?_⟩
            refine ⟨by show (2 : Nat) ≤ sizeLine; exact Nat.le_of_lt (small1000 (by decide)), fun q0 nq => ?_⟩
            have p : PostL W H Z Fs σ' H' Z' e2 Fs' [(.all, .str s), frzV (.shr, d)] [.str s, v] [] :=
              ⟨q.px.st, q.px.sim, .cons (F := []) (x := (.all, .str s)) (.str s) (.cons (F := []) (Own.frzV (x := (.shr, d)) (fun _ n _ => n) ov fun _ z => (nomatch z)) .nil), List.nodup_nil, fun _ z => (nomatch z), fun _ z => (nomatch z), S.zdom⟩
            exact p.tup (w := w) (Q := D.rt) nq fun H3 Z3 Fs3 v3 F3 r => h _ _ _ _ _ _ ⟨r.st, r.sim, r.pd, q.kp⟩
          · rw [if_neg hl] at h; exact h.elim
      · subst hb
        exact h _ _ _ _ _ _ q
end
end BV
set_option maxHeartbeats 2000000
/-! BV22: in, not in; slices. -/
namespace BV
open PySem PySem.Spec PyProof.Rows L2

/-! ### in -/
abbrev rInS1 : R2 := fun x y H Q => ∃ (c : Nat) (z : Str), x = .str ⟨#[c]⟩ ∧ y = .str z ∧ Q (.bl (decide (c ∈ z.cps.toList))) H
abbrev rNotInS1 : R2 := fun x y H Q => ∃ (c : Nat) (z : Str), x = .str ⟨#[c]⟩ ∧ y = .str z ∧ Q (.bl (!decide (c ∈ z.cps.toList))) H
def D.flat : D → Option V
  | .non => some .non
  | .bl b => some (.bl b)
  | .int i => some (.int i)
  | .str x => some (.str x)
  | _ => none
def flats : List D → Option (List V)
  | [] => some []
  | d :: ds => match d.flat, flats ds with
    | some v, some vs => some (v :: vs)
    | _, _ => none
section
variable {W : Wd} {H : Hp} {P : Addr → Prop} {m : Mode}
theorem Own.flat {v v' : V} {d : D} {F : List Addr} (o : Own W H P m v d F) (h : d.flat = some v') : v = v' ∧ flatV v' = true := by
  cases o <;> simp only [D.flat, Option.some.injEq] at h <;> first | (subst h; exact ⟨rfl, rfl⟩) | cases h
theorem Owns.flats : ∀ {vs vs' : List V} {ds : List D} {F : List Addr}, Owns W H P m vs ds F → BV.flats ds = some vs' → vs = vs' ∧ vs'.all flatV = true
  | _, _, _, _, .nil, h => by simp only [BV.flats, Option.some.injEq] at h; subst h; exact ⟨rfl, rfl⟩
  | _, _, _, _, .cons (d := d) (ds := ds) o t, h => by
    simp only [BV.flats] at h
    split at h
    · rename_i k ks e1 e2
      simp only [Option.some.injEq] at h
      subst h
      obtain ⟨a1, a2⟩ := o.flat e1
      obtain ⟨b1, b2⟩ := Owns.flats t e2
      exact ⟨by rw [a1, b1], by simp [a2, b2]⟩
    · cases h
end
def gInL (neg : Bool) (x y : D) : Option D := match y with
  | .lst _ => (match pyS x, pyS y with
    | some p, some (.list qs) => some (.bl (if neg then !qs.any (fun z => PyData.eqv z p) else qs.any fun z => PyData.eqv z p))
    | _, _ => none)
  | _ => none
def gInT (neg : Bool) (x y : D) : Option D := match y with
  | .tup ds => (match x.flat, flats ds with
    | some a, some bs => some (.bl (if neg then !inV a bs else inV a bs))
    | _, _ => none)
  | _ => none
def gInS (neg : Bool) (x y : D) : Option D := match x, y with
  | .str a, .str z => (match a.cps.toList with
    | [c] => some (.bl (if neg then !decide (c ∈ z.cps.toList) else decide (c ∈ z.cps.toList)))
    | _ => none)
  | _, _ => none
def gIn : D → D → Option D := gOr gDIn (gOr (gInL false) (gOr (gInT false) (gInS false)))
def gNotIn : D → D → Option D := gOr gDNotIn (gOr (gInL true) (gOr (gInT true) (gInS true)))
section
variable {W : Wd} {X : Cx}
theorem says_inL : Says W (rInD W.K) (gInL false) := by
  intro x y d H P v u F G Q e o1 o2 k
  obtain ⟨m1, x⟩ := x
  obtain ⟨m2, y⟩ := y
  unfold gInL at e
  dsimp only at e o1 o2
  split at e
  · rename_i ds
    split at e
    · rename_i p qs e1 e2
      simp only [Option.some.injEq] at e
      subst e
      obtain ⟨a1, a2⟩ := pyS_inv e1
      obtain ⟨b1, b2⟩ := pyS_inv e2
      exact ⟨p, qs, o1.dp a1, o2.dp b1, a2, b2, k _ fun _ => .bl _⟩
    · cases e
  · cases e
theorem says_notInL : Says W (rNotInD W.K) (gInL true) := by
  intro x y d H P v u F G Q e o1 o2 k
  obtain ⟨m1, x⟩ := x
  obtain ⟨m2, y⟩ := y
  unfold gInL at e
  dsimp only at e o1 o2
  split at e
  · rename_i ds
    split at e
    · rename_i p qs e1 e2
      simp only [Option.some.injEq] at e
      subst e
      obtain ⟨a1, a2⟩ := pyS_inv e1
      obtain ⟨b1, b2⟩ := pyS_inv e2
      exact ⟨p, qs, o1.dp a1, o2.dp b1, a2, b2, k _ fun _ => .bl _⟩
    · cases e
  · cases e
theorem says_inT {neg : Bool} : Says W (rIn W.K neg) (gInT neg) := by
  intro x y d H P v u F G Q e o1 o2 k
  obtain ⟨m1, x⟩ := x
  obtain ⟨m2, y⟩ := y
  unfold gInT at e
  dsimp only at e o1 o2
  split at e
  · rename_i ds
    split at e
    · rename_i a bs e1 e2
      simp only [Option.some.injEq] at e
      subst e
      obtain ⟨q, ws, rfl, hq, hs⟩ := o2.tup_inv
      obtain ⟨rfl, c2⟩ := o1.flat e1
      obtain ⟨rfl, d2⟩ := hs.flats e2
      exact ⟨q, _, rfl, .inr (SqT.of hq), c2, d2, k _ fun _ => .bl _⟩
    · cases e
  · cases e
theorem str_one {a : Str} {c : Nat} (h : a.cps.toList = [c]) : a = ⟨#[c]⟩ := by
  cases a with
  | mk cps =>
    cases cps with
    | mk l => cases h; rfl
theorem says_inS : Says W rInS1 (gInS false) := by
  intro x y d H P v u F G Q e o1 o2 k
  obtain ⟨m1, x⟩ := x
  obtain ⟨m2, y⟩ := y
  unfold gInS at e
  dsimp only at e o1 o2
  split at e
  · rename_i a z
    split at e
    · rename_i c ec
      simp only [Option.some.injEq] at e
      subst e
      have e1 := o1.str_inv
      have e2 := o2.str_inv
      subst e1 e2
      exact ⟨c, z, by rw [str_one ec], rfl, k _ fun _ => .bl _⟩
    · cases e
  · cases e
theorem says_notInS : Says W rNotInS1 (gInS true) := by
  intro x y d H P v u F G Q e o1 o2 k
  obtain ⟨m1, x⟩ := x
  obtain ⟨m2, y⟩ := y
  unfold gInS at e
  dsimp only at e o1 o2
  split at e
  · rename_i a z
    split at e
    · rename_i c ec
      simp only [Option.some.injEq] at e
      subst e
      have e1 := o1.str_inv
      have e2 := o2.str_inv
      subst e1 e2
      exact ⟨c, z, by rw [str_one ec], rfl, k _ fun _ => .bl _⟩
    · cases e
  · cases e
theorem op_din (hu : X.A.units + 1 < cLine) : OpR X (compareOp .In) rDIn := by
  intro pins s σ H x y v u Q I rx ry h
  obtain ⟨a, o, rfl, g, q⟩ := h
  cases ry
  exact d_in hu I g rx fun s3 I3 => ⟨.bl o.isSome, H, I3, rfl, q⟩
theorem op_dnotin (hu : X.A.units + 1 < cLine) : OpR X (compareOp .NotIn) rDNotIn := by
  intro pins s σ H x y v u Q I rx ry h
  obtain ⟨a, o, rfl, g, q⟩ := h
  cases ry
  exact d_notIn hu I g rx fun s3 I3 => ⟨.bl (!o.isSome), H, I3, rfl, q⟩
variable {a b : Expr} {pos : Pos} {ma mb : M Val}
theorem ge_in (hK : W.K = X.K) (hu : X.A.units + 65 < cLine) (hm : behindInMarks .In b = false) (ha : GE X W a ma) (hb : GE X W b mb) : GE X W (.Compare a [.In] [b] pos) (mOp2 gIn ma mb) :=
  ge_cmp ((op_din (by omega)).or (OpR.or (by rw [hK]; exact op_inD hu) (OpR.or (by rw [hK]; exact op_in_seq) op_in_sign))) (says_din.or (says_inL.or (says_inT.or says_inS))) hm ha hb
theorem ge_notin (hK : W.K = X.K) (hu : X.A.units + 65 < cLine) (hm : behindInMarks .NotIn b = false) (ha : GE X W a ma) (hb : GE X W b mb) : GE X W (.Compare a [.NotIn] [b] pos) (mOp2 gNotIn ma mb) :=
  ge_cmp ((op_dnotin (by omega)).or (OpR.or (by rw [hK]; exact op_notInD hu) (OpR.or (by rw [hK]; exact op_notIn_seq) op_notIn_sign))) (says_dnotin.or (says_notInL.or (says_inT.or says_notInS))) hm ha hb
theorem gt_in (hK : W.K = X.K) (hu : X.A.units + 65 < cLine) (hm : behindInMarks .In b = false) (ha : GE X W a ma) (hb : GE X W b mb) : GT X W (.Compare a [.In] [b] pos) (mBl (mOp2 gIn ma mb)) :=
  gt_cmp ((op_din (by omega)).or (OpR.or (by rw [hK]; exact op_inD hu) (OpR.or (by rw [hK]; exact op_in_seq) op_in_sign))) (says_din.or (says_inL.or (says_inT.or says_inS))) hm ha hb
theorem gt_notin (hK : W.K = X.K) (hu : X.A.units + 65 < cLine) (hm : behindInMarks .NotIn b = false) (ha : GE X W a ma) (hb : GE X W b mb) : GT X W (.Compare a [.NotIn] [b] pos) (mBl (mOp2 gNotIn ma mb)) :=
  gt_cmp ((op_dnotin (by omega)).or (OpR.or (by rw [hK]; exact op_notInD hu) (OpR.or (by rw [hK]; exact op_notIn_seq) op_notIn_sign))) (says_dnotin.or (says_notInL.or (says_inT.or says_notInS))) hm ha hb
/-- in a constant tuple of the module -/
def gInC (neg : Bool) (bs : List V) (x : D) : Option D := x.flat.map fun a => .bl (if neg then !inV a bs else inV a bs)
def mOp1' (g : D → Option D) (ma : M Val) : M Val := ma.bind fun x => match g x.2 with
  | some d => M.pure (.all, d)
  | none => M.bad
theorem ge_inC {c : Str} {cp : Pos} {q : Addr} {bs : List V} (hg : Gl X c) (hm : X.mg c = some (.ref q)) (hq : ∀ H, SqT X.K H q bs) (hf : bs.all flatV = true) (hd : (c == ("__debug__" : Str)) = false) (ha : GE X W a ma) :
    GE X W (.Compare a [.In] [.Name c cp] pos) (mOp1' (gInC false bs) ma) := fun w tk => by
  refine pe_imp (pe_cmpR op_in_seq (ha w tk) (pe_glob (v := .ref q) hg hm rfl hd) rfl) fun σ H Q h => ?_
  refine rdE_mono (rd_first h) fun v H1 ⟨Z, Fs, Z2, env2, Fs2, x, Fx, p, h2⟩ => ?_
  cases eg : gInC false bs x.2 with
  | none => rw [eg] at h2; exact h2.elim
  | some d =>
    rw [eg] at h2
    obtain ⟨a, ea, rfl⟩ := Option.map_eq_some_iff.mp eg
    obtain ⟨rfl, fa⟩ := p.own.inv1.flat ea
    exact ⟨q, bs, rfl, .inr (hq H1), fa, hf, p.fin h2 fun _ => .bl _⟩
theorem ge_notinC {c : Str} {cp : Pos} {q : Addr} {bs : List V} (hg : Gl X c) (hm : X.mg c = some (.ref q)) (hq : ∀ H, SqT X.K H q bs) (hf : bs.all flatV = true) (hd : (c == ("__debug__" : Str)) = false) (ha : GE X W a ma) :
    GE X W (.Compare a [.NotIn] [.Name c cp] pos) (mOp1' (gInC true bs) ma) := fun w tk => by
  refine pe_imp (pe_cmpR op_notIn_seq (ha w tk) (pe_glob (v := .ref q) hg hm rfl hd) rfl) fun σ H Q h => ?_
  refine rdE_mono (rd_first h) fun v H1 ⟨Z, Fs, Z2, env2, Fs2, x, Fx, p, h2⟩ => ?_
  cases eg : gInC true bs x.2 with
  | none => rw [eg] at h2; exact h2.elim
  | some d =>
    rw [eg] at h2
    obtain ⟨a, ea, rfl⟩ := Option.map_eq_some_iff.mp eg
    obtain ⟨rfl, fa⟩ := p.own.inv1.flat ea
    exact ⟨q, bs, rfl, .inr (hq H1), fa, hf, p.fin h2 fun _ => .bl _⟩
/-- a constant of the module -/
theorem ge_gcon {c : Str} {cp : Pos} {v : V} {u : Value} {d : D} (hg : Gl X c) (hm : X.mg c = some u) (hr : RelV v u) (ho : ∀ H P, Own W H P .all v d []) (hd : (c == ("__debug__" : Str)) = false) : GE X W (.Name c cp) (mC d) := fun w _ => pe_imp (pe_glob hg hm hr hd) (rd_const ho)
theorem ge_gfun {c : Str} {cp : Pos} {f : Addr} (hmg : W.mg = X.mg) (hg : Gl X c) (hm : X.mg c = some (.ref f)) (hd : (c == ("__debug__" : Str)) = false) : GE X W (.Name c cp) (mC (.glo c)) :=
  ge_gcon (v := .ref f) hg hm rfl (fun H P => .glo (by rw [hmg]; exact hm)) hd
end

/-! ### slices -/
section
variable {W : Wd} {w : WX} {σ : L2.St} {H H1 H2 : Hp} {Z Z1 Z2 : Addr → Prop} {Fs Fs1 Fs2 : Nat → List Addr} {env env1 : Env} {xs ys : List Val} {vs us : List V} {F G Fx : List Addr} {x : Val} {v : V} {Q : VK}
def FinO (W : Wd) (w : WX) (σ : L2.St) (H : Hp) (Z : Addr → Prop) (Fs : Nat → List Addr) (o : Out (Option Int)) (Q : Option Int → Hp → Prop) : Prop := match o with
  | .ok b env' => ∀ H' Z' Fs', PostL W H Z Fs σ H' Z' env' Fs' [] [] [] → Q b H'
  | .exc c fs env' => ∀ H' Z' Fs' cls dd, PostX W H Z Fs σ H' Z' env' Fs' c fs cls dd → w cls dd σ H'
  | .bad => False
def rdO (W : Wd) (w : WX) (m : M (Option Int)) : TO := fun σ H Q => ∃ Z env Fs, Sim W H Z σ env Fs ∧ FinO W w σ H Z Fs (m env) Q
def GO (X : Cx) (W : Wd) (e : Option Expr) (m : M (Option Int)) : Prop := ∀ w, Takes X w → PO X e (rdO W w m)
theorem po_imp {X : Cx} {e : Option Expr} {t t' : TO} (p : PO X e t) (h : ∀ σ H Q, t' σ H Q → t σ H Q) : PO X e t' := ⟨fun pins s σ H Q I k => p.run pins s σ H Q I (h σ H Q k)⟩
def mNoPart : M (Option Int) := M.pure none
def mPart (ma : M Val) : M (Option Int) := ma.bind fun x => match x.2 with
  | .int i => M.pure (some i)
  | _ => M.bad
theorem go_none {X : Cx} : GO X W none mNoPart := fun w _ => po_imp po_none fun σ H Q ⟨Z, env, Fs, S, h⟩ => h H Z Fs (PostL.start S)
theorem go_some {X : Cx} {e : Expr} {ma : M Val} (he : GE X W e ma) : GO X W (some e) (mPart ma) := fun w tk => po_imp (po_some (he w tk)) fun σ H Q ⟨Z, env, Fs, S, h⟩ => by
  refine ⟨Z, env, Fs, S, ?_⟩
  have h : FinO W w σ H Z Fs ((ma env).bind fun x => match x.2 with
    | .int i => M.pure (some i)
    | _ => M.bad) Q := h
  cases ea : ma env with
  | exc c fs e2 => rw [ea] at h; exact h
  | bad => rw [ea] at h; exact h
  | ok x e1 =>
    rw [ea] at h
    obtain ⟨m, d⟩ := x
    cases d with
    | int i =>
      intro H1 Z1 Fs1 v Fx q
      have := q.pd.own.int_inv
      have q1 := ((PostL.start S).snoc q).drop
      exact ⟨i, this, h H1 Z1 Fs1 q1⟩
    | _ => exact h.elim
/-- a part, then more -/
theorem rd_part {mo : M (Option Int)} {k : Option Int → M Val} (p : PostL W H Z Fs σ H1 Z1 env Fs1 xs vs F) (h : Fin W w σ H Z Fs ((mo.bind k) env) Q) :
    rdO W w mo σ H1 fun o H2 => ∃ Z2 env2 Fs2, PostL W H Z Fs σ H2 Z2 env2 Fs2 xs vs F ∧ Fin W w σ H Z Fs (k o env2) Q := by
  refine ⟨Z1, env, Fs1, p.sim, ?_⟩
  have h : Fin W w σ H Z Fs ((mo env).bind k) Q := h
  cases e : mo env with
  | ok y e2 =>
    rw [e] at h
    intro H' Z' Fs' q
    have := p.append q
    simp only [List.append_nil] at this
    exact ⟨Z', e2, Fs', this, h⟩
  | exc c fs e2 =>
    rw [e] at h
    exact fun H' Z' Fs' cls dd q => h H' Z' Fs' cls dd (p.raise q)
  | bad => rw [e] at h; exact h
theorem rdO_mono {mo : M (Option Int)} {Q Q' : Option Int → Hp → Prop} (h : rdO W w mo σ H Q) (hQ : ∀ o H, Q o H → Q' o H) : rdO W w mo σ H Q' := by
  obtain ⟨Z, env, Fs, S, h⟩ := h
  refine ⟨Z, env, Fs, S, ?_⟩
  cases e : mo env with
  | ok y e2 => rw [e] at h; exact fun H' Z' Fs' q => hQ _ _ (h H' Z' Fs' q)
  | exc c fs e2 => rw [e] at h; exact h
  | bad => rw [e] at h; exact h
def cutD (ds : List D) (lo hi : Option Int) : List D := (ds.drop (HT.sIx ds.length 0 lo)).take (HT.sIx ds.length ds.length hi - HT.sIx ds.length 0 lo)
theorem Owns.cut {P : Addr → Prop} {m : Mode} {ds : List D} {lo hi : Option Int} (o : Owns W H P m vs ds F) : ∃ G, Owns W H P m (cutV vs lo hi) (cutD ds lo hi) G ∧ (∀ a ∈ G, a ∈ F) ∧ (F.Nodup → G.Nodup) := by
  obtain ⟨G1, a1, b1, c1⟩ := o.drop (HT.sIx ds.length 0 lo)
  obtain ⟨G2, a2, b2, c2⟩ := a1.take (HT.sIx ds.length ds.length hi - HT.sIx ds.length 0 lo)
  refine ⟨G2, ?_, fun a ha => b1 a (b2 a ha), fun n => c2 (c1 n)⟩
  unfold cutV cutD
  rw [o.length]
  exact a2
def gSlice (x : Val) (lo hi : Option Int) : Option Val := match x.2 with
  | .lst ds => some (newL (x.1 == .all) (cutD ds lo hi))
  | .tup ds => some (newT (x.1 == .all) (cutD ds lo hi))
  | .str z => if z.length ≤ sizeLine then some (.all, .str (cutS z lo hi)) else none
  | _ => none
def mSlice (ma : M Val) (ml mh : M (Option Int)) : M Val := ma.bind fun x => ml.bind fun lo => mh.bind fun hi => match gSlice x lo hi with
  | some z => M.pure z
  | none => M.bad
end
section
variable {X : Cx} {W : Wd} {e : Expr} {lo hi : Option Expr} {ma : M Val} {ml mh : M (Option Int)} {p2 pos : Pos}
theorem ge_slice (hK : W.K = X.K) (he : GE X W e ma) (hl : GO X W lo ml) (hh : GO X W hi mh) : GE X W (.Subscript e (.Slice lo hi none p2) pos) (mSlice ma ml mh) := fun w tk => by
  refine pe_imp (pe_slice (sl_list.or (sl_tupA.or sl_str)) (he w tk) (hl w tk) (hh w tk)) fun σ H Q h => ?_
  rw [← hK]
  refine rdE_mono (rd_first h) fun v H1 ⟨Z, Fs, Z2, env2, Fs2, x, Fx, p, h2⟩ => ?_
  refine rdO_mono (rd_part p h2) fun o1 H2 ⟨Z3, env3, Fs3, p3, h3⟩ => ?_
  refine rdO_mono (rd_part p3 h3) fun o2 H3 ⟨Z4, env4, Fs4, p4, h4⟩ => ?_
  cases eg : gSlice x o1 o2 with
  | none => rw [eg] at h4; exact h4.elim
  | some z =>
    rw [eg] at h4
    obtain ⟨m, d⟩ := x
    have o := p4.own.inv1
    dsimp only at o
    cases d with
    | lst ds =>
      simp only [gSlice, Option.some.injEq] at eg
      subst eg
      obtain ⟨a, ws, G, rfl, ha, hs, hG, hn⟩ := o.lst_inv
      obtain ⟨G2, os, b2, n2⟩ := hs.cut (lo := o1) (hi := o2)
      exact .inl ⟨a, ws, rfl, SqL.of ha, fun q n => p4.layL n os (fun k => by rw [beq_all k]; rfl) (fun c hc => hG c (b2 c hc)) (n2 (hn p4.nd)) h4⟩
    | tup ds =>
      simp only [gSlice, Option.some.injEq] at eg
      subst eg
      obtain ⟨a, ws, rfl, ha, hs⟩ := o.tup_inv
      obtain ⟨G2, os, b2, n2⟩ := hs.cut (lo := o1) (hi := o2)
      refine .inr (.inl ⟨a, ws, rfl, SqT.of ha, fun ⟨w1, w2⟩ => ?_, fun _ q n => p4.layT n os (fun k => beq_all k) b2 (n2 p4.nd) h4⟩)
      have : cutD ds o1 o2 = ds := by
        unfold cutD
        rw [hs.length] at w1 w2
        rw [w1, w2]
        simp
      rw [this] at h4
      exact p4.reT o (fun k => beq_all k) (fun _ z => z) p4.nd h4
    | str z =>
      simp only [gSlice] at eg
      split at eg
      · rename_i c
        simp only [Option.some.injEq] at eg
        subst eg
        have := o.str_inv
        subst this
        exact .inr (.inr ⟨_, rfl, c, p4.fin h4 fun _ => .str _⟩)
      · cases eg
    | _ => simp only [gSlice] at eg; cases eg
/-- xs[::-1] -/
def mRev (ma : M Val) : M Val := ma.bind fun x => match x.2 with
  | .lst ds => M.pure (newL (x.1 == .all) ds.reverse)
  | _ => M.bad
theorem Owns.rev {H : Hp} {P : Addr → Prop} {m : Mode} : ∀ {vs : List V} {ds : List D} {F : List Addr}, Owns W H P m vs ds F → ∃ G, Owns W H P m vs.reverse ds.reverse G ∧ (∀ a ∈ G, a ∈ F) ∧ (F.Nodup → G.Nodup)
  | _, _, _, .nil => ⟨[], .nil, fun _ z => z, id⟩
  | _, _, _, .cons (F := F) o t => by
    obtain ⟨G, a, b, c⟩ := Owns.rev t
    refine ⟨G ++ F, by rw [List.reverse_cons, List.reverse_cons]; exact Owns.append (by simpa using Owns.cons o .nil) a, fun x hx => ?_, fun n => ?_⟩
    · rcases List.mem_append.mp hx with h | h
      · exact List.mem_append_right _ (b x h)
      · exact List.mem_append_left _ h
    · obtain ⟨n1, n2, n3⟩ := List.nodup_append.mp n
      exact List.nodup_append.mpr ⟨c n2, n1, fun x hx y hy e => n3 y hy x (b x hx) e.symm⟩
theorem ge_rev {k : Nat} {p1 p3 p4 : Pos} (hK : W.K = X.K) (he : GE X W e ma) : GE X W (.Subscript e (.Slice none none (some (.UnaryOp .USub (.Constant (.int 1) k p1) p3)) p4) pos) (mRev ma) := fun w tk => by
  refine pe_imp (pe_revL (he w tk)) fun σ H Q h => ?_
  refine rdE_mono (rd_first h) fun v H1 ⟨Z, Fs, Z2, env2, Fs2, x, Fx, p, h2⟩ => ?_
  obtain ⟨m, d⟩ := x
  have o := p.own.inv1
  dsimp only at h2 o
  cases d with
  | lst ds =>
    obtain ⟨a, ws, G, rfl, ha, hs, hG, hn⟩ := o.lst_inv
    obtain ⟨G2, os, b2, n2⟩ := hs.rev
    exact ⟨a, ws, rfl, SqL.of ha, fun q n => p.layL n os (fun k => by rw [beq_all k]; rfl) (fun c hc => hG c (b2 c hc)) (n2 (hn p.nd)) h2⟩
  | _ => exact h2.elim
end
end BV
set_option maxHeartbeats 2000000
/-! BV23: stores xs[k] = v, d[k] = v into what a slot owns. -/
namespace BV
open PySem PySem.Spec PyProof.Rows L2

/-- a changed object that owns items ds: wholly owned if k -/
def newO (k : Bool) (ds : List D) (d : D) : Val := if k || immAll ds then (.all, d) else (.top, d)
section
variable {W : Wd} {w : WX} {mp : List Nat} {σ : L2.St} {H H1 H2 : Hp} {Z Z1 Z2 : Addr → Prop} {Fs Fs1 Fs2 : Nat → List Addr} {env env1 : Env} {xs ys : List Val} {vs us : List V} {F F' G Fx Fy : List Addr} {x x' y : Val} {v v' u : V} {Q : VK} {i : Nat} {a : Addr}
/-- an object in slot i gets new items -/
theorem PostL.wrObj {d' : D} {ds' : List D} {ws' : List V} {o o' : HO} {Gn : List Addr} {k : Bool} (p : PostL W H Z Fs σ H1 Z1 env Fs1 xs vs F) (hσ : σ[i]? = some (some (.ref a))) (h1 : H1 a = some o) (hf : ¬ Fixed o) (ht : ¬ Tbl o) (hF : Fs1 i = a :: G)
    (mk : ∀ m P Gx, m ≠ .shr → Owns W (upd H1 a o') P m.pred ws' ds' Gx → Own W (upd H1 a o') P m (.ref a) d' (a :: Gx))
    (oA : k = true → Owns W H1 (fun a => ¬ Z1 a) .all ws' ds' Gn) (oS : Owns W H1 (fun c => ¬ (Z1 c ∧ c ∉ Gn)) .shr ws' ds' []) (hG : ∀ c ∈ Gn, c ∈ G ∨ c ∈ F) (hn : Gn.Nodup) (h : Fin W w σ H Z Fs (.ok (.all, .non) (env.set i (some (newO k ds' d')))) Q) : Q .non (upd H1 a o') := by
  have ha : a ∈ Fs1 i := by rw [hF]; exact List.mem_cons_self ..
  have ni := p.sim.nd i
  rw [hF] at ni
  have aG : a ∉ G := (List.nodup_cons.mp ni).1
  have aF : a ∉ F := fun z => p.dis a z ⟨i, ha⟩
  have aGn : a ∉ Gn := fun z => (hG a z).elim aG aF
  have Za : Z1 a := p.sim.sub i a ha
  have f := Fr.wr (W := W) (o := o) (o' := o') h1 hf ht
  have Gsub : ∀ c ∈ Gn, c ∈ Fs1 i ∨ c ∈ F := fun c hc => (hG c hc).imp (fun z => by rw [hF]; exact List.mem_cons_of_mem _ z) id
  unfold newO at h
  by_cases im : immAll ds' = true
  · rw [im, Bool.or_true, if_pos rfl] at h
    have o2 := (oS.of_imm im).2 .all (fun c => ¬ Z1 c)
    refine h _ _ _ _ _ (p.wr (o := o) (o' := o') (x' := (.all, d')) (y := (.all, .non)) (F' := [a]) (Fy := []) (Z2 := Z1) hσ ha h1 hf ht (fun c z => z) (fun c z _ _ => z) ?_ .non ?_ ?_)
    · exact mk .all _ [] (fun z => nomatch z) (Owns.frame f (fun c n z => n (z ▸ Za)) o2 fun _ z => (nomatch z))
    · simp
    · intro c hc
      have : c = a := by simpa using hc
      subst this
      exact ⟨Za, .inl ha⟩
  · cases k with
    | true =>
      rw [Bool.true_or, if_pos rfl] at h
      have ow := oA rfl
      refine h _ _ _ _ _ (p.wr (o := o) (o' := o') (x' := (.all, d')) (y := (.all, .non)) (F' := a :: Gn) (Fy := []) (Z2 := Z1) hσ ha h1 hf ht (fun c z => z) (fun c z _ _ => z) ?_ .non ?_ ?_)
      · exact mk .all _ Gn (fun z => nomatch z) (Owns.frame f (fun c n z => n (z ▸ Za)) ow fun c hc z => aGn (z ▸ hc))
      · rw [List.append_nil]; exact List.nodup_cons.mpr ⟨aGn, hn⟩
      · intro c hc
        rw [List.append_nil] at hc
        rcases List.mem_cons.mp hc with rfl | hc
        · exact ⟨Za, .inl ha⟩
        · exact ⟨(Gsub c hc).elim (p.sim.sub i c) (p.sub c), Gsub c hc⟩
    | false =>
      rw [Bool.false_or, if_neg im] at h
      refine h _ _ _ _ _ (p.wr (o := o) (o' := o') (x' := (.top, d')) (y := (.all, .non)) (F' := [a]) (Fy := []) (Z2 := fun c => Z1 c ∧ c ∉ Gn) hσ ha h1 hf ht (fun c z => z.1) (fun c z n1 n2 => ⟨z, fun z' => (Gsub c z').elim n1 n2⟩) ?_ .non ?_ ?_)
      · exact mk .top _ [] (fun z => nomatch z) (Owns.frame f (fun c n z => n (z ▸ ⟨Za, aGn⟩)) oS fun _ z => (nomatch z))
      · simp
      · intro c hc
        have : c = a := by simpa using hc
        subst this
        exact ⟨⟨Za, aGn⟩, .inl ha⟩
theorem Owns.set {P : Addr → Prop} {m : Mode} {d : D} {Fv : List Addr} (ov : Own W H P m v d Fv) : ∀ {ws : List V} {ds : List D} {G : List Addr} (n : Nat), Owns W H P m ws ds G → n < ds.length → (G ++ Fv).Nodup → ∃ Gn, Owns W H P m (ws.set n v) (ds.set n d) Gn ∧ (∀ c ∈ Gn, c ∈ G ∨ c ∈ Fv) ∧ Gn.Nodup
  | _, _, _, n, .nil, h, _ => by cases h
  | _, _, _, 0, .cons (F := F1) (G := F2) o t, _, nd => by
    obtain ⟨n1, n2, n3⟩ := List.nodup_append.mp nd
    obtain ⟨m1, m2, m3⟩ := List.nodup_append.mp n1
    refine ⟨Fv ++ F2, .cons ov t, fun c hc => ?_, List.nodup_append.mpr ⟨n2, m2, fun x hx y hy e => n3 y (List.mem_append_right _ hy) x hx e.symm⟩⟩
    rcases List.mem_append.mp hc with hc | hc
    · exact .inr hc
    · exact .inl (List.mem_append_right _ hc)
  | _, _, _, n + 1, .cons (F := F1) (G := F2) o t, h, nd => by
    obtain ⟨n1, n2, n3⟩ := List.nodup_append.mp nd
    obtain ⟨m1, m2, m3⟩ := List.nodup_append.mp n1
    obtain ⟨Gn, a, b, c⟩ := Owns.set ov n t (by simpa using h) (List.nodup_append.mpr ⟨m2, n2, fun x hx y hy => n3 x (List.mem_append_right _ hx) y hy⟩)
    refine ⟨F1 ++ Gn, .cons o a, fun x hx => ?_, List.nodup_append.mpr ⟨m1, c, fun x hx y hy => ?_⟩⟩
    · rcases List.mem_append.mp hx with hx | hx
      · exact .inl (List.mem_append_left _ hx)
      · exact (b x hx).imp (List.mem_append_right _) id
    · rcases b y hy with z | z
      · exact m3 x hx y z
      · exact n3 x (List.mem_append_left _ hx) y z

/-! ### dicts -/
theorem kid1_inv {d : D} {k : Key} (h : kid1 d = some k) : d = kD k := by
  cases d <;> simp only [kid1, Option.some.injEq] at h <;> first | (subst h; rfl) | cases h
theorem kids_inv : ∀ {ds : List D} {ks : List Key}, kids ds = some ks → ds = ks.map kD
  | [], _, h => by simp only [kids, Option.some.injEq] at h; subst h; rfl
  | d :: ds, _, h => by
    simp only [kids] at h
    split at h
    · rename_i k ks e1 e2
      simp only [Option.some.injEq] at h
      subst h
      rw [kid1_inv e1, kids_inv e2, List.map_cons]
    · cases h
theorem kid_invK {d : D} {ks : List Key} (h : kid d = some (false, ks)) : ∃ k, ks = [k] ∧ d = kD k := by
  cases d <;> simp only [kid, Option.some.injEq, Prod.mk.injEq, true_and] at h <;> try cases h
  · exact ⟨_, rfl, rfl⟩
  · exact ⟨_, rfl, rfl⟩
  · obtain ⟨_, _, e⟩ := Option.map_eq_some_iff.mp h
    cases e
theorem kid_invT {d : D} {ks : List Key} (h : kid d = some (true, ks)) : d = kDs ks := by
  cases d with
  | tup ds =>
    simp only [kid] at h
    obtain ⟨ks', e1, e⟩ := Option.map_eq_some_iff.mp h
    cases e
    unfold kDs
    rw [kids_inv e1]
  | _ => simp [kid] at h
section
variable {κ : Type} [DecidableEq κ] {enc : κ → D} (he : ∀ a b, kid (enc a) = kid (enc b) ↔ a = b)
/-- the items behind a store -/
def putDs (kvs : List (κ × V)) (ds : List D) (k : κ) (d : D) : List D := if (kvs.any fun kv => decide (kv.1 = k)) = true then List.zipWith (fun kv x => if kv.1 = k then d else x) kvs ds else ds ++ [d]
theorem no_repl {k : κ} {y : V} {d : D} : ∀ {kvs : List (κ × V)} {ds : List D}, kvs.length = ds.length → k ∉ kvs.map (·.1) → kvs.map (fun kv => if kv.1 = k then (kv.1, y) else kv) = kvs ∧ List.zipWith (fun (kv : κ × V) x => if kv.1 = k then d else x) kvs ds = ds
  | [], [], _, _ => ⟨rfl, rfl⟩
  | [], _ :: _, h, _ => by simp at h
  | _ :: _, [], h, _ => by simp at h
  | p :: r, x :: ds, h, n => by
    have e : ¬ p.1 = k := fun z => n (by simp [z])
    obtain ⟨a, b⟩ := no_repl (k := k) (y := y) (d := d) (kvs := r) (ds := ds) (by simpa using h) fun z => n (List.mem_cons_of_mem _ z)
    exact ⟨by rw [List.map_cons, a, if_neg e], by rw [List.zipWith_cons_cons, b, if_neg e]⟩
theorem Owns.repl {P : Addr → Prop} {m : Mode} {k : κ} {d : D} {Fv : List Addr} (ov : Own W H P m v d Fv) : ∀ {kvs : List (κ × V)} {ds : List D} {G : List Addr}, Owns W H P m (kvs.map (·.2)) ds G → (kvs.map (·.1)).Nodup → (G ++ Fv).Nodup →
    ∃ Gn, Owns W H P m ((kvs.map fun kv => if kv.1 = k then (kv.1, v) else kv).map (·.2)) (List.zipWith (fun (kv : κ × V) x => if kv.1 = k then d else x) kvs ds) Gn ∧ (∀ c ∈ Gn, c ∈ G ∨ c ∈ Fv) ∧ Gn.Nodup
  | [], _, G, o, _, nd => by
    cases o
    exact ⟨[], .nil, fun _ z => (nomatch z), List.nodup_nil⟩
  | p :: r, _, _, oo, nk, nd => by
    obtain ⟨d0, ds, F1, F2, rfl, rfl, o, t⟩ := oo.consV
    obtain ⟨n1, n2, n3⟩ := List.nodup_append.mp nd
    obtain ⟨m1, m2, m3⟩ := List.nodup_append.mp n1
    obtain ⟨k1, k2⟩ := List.nodup_cons.mp nk
    by_cases e : p.1 = k
    · have hl : r.length = ds.length := by have := t.length; simpa using this
      obtain ⟨a, b⟩ := no_repl (k := k) (y := v) (d := d) hl (by rw [← e]; exact k1)
      refine ⟨Fv ++ F2, ?_, fun c hc => ?_, List.nodup_append.mpr ⟨n2, m2, fun x hx y hy e => n3 y (List.mem_append_right _ hy) x hx e.symm⟩⟩
      · rw [List.map_cons, a, List.zipWith_cons_cons, b, if_pos e, if_pos e]
        exact .cons ov t
      · rcases List.mem_append.mp hc with hc | hc
        · exact .inr hc
        · exact .inl (List.mem_append_right _ hc)
    · obtain ⟨Gn, a, b, c⟩ := Owns.repl (k := k) ov t k2 (List.nodup_append.mpr ⟨m2, n2, fun x hx y hy => n3 x (List.mem_append_right _ hx) y hy⟩)
      refine ⟨F1 ++ Gn, ?_, fun x hx => ?_, List.nodup_append.mpr ⟨m1, c, fun x hx y hy => ?_⟩⟩
      · rw [List.map_cons, List.map_cons, List.zipWith_cons_cons, if_neg e, if_neg e]
        exact .cons o a
      · rcases List.mem_append.mp hx with hx | hx
        · exact .inl (List.mem_append_left _ hx)
        · exact (b x hx).imp (List.mem_append_right _) id
      · rcases b y hy with z | z
        · exact m3 x hx y z
        · exact n3 x (List.mem_append_left _ hx) y z
theorem Owns.put {P : Addr → Prop} {m : Mode} {k : κ} {d : D} {Fv : List Addr} (ov : Own W H P m v d Fv) {kvs : List (κ × V)} {ds : List D} {G : List Addr} (o : Owns W H P m (kvs.map (·.2)) ds G) (nk : (kvs.map (·.1)).Nodup) (nd : (G ++ Fv).Nodup) :
    ∃ Gn, Owns W H P m ((putK kvs k v).map (·.2)) (putDs kvs ds k d) Gn ∧ (∀ c ∈ Gn, c ∈ G ∨ c ∈ Fv) ∧ Gn.Nodup := by
  unfold putK putDs
  by_cases c : (kvs.any fun kv => decide (kv.1 = k)) = true
  · rw [if_pos c, if_pos c]
    exact Owns.repl ov o nk nd
  · rw [if_neg c, if_neg c, List.map_append]
    refine ⟨G ++ Fv, Owns.append (by simpa using Owns.cons ov .nil) o, fun c hc => List.mem_append.mp hc, nd⟩
theorem nodup_put {k : κ} {kvs : List (κ × V)} (nk : (kvs.map (·.1)).Nodup) : ((putK kvs k v).map (·.1)).Nodup := by
  cases e : valV kvs k with
  | none => exact nd_putK v nk e
  | some u =>
    have c : (kvs.any fun kv => decide (kv.1 = k)) = true := by rw [valV_any, e]; rfl
    unfold putK
    rw [if_pos c, List.map_map]
    have : ((fun x : κ × V => x.1) ∘ fun kv => if kv.1 = k then (kv.1, v) else kv) = fun x => x.1 := by
      funext x
      dsimp only [Function.comp]
      split <;> rfl
    rw [this]
    exact nk
include he in
theorem any_kid {k : κ} : ∀ {kvs : List (κ × V)} {ds : List D}, kvs.length = ds.length → dHas ((kvs.map fun p => enc p.1).zip ds) (enc k) = kvs.any fun kv => decide (kv.1 = k)
  | [], _, _ => by simp [dHas]
  | _ :: _, [], h => by simp at h
  | p :: r, x :: ds, h => by
    have ih := any_kid (k := k) (kvs := r) (ds := ds) (by simpa using h)
    unfold dHas at ih ⊢
    rw [List.map_cons, List.zip_cons_cons, List.any_cons, List.any_cons, ih]
    by_cases e : p.1 = k
    · simp [e]
    · have : ¬ kid (enc p.1) = kid (enc k) := fun z => e ((he _ _).mp z)
      simp [e, this]
include he in
theorem put_zip {k : κ} {d : D} {kvs : List (κ × V)} {ds : List D} (hl : kvs.length = ds.length) : dPut ((kvs.map fun p => enc p.1).zip ds) (enc k) d = ((putK kvs k v).map fun p => enc p.1).zip (putDs kvs ds k d) := by
  unfold dPut putK putDs
  rw [any_kid he hl]
  by_cases c : (kvs.any fun kv => decide (kv.1 = k)) = true
  · rw [if_pos c, if_pos c, if_pos c]
    clear c
    induction kvs generalizing ds with
    | nil => rfl
    | cons p r ih =>
      cases ds with
      | nil => simp at hl
      | cons x ds =>
        have ih := ih (ds := ds) (by simpa using hl)
        rw [List.map_cons, List.zip_cons_cons, List.map_cons, List.map_cons, List.map_cons, List.zipWith_cons_cons, ih, List.zip_cons_cons]
        by_cases e : p.1 = k
        · simp [e]
        · have : ¬ kid (enc p.1) = kid (enc k) := fun z => e ((he _ _).mp z)
          simp [e, this]
  · rw [if_neg c, if_neg c, if_neg c, List.map_append, List.zip_append (by simpa using hl)]
    rfl
end
/-- the owned dict in slot i -/
theorem PostL.slotDic {m : Mode} {t : Bool} {kvs : List (D × D)} (p : PostL W H Z Fs σ H1 Z1 env Fs1 xs vs F) (e : env[i]? = some (some (m, .dic t kvs))) (hm : m ≠ .shr) :
    ∃ a G ds, σ[i]? = some (some (.ref a)) ∧ Fs1 i = a :: G ∧ ((∃ k0 : List (Key × V), t = false ∧ kvs = (k0.map fun p => kD p.1).zip ds ∧ (k0.map (·.1)).Nodup ∧ H1 a = some (.dK k0) ∧ Owns W H1 (fun a => ¬ Z1 a) m.pred (k0.map (·.2)) ds G) ∨
      ∃ k0 : List (List Key × V), t = true ∧ kvs = (k0.map fun p => kDs p.1).zip ds ∧ (k0.map (·.1)).Nodup ∧ H1 a = some (.dT k0) ∧ Owns W H1 (fun a => ¬ Z1 a) m.pred (k0.map (·.2)) ds G) := by
  obtain ⟨v, e1, o⟩ := p.sim.rep i _ e
  dsimp only at o
  generalize ed : D.dic t kvs = d at o
  generalize eF : Fs1 i = Fi at o
  cases o with
  | dKO n nk h t => cases ed; exact ⟨_, _, _, e1, rfl, .inl ⟨_, rfl, rfl, nk, h, t⟩⟩
  | dTO n nk h t => cases ed; exact ⟨_, _, _, e1, rfl, .inr ⟨_, rfl, rfl, nk, h, t⟩⟩
  | dKS _ _ _ => exact absurd rfl hm
  | dTS _ _ _ => exact absurd rfl hm
  | _ => cases ed
end

/-! ### name[k] = v -/
def newD (b : Bool) (t : Bool) (kvs : List (D × D)) : Val := newO b (kvs.map (·.2)) (.dic t kvs)
def hStore (x k y : Val) : Option Val := match x.2, k.2 with
  | .lst ds, .int j => if x.1 = .shr then none else (ixN ds.length j).map fun n => newL (x.1 == .all && y.1 == .all) (ds.set n y.2)
  | .dic t kvs, d => if x.1 ≠ .shr ∧ keyOk t d = true ∧ kvs.length < sizeLine then some (newD (x.1 == .all && y.1 == .all) t (dPut kvs d y.2)) else none
  | _, _ => none
def mStoreK (i : Nat) (y k : Val) : M Fl := fun env => match env[i]? with
  | some (some x) => (match hStore x k y with
    | some x' => .ok .nx (env.set i (some x'))
    | none => .bad)
  | _ => .bad
def mStore (i : Nat) (mv mk : M Val) : M Fl := mv.bind fun y env => match env[i]? with
  | some (some _) => (mk.bind (mStoreK i y)) env
  | _ => .bad
section
variable {W : Wd} {w : WX} {mp : List Nat} {σ : L2.St} {H H1 H2 : Hp} {Z Z1 Z2 : Addr → Prop} {Fs Fs1 Fs2 : Nat → List Addr} {env env1 : Env} {xs ys : List Val} {vs us : List V} {F F' G Fx Fy : List Addr} {x x' y k : Val} {v v' u : V} {Q : VK} {i : Nat} {a : Addr}
theorem FinS.nxE {env' : Env} {D : Ends} (zd : ∀ a, Z a → H a ≠ none) (h : FinS W w mp σ H Z Fs (.ok .nx env') D) : Fin W w σ H Z Fs (.ok (.all, .non) env') (fun _ H' => D.nx σ H') := fun H' Z' Fs' v Fx p => h _ _ _ _ ⟨p.st.less fun _ z => (nomatch z), p.sim, zd, fun _ _ => rfl⟩
abbrev rStore : TSet := fun o i v H Q => rSetL o i v H Q ∨ rSetD o i v H Q
theorem PSet.or {X : Cx} {t t' : TSet} (h : PSet X t) (h' : PSet X t') : PSet X (fun o i v H Q => t o i v H Q ∨ t' o i v H Q) := by
  intro pins s σ H o i v ov iv u Q I r1 r2 r3 q
  rcases q with q | q
  · exact h pins s σ H o i v ov iv u Q I r1 r2 r3 q
  · exact h' pins s σ H o i v ov iv u Q I r1 r2 r3 q
theorem PostL.store {vv kv : V} (p : PostL W H Z Fs σ H1 Z1 env Fs1 [y, k] [vv, kv] F) (e : env[i]? = some (some x)) (hs : hStore x k y = some x') {R : Hp → Prop} (h : Fin W w σ H Z Fs (.ok (.all, .non) (env.set i (some x'))) (fun _ H' => R H')) : ∃ v, σ[i]? = some (some v) ∧ rStore v kv vv H1 R := by
  obtain ⟨m, d⟩ := x
  obtain ⟨mk, dk⟩ := k
  obtain ⟨F1, F2, eF, oy, ok⟩ := p.own.inv2
  obtain ⟨nd1, nd2, nd3⟩ := List.nodup_append.mp (eF ▸ p.nd)
  have disG : ∀ {G : List Addr}, (∀ c ∈ G, c ∈ Fs1 i) → G.Nodup → (G ++ F1).Nodup := fun {G} hG nG => List.nodup_append.mpr ⟨nG, nd1, fun c hc d hd e => p.dis d (by rw [eF]; exact List.mem_append_left _ hd) ⟨i, by rw [← e]; exact hG c hc⟩⟩
  have ni := p.sim.nd i
  unfold hStore at hs
  dsimp only at hs oy ok
  split at hs
  · rename_i ds j
    split at hs
    · cases hs
    · rename_i hm
      obtain ⟨n, en, rfl⟩ := Option.map_eq_some_iff.mp hs
      obtain ⟨a, ws, G, e1, h1, hF, o⟩ := p.slotLst e hm
      have := ok.int_inv
      subst this
      rw [hF] at ni
      obtain ⟨aG, nG⟩ := List.nodup_cons.mp ni
      have hG1 : ∀ c ∈ G, c ∈ Fs1 i := fun c hc => by rw [hF]; exact List.mem_cons_of_mem _ hc
      have hn : n < ds.length := by
        unfold ixN at en
        split at en
        · split at en
          · cases en; omega
          · cases en
        · split at en
          · cases en; omega
          · cases en
      refine ⟨.ref a, e1, .inl ⟨a, ws, j, n, rfl, rfl, h1, by rw [o.length]; exact en, ?_⟩⟩
      have key : ∃ Gn, ((m == .all && y.1 == .all) = true → Owns W H1 (fun a => ¬ Z1 a) .all (ws.set n vv) (ds.set n y.2) Gn) ∧ Owns W H1 (fun c => ¬ (Z1 c ∧ c ∉ Gn)) .shr (ws.set n vv) (ds.set n y.2) [] ∧ (∀ c ∈ Gn, c ∈ G ∨ c ∈ F) ∧ Gn.Nodup := by
        cases kk : (m == .all && y.1 == .all) with
        | true =>
          obtain ⟨rfl, ey⟩ := both_all kk
          rw [ey] at oy
          obtain ⟨Gn, q1, q2, q3⟩ := Owns.set oy n o hn (disG hG1 nG)
          exact ⟨Gn, fun _ => q1, Owns.freeze (fun c n _ z => n z.1) q1 fun c hc z => z.2 hc, fun c hc => (q2 c hc).imp id fun z => by rw [eF]; exact List.mem_append_left _ z, q3⟩
        | false =>
          have f1 : Owns W H1 (fun c => ¬ (Z1 c ∧ c ∉ G ++ F1)) .shr ws ds [] := Owns.freeze (fun c n _ z => n z.1) o fun c hc z => z.2 (List.mem_append_left _ hc)
          have f2 : Own W H1 (fun c => ¬ (Z1 c ∧ c ∉ G ++ F1)) .shr vv y.2 [] := Own.freeze (fun c n _ z => n z.1) oy fun c hc z => z.2 (List.mem_append_right _ hc)
          obtain ⟨Gn, q1, q2, q3⟩ := Owns.set f2 n f1 hn (by simp)
          have := q1.shr_nil
          subst this
          exact ⟨G ++ F1, fun z => (nomatch z), q1, fun c hc => (List.mem_append.mp hc).imp id fun z => by rw [eF]; exact List.mem_append_left _ z, disG hG1 nG⟩
      obtain ⟨Gn, q1, q2, q3, q4⟩ := key
      exact p.wrLst (k := m == .all && y.1 == .all) e1 h1 hF q1 q2 q3 q4 h
  · rename_i t kvs dk'
    split at hs
    · rename_i c
      obtain ⟨hm, hk, hl⟩ := c
      simp only [Option.some.injEq] at hs
      subst hs
      obtain ⟨a, G, ds, e1, hF, cases_⟩ := p.slotDic e hm
      rw [hF] at ni
      obtain ⟨aG, nG⟩ := List.nodup_cons.mp ni
      have hG1 : ∀ c ∈ G, c ∈ Fs1 i := fun c hc => by rw [hF]; exact List.mem_cons_of_mem _ hc
      refine ⟨.ref a, e1, .inr ?_⟩
      unfold keyOk at hk
      -- what both sorts share
      have share : ∀ {κ : Type} [DecidableEq κ] {k0 : List (κ × V)} {kx : κ}, (k0.map (·.1)).Nodup → Owns W H1 (fun a => ¬ Z1 a) m.pred (k0.map (·.2)) ds G →
          ∃ Gn, ((m == .all && y.1 == .all) = true → Owns W H1 (fun a => ¬ Z1 a) .all ((putK k0 kx vv).map (·.2)) (putDs k0 ds kx y.2) Gn) ∧ Owns W H1 (fun c => ¬ (Z1 c ∧ c ∉ Gn)) .shr ((putK k0 kx vv).map (·.2)) (putDs k0 ds kx y.2) [] ∧ (∀ c ∈ Gn, c ∈ G ∨ c ∈ F) ∧ Gn.Nodup := by
        intro κ _ k0 kx nk o
        cases kk : (m == .all && y.1 == .all) with
        | true =>
          obtain ⟨rfl, ey⟩ := both_all kk
          rw [ey] at oy
          obtain ⟨Gn, q1, q2, q3⟩ := Owns.put (k := kx) oy o nk (disG hG1 nG)
          exact ⟨Gn, fun _ => q1, Owns.freeze (fun c n _ z => n z.1) q1 fun c hc z => z.2 hc, fun c hc => (q2 c hc).imp id fun z => by rw [eF]; exact List.mem_append_left _ z, q3⟩
        | false =>
          have f1 : Owns W H1 (fun c => ¬ (Z1 c ∧ c ∉ G ++ F1)) .shr (k0.map (·.2)) ds [] := Owns.freeze (fun c n _ z => n z.1) o fun c hc z => z.2 (List.mem_append_left _ hc)
          have f2 : Own W H1 (fun c => ¬ (Z1 c ∧ c ∉ G ++ F1)) .shr vv y.2 [] := Own.freeze (fun c n _ z => n z.1) oy fun c hc z => z.2 (List.mem_append_right _ hc)
          obtain ⟨Gn, q1, q2, q3⟩ := Owns.put (k := kx) f2 f1 nk (by simp)
          have := q1.shr_nil
          subst this
          exact ⟨G ++ F1, fun z => (nomatch z), q1, fun c hc => (List.mem_append.mp hc).imp id fun z => by rw [eF]; exact List.mem_append_left _ z, disG hG1 nG⟩
      have vals : ∀ {κ : Type} [DecidableEq κ] {enc : κ → D} {k0 : List (κ × V)} {ds' : List D}, k0.length = ds'.length → ((k0.map fun p => enc p.1).zip ds').map (·.2) = ds' := by
        intro κ _ enc k0 ds' hl
        rw [List.map_snd_zip]
        simp [hl]
      cases ek : kid dk with
      | none => rw [ek] at hk; cases hk
      | some kk =>
        obtain ⟨t', ks⟩ := kk
        rw [ek] at hk
        rcases cases_ with ⟨k0, rfl, rfl, nk, h1, o⟩ | ⟨k0, rfl, rfl, nk, h1, o⟩
        · have et : false = t' := by simpa using hk
          subst et
          obtain ⟨kx, rfl, rfl⟩ := kid_invK ek
          have hv := ok.key ek
          have hlen : k0.length = ds.length := by have := o.length; simpa using this
          have hl0 : k0.length < sizeLine := by
            have : ((k0.map fun p => kD p.1).zip ds).length = k0.length := by simp [hlen]
            omega
          refine ⟨a, _, rfl, .inl ⟨k0, kx, h1, hv, hl0, rfl⟩, ?_⟩
          obtain ⟨Gn, q1, q2, q3, q4⟩ := share (kx := kx) nk o
          have ez := put_zip (v := vv) (d := y.2) (k := kx) kD_kid hlen
          have hlen2 := q2.length
          rw [List.length_map] at hlen2
          unfold newD at h
          rw [ez, vals hlen2] at h
          exact p.wrObj (o := .dK k0) (o' := .dK (putK k0 kx vv)) e1 h1 (fun z => z) (fun z => z) hF (fun m P Gx hm o => .dKO hm (nodup_put nk) upd_same o) q1 q2 q3 q4 h
        · have et : true = t' := by simpa using hk
          subst et
          have := kid_invT ek
          subst this
          obtain ⟨b, rfl, hb⟩ := ok.keyT ek
          have hlen : k0.length = ds.length := by have := o.length; simpa using this
          have hl0 : k0.length < sizeLine := by
            have : ((k0.map fun p => kDs p.1).zip ds).length = k0.length := by simp [hlen]
            omega
          refine ⟨a, _, rfl, .inr ⟨k0, ks, b, h1, rfl, hb, hl0, rfl⟩, ?_⟩
          obtain ⟨Gn, q1, q2, q3, q4⟩ := share (kx := ks) nk o
          have ez := put_zip (v := vv) (d := y.2) (k := ks) kDs_kid hlen
          have hlen2 := q2.length
          rw [List.length_map] at hlen2
          unfold newD at h
          rw [ez, vals hlen2] at h
          exact p.wrObj (o := .dT k0) (o' := .dT (putK k0 ks vv)) e1 h1 (fun z => z) (fun z => z) hF (fun m P Gx hm o => .dTO hm (nodup_put nk) upd_same o) q1 q2 q3 q4 h
    · cases hs
  · cases hs
end
section
variable {X : Cx} {W : Wd} {mp : List Nat} {i : Nat} {nm : Str} {ie ve : Expr} {np p' pos : Pos} {mv mk : M Val}
theorem gs_store (hu : X.A.units + 1 < cLine) (hN : X.N[i]? = some nm) (hv : Vis X.env.scope nm) (hd : (nm == ("__debug__" : Str)) = false) (hcd : (nm == ("__classdict__" : Str)) = false) (he : GE X W ve mv) (hi : GE X W ie mk)
    (hs : swapsWithSole [.Subscript (.Name nm np) ie p'] ve pos.line X.env = pure false) (hw : swappedStores [.Subscript (.Name nm np) ie p'] ve X.env = pure none) (h1 : (assignEach [.Subscript (.Name nm np) ie p'] X.env).map (·.2) = [assign (.Subscript (.Name nm np) ie p') X.env])
    (ha : ∀ v, assign (.Subscript (.Name nm np) ie p') X.env v = (do
      let ov ← holding [v] (eval (.Name nm np) X.env)
      let iv ← holding [v, ov] (eval ie X.env)
      standAt p'
      holding [v, ov, iv] (setItem ov iv v)
      release [v, ov, iv] [])) : GS X W mp (.Assign [.Subscript (.Name nm np) ie p'] ve pos) (mStore i mv mk) := fun w tk => by
  refine ps_imp (ps_asg (he w tk) (pg_sub (pe_var hN hv hd hcd) (hi w tk) (PSet.or set_list (set_dict hu)) ha) hs hw h1) fun D σ H h => ?_
  obtain ⟨Z, env, Fs, S, h⟩ := h
  refine rdE_mono (rs_expr S h) fun v H1 ⟨Z2, env2, Fs2, y, Fy, p, h2⟩ => ?_
  cases e0 : env2[i]? with
  | none => rw [e0] at h2; exact h2.elim
  | some o0 =>
    cases o0 with
    | none => rw [e0] at h2; exact h2.elim
    | some x0 =>
      rw [e0] at h2
      obtain ⟨v0, ev0, _⟩ := p.sim.rep i x0 e0
      refine ⟨v0, ev0, Z2, env2, Fs2, p.sim, ?_⟩
      have h2 : FinS W w mp σ H Z Fs ((mk env2).bind (mStoreK i y)) D := h2
      cases ek : mk env2 with
      | bad => rw [ek] at h2; exact h2.elim
      | exc c fs e3 =>
        rw [ek] at h2
        exact fun H' Z' Fs' cls dd q => h2 _ _ _ _ _ _ (p.raise q).toS
      | ok k env3 =>
        rw [ek] at h2
        intro H3 Z3 Fs3 kv Fk q
        have p2 := p.snoc q
        have h2 : FinS W w mp σ H Z Fs (mStoreK i y k env3) D := h2
        unfold mStoreK at h2
        split at h2
        · rename_i x ex
          split at h2
          · rename_i x' es
            obtain ⟨v1, ev1, r⟩ := p2.store ex es (FinS.nxE p.zd h2)
            rw [ev0] at ev1
            cases ev1
            exact r
          · exact h2.elim
        · exact h2.elim
end
end BV
set_option maxHeartbeats 2000000
/-! BV24: a < b < c; text methods; list(text); text * int. -/
namespace BV
open PySem PySem.Spec PyProof.Rows L2

/-! ### a op b op' c -/
def mChain (g g' : D → D → Option D) (ma mb mc : M Val) : M Val := ma.bind fun x => mb.bind fun y => match g x.2 y.2 with
  | some (.bl true) => mc.bind fun z => (match g' y.2 z.2 with
    | some d => M.pure (.all, d)
    | none => M.bad)
  | some (.bl false) => M.pure (.all, .bl false)
  | _ => M.bad
section
variable {X : Cx} {W : Wd} {a b c : Expr} {pos : Pos} {ma mb mc : M Val}
theorem chain_read {r r' : R2} {g g' : D → D → Option D} {w : WX} (hr : Says W r g) (hr' : Says W r' g') {σ : L2.St} {H : Hp} {Q : VK} (h : rdE W w (mChain g g' ma mb mc) σ H Q) : tChain r r' (rdE W w ma) (rdE W w mb) (rdE W w mc) σ H Q := by
  refine rdE_mono (rd_first h) fun v H1 ⟨Z, Fs, Z2, env2, Fs2, x, Fx, p, h2⟩ => ?_
  refine rdE_mono (rd_more p h2) fun u H2 ⟨Z3, e3, Fs3, y, Fy, p2, h3⟩ => ?_
  obtain ⟨F1, F2, eF, o1, o2⟩ := p2.own.inv2
  cases eg : g x.2 y.2 with
  | none => rw [eg] at h3; exact h3.elim
  | some d =>
    refine hr x y d H2 _ v u _ _ _ eg o1 o2 fun z oz => ?_
    rw [eg] at h3
    cases d with
    | bl k =>
      have := (oz fun _ => True).bl_inv
      subst this
      refine ⟨k, rfl, ?_⟩
      cases k with
      | false =>
        rw [if_neg (by decide)]
        exact p2.fin h3 fun _ => .bl _
      | true =>
        rw [if_pos rfl]
        refine rdE_mono (rd_more p2 h3) fun w' H4 ⟨Z4, e4, Fs4, z, Fz, p4, h4⟩ => ?_
        cases eg' : g' y.2 z.2 with
        | none => rw [eg'] at h4; exact h4.elim
        | some d' =>
          rw [eg'] at h4
          obtain ⟨_, vr, G1, G2, e1, _, q1, q2⟩ := p4.own.inv
          cases e1
          obtain ⟨K1, K2, _, q3, q4⟩ := q2.inv2
          exact hr' y z d' H4 _ u w' _ _ Q eg' q3 q4 fun zz oz => p4.fin h4 oz
    | _ => exact h3.elim
theorem rdT_bl {w : WX} {m : M Val} {σ : L2.St} {H : Hp} {Q : Bool → Hp → Prop} (h : rdT W w (mBl m) σ H Q) : rdE W w m σ H fun x H' => ∃ k, x = .bl k ∧ Q k H' := by
  obtain ⟨Z, env, Fs, S, h⟩ := h
  refine rdE_mono (rt_more (PostL.start S) h) fun v H1 ⟨Z2, env2, Fs2, x, Fx, p, h2⟩ => ?_
  have o := p.own.inv1
  obtain ⟨m, d⟩ := x
  cases d with
  | bl b => exact ⟨b, o.bl_inv, h2 _ _ _ p.drop⟩
  | _ => exact h2.elim
theorem ge_chain {op op' : CmpOp} {r r' : R2} {g g' : D → D → Option D} (ho : OpR X (compareOp op) r) (ho' : OpR X (compareOp op') r') (hr : Says W r g) (hr' : Says W r' g') (hm : lastMarks [op, op'] [b, c] = false) (ha : GE X W a ma) (hb : GE X W b mb) (hc : GE X W c mc) :
    GE X W (.Compare a [op, op'] [b, c] pos) (mChain g g' ma mb mc) := fun w tk => pe_imp (pe_chain ho ho' (ha w tk) (hb w tk) (hc w tk) hm) fun σ H Q h => chain_read hr hr' h
theorem gt_chain {op op' : CmpOp} {r r' : R2} {g g' : D → D → Option D} (ho : OpR X (compareOp op) r) (ho' : OpR X (compareOp op') r') (hr : Says W r g) (hr' : Says W r' g') (hm : lastMarks [op, op'] [b, c] = false) (ha : GE X W a ma) (hb : GE X W b mb) (hc : GE X W c mc) :
    GT X W (.Compare a [op, op'] [b, c] pos) (mBl (mChain g g' ma mb mc)) := fun w tk => pt_imp (pt_chain ho ho' (ha w tk) (hb w tk) (hc w tk) hm) fun σ H Q h => chain_read hr hr' (rdT_bl h)

/-! ### methods of texts -/
def mM1 (g : D → D → Option D) (mo ma : M Val) : M Val := mo.bind fun x => match x.2 with
  | .str a => ma.bind fun y => (match g (.str a) y.2 with
    | some d => M.pure (.all, d)
    | none => M.bad)
  | _ => M.bad
def gCount : D → D → Option D
  | .str a, .str b => some (.int (Txt.count a b))
  | _, _ => none
def gRfind : D → D → Option D
  | .str a, .str b => some (.int (Txt.rfind a b))
  | _, _ => none
theorem ge_m1 {r : V → List V → Hp → VK → Prop} {g : D → D → Option D} {e : Expr} (rule : ∀ to te, PE X a to → PE X b te → PE X e (tM1 r to te)) (hr : Says W (fun x y H Q => r x [y] H Q) g) (ha : GE X W a ma) (hb : GE X W b mb) : GE X W e (mM1 g ma mb) := fun w tk => by
  refine pe_imp (rule _ _ (ha w tk) (hb w tk)) fun σ H Q h => ?_
  refine rdE_mono (rd_first h) fun v H1 ⟨Z, Fs, Z2, env2, Fs2, x, Fx, p, h2⟩ => ?_
  obtain ⟨m, d⟩ := x
  cases d with
  | str z =>
    refine ⟨⟨z, p.own.inv1.str_inv⟩, ?_⟩
    refine rdE_mono (rd_more p h2) fun u H2 ⟨Z3, e3, Fs3, y, Fy, p2, h3⟩ => ?_
    cases eg : g (.str z) y.2 with
    | none => rw [eg] at h3; exact h3.elim
    | some d =>
      rw [eg] at h3
      obtain ⟨F1, F2, _, o1, o2⟩ := p2.own.inv2
      exact hr (m, .str z) y d H2 _ v u _ _ Q eg o1 o2 fun z oz => p2.fin h3 oz
  | _ => exact h2.elim
theorem says_count : Says W (fun x y H Q => ∃ a b, x = .str a ∧ [y] = [V.str b] ∧ Q (.int (Txt.count a b)) H) gCount := by
  intro x y d H P v u F G Q e o1 o2 k
  obtain ⟨m1, x⟩ := x
  obtain ⟨m2, y⟩ := y
  cases x <;> cases y <;> simp only [gCount] at e <;> cases e
  exact ⟨_, _, o1.str_inv, by rw [o2.str_inv], k _ fun _ => .int _⟩
theorem says_rfind : Says W (fun x y H Q => ∃ a b, x = .str a ∧ [y] = [V.str b] ∧ Q (.int (Txt.rfind a b)) H) gRfind := by
  intro x y d H P v u F G Q e o1 o2 k
  obtain ⟨m1, x⟩ := x
  obtain ⟨m2, y⟩ := y
  cases x <;> cases y <;> simp only [gRfind] at e <;> cases e
  exact ⟨_, _, o1.str_inv, by rw [o2.str_inv], k _ fun _ => .int _⟩
def txts : List D → Option (List Str)
  | [] => some []
  | .str x :: ds => (txts ds).map (x :: ·)
  | _ :: _ => none
theorem Owns.txts {H : Hp} {P : Addr → Prop} : ∀ {m : Mode} {vs : List V} {ds : List D} {F : List Addr} {ss : List Str}, Owns W H P m vs ds F → BV.txts ds = some ss → vs = ss.map V.str
  | _, _, _, _, _, .nil, e => by
    simp only [BV.txts, Option.some.injEq] at e
    subst e
    rfl
  | _, _, _, _, _, .cons (d := d) h t, e => by
    cases d <;> simp only [BV.txts] at e <;> try cases e
    obtain ⟨bs, e1, rfl⟩ := Option.map_eq_some_iff.mp e
    rw [h.str_inv, Owns.txts t e1]
    rfl
def gJoin : D → D → Option D
  | .str a, .lst ds => (txts ds).bind fun ss => if (ss.map (·.length)).sum + ss.length * a.length ≤ 16777216 then some (.str (Txt.join a ss)) else none
  | _, _ => none
theorem says_join : Says W (fun x y H Q => ∃ a p, ∃ ys : List Str, x = .str a ∧ [y] = [V.ref p] ∧ (SqL W.K H p (ys.map V.str) ∨ SqT W.K H p (ys.map V.str)) ∧ (ys.map (·.length)).sum + ys.length * a.length ≤ 16777216 ∧ Q (.str (Txt.join a ys)) H) gJoin := by
  intro x y d H P v u F G Q e o1 o2 k
  obtain ⟨m1, x⟩ := x
  obtain ⟨m2, y⟩ := y
  cases x <;> cases y <;> simp only [gJoin] at e <;> try cases e
  rename_i a0 _
  obtain ⟨ss, es, e2⟩ := Option.bind_eq_some_iff.mp e
  by_cases c : (ss.map (·.length)).sum + ss.length * a0.length ≤ 16777216
  · rw [if_pos c] at e2
    cases e2
    obtain ⟨q, ws, G', rfl, hq, hs, _⟩ := o2.lst_inv
    exact ⟨_, q, ss, o1.str_inv, rfl, .inl (by rw [← hs.txts es]; exact SqL.of hq), c, k _ fun _ => .str _⟩
  · rw [if_neg c] at e2; cases e2
theorem ge_join {apos : Pos} (hK : W.K = X.K) (ha : GE X W a ma) (hb : GE X W b mb) (hs : starEach [b] X.env = [(false, eval b X.env)]) (hbase : attributeBase a "join" X.env (eval a X.env) = eval a X.env) (hline : (apos.endLine == pos.line) = true) :
    GE X W (.Call (.Attribute a "join" apos) [b] [] pos) (mM1 gJoin ma mb) := ge_m1 (fun _ _ h1 h2 => pe_join h1 h2 hs hbase hline) (by rw [← hK]; exact says_join) ha hb
theorem ge_count {apos : Pos} (ha : GE X W a ma) (hb : GE X W b mb) (hs : starEach [b] X.env = [(false, eval b X.env)]) (hbase : attributeBase a "count" X.env (eval a X.env) = eval a X.env) (hline : (apos.endLine == pos.line) = true) :
    GE X W (.Call (.Attribute a "count" apos) [b] [] pos) (mM1 gCount ma mb) := ge_m1 (fun _ _ h1 h2 => pe_m1 F.slot_str_count F.type_str_count mt_count h1 h2 hs hbase hline) says_count ha hb
theorem ge_rfind {apos : Pos} (ha : GE X W a ma) (hb : GE X W b mb) (hs : starEach [b] X.env = [(false, eval b X.env)]) (hbase : attributeBase a "rfind" X.env (eval a X.env) = eval a X.env) (hline : (apos.endLine == pos.line) = true) :
    GE X W (.Call (.Attribute a "rfind" apos) [b] [] pos) (mM1 gRfind ma mb) := ge_m1 (fun _ _ h1 h2 => pe_m1 F.slot_str_rfind F.type_str_rfind mt_rfind h1 h2 hs hbase hline) says_rfind ha hb
end

/-! ### list(text) -/
section
variable {X : Cx} {W : Wd}
def rListTxt : List V → Hp → VK → Prop := fun xs H Q => ∃ z : Str, xs = [.str z] ∧ z.length ≤ sizeLine ∧ ∀ l, H l = none → Q (.ref l) (upd H l (.lst (z.cps.toList.map fun c => .str ⟨#[c]⟩)))
theorem paired_by {α β : Type} {R : α → β → Prop} : ∀ {l : List α} {m : List β}, l.length = m.length → (∀ (j : Nat) (b : β), m[j]? = some b → ∃ a, l[j]? = some a ∧ R a b) → Paired R l m
  | [], [], _, _ => .nil
  | [], _ :: _, h, _ => by simp at h
  | _ :: _, [], h, _ => by simp at h
  | a :: l, b :: m, h, k => by
    obtain ⟨a', e, r⟩ := k 0 b rfl
    simp at e
    subst e
    exact .cons r (paired_by (by simpa using h) fun j b' e => by simpa using k (j + 1) b' (by simpa using e))
theorem signs_vals {z : Str} {acc : Array Value} (h : ItemsOf (SignAt z) acc z.cps.size) : Vals (z.cps.toList.map fun c => V.str ⟨#[c]⟩) acc.toList := by
  refine paired_by (by simp [h.1]) fun j b e => ?_
  have e' : acc[j]? = some b := by simpa using e
  obtain ⟨c, u, e1, rfl⟩ := h.2 j b e'
  refine ⟨.str ⟨#[c]⟩, ?_, ⟨u, rfl⟩⟩
  rw [List.getElem?_map]
  have : z.cps.toList[j]? = some c := by simpa using e1
  rw [this]
  rfl
theorem call_listTxt (hc : X.calm = true) : CallR X (.type "list") rListTxt := by
  intro pins s σ H xs us Q I r h
  obtain ⟨z, rfl, hz, q⟩ := h
  obtain ⟨u, rfl, t, rfl⟩ := vals1 r
  refine call_list_str (I.ok.hd hc) z t (fun h' tk acc' c' kp e it => ?_) hz
  have r' := signs_vals it
  have hz' : (z.cps.toList.map fun c => V.str ⟨#[c]⟩).length ≤ sizeLine := by rw [List.length_map, Array.length_toList]; exact hz
  exact ⟨.ref s.heap.objs.size, _, I.laid (t' := tk) kp (Nat.le_refl _) (show ObjOk X.prog X.w _ h' _ (.lst _) from ⟨hz', acc'.toList, c', r', e⟩), rfl, q _ (I.hok.fresh (Nat.le_refl _))⟩
def gListTxt : List Val → Option Val
  | [(_, .str z)] => if z.length ≤ sizeLine then some (.all, .lst (z.cps.toList.map fun c => .str ⟨#[c]⟩)) else none
  | _ => none
theorem owns_signs {H : Hp} {P : Addr → Prop} : ∀ cs : List Nat, Owns W H P .all (cs.map fun c => V.str ⟨#[c]⟩) (cs.map fun c => D.str ⟨#[c]⟩) []
  | [] => .nil
  | c :: cs => .cons (F := []) (.str _) (owns_signs cs)
theorem says_listTxt : SaysC rListTxt W gListTxt := by
  intro xs z w σ H Z Fs H1 Z1 env Fs1 vs F Q e p h
  unfold gListTxt at e
  split at e
  · split at e
    · rename_i c
      simp only [Option.some.injEq] at e
      subst e
      obtain ⟨v, rfl, o⟩ := p.own.one
      have := o.str_inv
      subst this
      exact ⟨_, rfl, c, fun l n => h _ _ _ _ _ (p.newLst (m := .all) n (fun z => nomatch z) (owns_signs _) (fun _ z => (nomatch z)) List.nodup_nil)⟩
    · cases e
  · cases e
end
end BV
set_option maxHeartbeats 2000000
/-! BV25: closures: the making. -/
namespace BV
open PySem PySem.Spec PyProof.Rows L2 LamX

/-- the very object stands at a -/
def exactO (a : Addr) (o : Obj) : HO := .ext fun h => h.get? a = some o
theorem exactO_ok {P : Program} {w : World} {H : Hp} {h : Heap} {a : Addr} {o : Obj} (e : h.get? a = some o) : ObjOk P w H h a (exactO a o) := ⟨e, ⟨o, e⟩, fun h1 h2 q k => k o q⟩
theorem exactO_at {P : Program} {w : World} {H : Hp} {h : Heap} {a : Addr} {o : Obj} (ok : HOk P w H h) (e : H a = some (exactO a o)) : h.get? a = some o := (show ObjOk P w H h a (exactO a o) from ok a _ e).1
theorem codeO_tbl {c : Addr} {q : Str} : ¬ Tbl (CodeO c q) := fun z => z
/-- a lambda's names: parameters ps, captured ones, globals -/
structure LamP (sc scope : Scope) (ps : List Str) : Prop where
  kind : scope.kind = .function
  co : scope.isCoroutine = false
  gen : scope.isGenerator = false
  nocell : ∀ y ∈ scope.names, y.2 ≠ .cell
  par : ∀ x ∈ ps, scope.names.lookup x = some .local
  nd : ps.Nodup
  free : ∀ y ∈ scope.names, y.2 = .free → sc.names.lookup y.1 = some .cell ∨ sc.names.lookup y.1 = some .free
def lamPB (sc scope : Scope) (ps : List Str) : Bool :=
  decide (scope.kind = .function) && (!scope.isCoroutine && (!scope.isGenerator && ((scope.names.all fun y => !decide (y.2 = .cell)) && ((ps.all fun x => decide (scope.names.lookup x = some .local)) && (decide ps.Nodup && scope.names.all fun y => !decide (y.2 = .free) || (decide (sc.names.lookup y.1 = some .cell) || decide (sc.names.lookup y.1 = some .free)))))))
theorem lamP_by {sc scope : Scope} {ps : List Str} (h : lamPB sc scope ps = true) : LamP sc scope ps := by
  unfold lamPB at h
  simp only [Bool.and_eq_true, Bool.or_eq_true, Bool.not_eq_true', decide_eq_true_eq, decide_eq_false_iff_not, List.all_eq_true] at h
  obtain ⟨h1, h2, h3, h4, h5, h6, h7⟩ := h
  exact ⟨h1, h2, h3, h4, h5, h6, fun y hy e => (h7 y hy).elim (fun z => absurd e z) id⟩
theorem LamP.has {X : Cx} {scope : Scope} {ps : List Str} (L : LamP X.env.scope scope ps) (ok : X.Ok) : ∀ y ∈ scope.names, y.2 = .free → ∃ c, X.env.cells.lookup y.1 = some c := fun y hy e => by
  rcases L.free y hy e with k | k
  · exact ok.has _ (.inl k)
  · exact ok.has _ (.inr k)
section
variable {X : Cx} {W : Wd} {ps : List Str} {c P : Addr} {params : Arguments} {body : Expr} {scope : Scope} {pos : Pos} {q : Str}
/-- the object of a lambda that X's frame makes -/
abbrev lamObj (X : Cx) (q : Str) (params : Arguments) (body : Expr) (scope : Scope) (pm ctv : Value) (c' : Addr) : Obj := PySem.W.kla_obj "<lambda>" q params body scope (cloFrom X.env.cells scope.names []) pm c' ctv
def tLamE (X : Cx) (W : Wd) (q : Str) (params : Arguments) (body : Expr) (scope : Scope) : TE := fun σ H Q => Tabs W.T H ∧ ∀ f c' pm ctv H2, Fr W (fun _ => False) H H2 → H f = none → H2 f = some (exactO f (lamObj X q params body scope pm ctv c')) → H2 c' = some (CodeO c' q) → Q (.ref f) H2
theorem pe_lam (TB : TabB X.base X.mg c P) (hcode : X.env.code = .ref c) (hq : X.env.qual ++ "<lambda>" = q) (hm : (P, q) ∈ W.T) (hu : ∀ p ∈ W.T, p.1 = P → p.2 = q) (L : LamP X.env.scope scope ps) (hdef : defaultsOf params X.env = ([], [])) :
    PE X (.Lambda params body scope pos) (tLamE X W q params body scope) := by
  subst hq
  refine ⟨fun pins s σ H Q I h => ?_⟩
  obtain ⟨hT, h⟩ := h
  have hfree := L.has I.ok
  obtain ⟨ps, hP, ht, ha⟩ := hT _ hm
  refine PySem.W.kla_eval hdef ?_
  have bP : s.heap.BuiltinsAt X.mg P := TB.bm.keeps I.bk
  have hP' : s.heap.get? P = some { cls := .none, data := .fields ps } := I.hok P _ hP
  cases hc : codeAmong pos ps.toList with
  | some cv =>
    obtain ⟨c', rfl, hco⟩ := ha pos cv hc
    refine PySem.W.kla_makeFunctionHit (mg := X.mg) (c := c) (P := P) (ps := ps) (closure_ok hfree) I.ok.glob (I.mod.glob.keeps I.bk) hcode (TB.code.keeps I.bk) hP' ht hc bP fun ctv h' tk hx hsz => ?_
    have nf : H h'.objs.size = none := I.hok.fresh hsz
    have I2 := I.laid (t' := tk) (a := h'.objs.size) (h' := h'.push (lamObj X (X.env.qual ++ "<lambda>") params body scope ((X.mg "__name__").getD .none) ctv c')) (fun b o e => Heap.get?_push_of_some _ (hx b o e)) hsz (exactO_ok (Heap.get?_push_size _ rfl))
    refine ⟨.ref h'.objs.size, _, I2, rfl, h _ c' _ ctv _ (Fr.new nf) nf upd_same ?_⟩
    rw [upd_ne (ne_of_none hco nf)]
    exact hco
  | none =>
    refine PySem.W.kla_makeFunction (mg := X.mg) (c := c) (P := P) (ps := ps) (closure_ok hfree) I.ok.glob (I.mod.glob.keeps I.bk) hcode (TB.code.keeps I.bk) hP' ht hc TB.gP bP fun c' ctv h' tk hx hge hlt hrec htb => ?_
    obtain ⟨c2, oc, vs, t, e2, hoc, hd, hv⟩ := hrec
    cases e2
    have hsz : s.heap.objs.size ≤ h'.objs.size := Nat.le_trans hge (Nat.le_of_lt hlt)
    have nC : H c' = none := I.hok.fresh hge
    have nf : H h'.objs.size = none := I.hok.fresh hsz
    have I1 := inv_table (q := X.env.qual ++ "<lambda>") (t' := tk) (more := #[rawInt pos.line, rawInt pos.col, .ref c']) (h' := h') I hP (fun b o hb e => hx b o hb e) htb hge ⟨oc, vs, t, hoc, hd, hv⟩
    generalize hH1 : upd (upd H P (.tbl (ps ++ #[rawInt pos.line, rawInt pos.col, .ref c']))) c' (CodeO c' (X.env.qual ++ "<lambda>")) = H1 at I1
    have at1 : ∀ b, b ≠ c' → b ≠ P → H1 b = H b := fun b h1 h2 => by rw [← hH1, upd_ne h1, upd_ne h2]
    have atC : H1 c' = some (CodeO c' (X.env.qual ++ "<lambda>")) := by rw [← hH1, upd_same]
    have nPc : P ≠ c' := ne_of_none hP nC
    have atP : H1 P = some (.tbl (ps ++ #[rawInt pos.line, rawInt pos.col, .ref c'])) := by rw [← hH1, upd_ne nPc, upd_same]
    have nf1 : H1 h'.objs.size = none := I1.hok.fresh (Nat.le_refl _)
    have I2 := I1.laid (t' := tk) (a := h'.objs.size) (h' := h'.push (lamObj X (X.env.qual ++ "<lambda>") params body scope ((X.mg "__name__").getD .none) ctv c')) (fun b o e => Heap.get?_push_of_some _ e) (Nat.le_refl _) (exactO_ok (Heap.get?_push_size _ rfl))
    have eL : (ps ++ #[rawInt pos.line, rawInt pos.col, .ref c']).toList = ps.toList ++ [rawInt pos.line, rawInt pos.col, .ref c'] := by simp
    have keep : ∀ b o, H b = some o → ¬ Tbl o → H1 b = some o := fun b o e nt => by
      rw [at1 b (ne_of_none e nC) fun z => by rw [z, hP] at e; cases e; exact nt trivial]
      exact e
    have f1 : Fr W (fun _ => False) H H1 := ⟨fun b o e _ nt => keep b o e nt, fun T p hp => by
      by_cases hb : p.1 = P
      · rw [hu p hp hb, hb]
        refine ⟨_, atP, by rw [eL]; exact PySem.TriplesOk_snoc _ _ _ _ ht, fun p' cv hcv => ?_⟩
        rw [eL] at hcv
        rcases among_app _ ht hcv with z | z
        · obtain ⟨c0, e1, e2⟩ := ha p' cv z
          exact ⟨c0, e1, keep _ _ e2 codeO_tbl⟩
        · exact ⟨c', z, atC⟩
      · obtain ⟨ps', a1, a2, a3⟩ := T p hp
        refine ⟨ps', by rw [at1 _ (ne_of_none a1 nC) hb]; exact a1, a2, fun p' cv hcv => ?_⟩
        obtain ⟨c0, e1, e2⟩ := a3 p' cv hcv
        exact ⟨c0, e1, keep _ _ e2 codeO_tbl⟩, fun b hb => by
      by_cases e1 : b = c'
      · rw [e1, atC]; exact fun z => nomatch z
      · by_cases e2 : b = P
        · rw [e2, atP]; exact fun z => nomatch z
        · rw [at1 b e1 e2]; exact hb⟩
    have f2 : Fr W (fun _ => False) H1 (upd H1 h'.objs.size (exactO h'.objs.size (lamObj X (X.env.qual ++ "<lambda>") params body scope ((X.mg "__name__").getD .none) ctv c'))) := Fr.new nf1
    refine ⟨.ref h'.objs.size, _, I2, rfl, h _ c' _ ctv _ ⟨fun b o e k t => f2.keep b o (f1.keep b o e k t) k t, fun T => f2.tabs (f1.tabs T), fun b hb => f2.there b (f1.there b hb)⟩ nf upd_same ?_⟩
    rw [upd_ne (ne_of_none atC nf1)]
    exact atC
end
end BV
set_option maxHeartbeats 2000000
/-! BV26: a, b = x, y; text * int. -/
namespace BV
open PySem PySem.Spec PyProof.Rows L2

/-- values into slots, one behind another -/
def putAll (mp : List Nat) : List Nat → List Val → Env → Option Env
  | [], [], env => some env
  | i :: is, x :: xs, env => if i ∈ mp then none else putAll mp is xs (env.set i (some (nrm x)))
  | _, _, _ => none
def setAll : List Nat → List V → L2.St → L2.St
  | i :: is, v :: vs, σ => setAll is vs (σ.set i (some v))
  | _, _, σ => σ
def mPar (mp is : List Nat) (ma : M (List Val)) : M Fl := ma.bind fun xs env => match putAll mp is xs env with
  | some env' => .ok .nx env'
  | none => .bad
section
variable {W : Wd} {w : WX} {mp : List Nat} {σ σ1 : L2.St} {H H1 H2 : Hp} {Z Z1 Z2 : Addr → Prop} {Fs Fs1 Fs2 : Nat → List Addr} {env env' : Env} {F : List Addr}
theorem PostP.putAll : ∀ {is : List Nat} {xs : List Val} {vs : List V} {σ1 : L2.St} {env env' : Env} {Fs1 : Nat → List Addr} {F : List Addr}, PostP W mp σ H Z Fs σ1 H1 Z1 env Fs1 xs vs F → BV.putAll mp is xs env = some env' → ∃ Fs2 F2, PostP W mp σ H Z Fs (setAll is vs σ1) H1 Z1 env' Fs2 [] [] F2
  | [], [], vs, σ1, env, env', Fs1, F, p, h => by
    simp only [BV.putAll, Option.some.injEq] at h
    subst h
    have := p.own.length
    have : vs = [] := by cases vs <;> first | rfl | cases this
    subst this
    exact ⟨Fs1, F, p⟩
  | [], _ :: _, _, _, _, _, _, _, _, h => by simp [BV.putAll] at h
  | _ :: _, [], _, _, _, _, _, _, _, h => by simp [BV.putAll] at h
  | i :: is, x :: xs, vs, σ1, env, env', Fs1, F, p, h => by
    simp only [BV.putAll] at h
    split at h
    · cases h
    · rename_i c
      obtain ⟨v, vr, F1, F2, rfl, _, _, _⟩ := p.own.inv
      obtain ⟨Fs3, F3, q⟩ := p.put c
      have r := PostP.putAll q h
      exact r
/-- argument lists within a statement -/
theorem rs_args {ma : M (List Val)} {k : List Val → M Fl} {D : Ends} (S : Sim W H Z σ env Fs) (h : FinS W w mp σ H Z Fs ((ma.bind k) env) D) :
    rdA W w ma σ H fun vs H2 => ∃ Z2 env2 Fs2 ys Fy, PostL W H Z Fs σ H2 Z2 env2 Fs2 ys vs Fy ∧ FinS W w mp σ H Z Fs (k ys env2) D := by
  refine ⟨Z, env, Fs, S, ?_⟩
  have h : FinS W w mp σ H Z Fs ((ma env).bind k) D := h
  cases e : ma env with
  | ok y e2 =>
    rw [e] at h
    exact fun H' Z' Fs' v Fx q => ⟨Z', e2, Fs', y, Fx, q, h⟩
  | exc c fs e2 =>
    rw [e] at h
    exact fun H' Z' Fs' cls dd q => h _ _ _ _ _ _ q.toS
  | bad =>
    rw [e] at h
    exact h
theorem putAll_len : ∀ {is : List Nat} {xs : List Val} {env env' : Env}, BV.putAll mp is xs env = some env' → xs.length = is.length
  | [], [], _, _, _ => rfl
  | [], _ :: _, _, _, h => by simp [BV.putAll] at h
  | _ :: _, [], _, _, h => by simp [BV.putAll] at h
  | i :: is, x :: xs, _, _, h => by
    simp only [BV.putAll] at h
    split at h
    · cases h
    · simp [putAll_len h]
end
section
variable {X : Cx} {W : Wd} {mp : List Nat} {ma : M (List Val)} {pos : Pos}
theorem gs_par2 {i j : Nat} {x y : Str} {a b : Expr} {px py pt : Pos} {kt k2 pt2} (hc : X.calm = true) (hN : X.N.Nodup) (hi : X.N[i]? = some x) (hj : X.N[j]? = some y) (hij : i ≠ j)
    (hx : X.env.scope.names.lookup x = some .local) (hy : X.env.scope.names.lookup y = some .local) (ha : GA X W [a, b] ma)
    (hw : swappedStores [.Tuple [.Name x px, .Name y py] kt pt] (.Tuple [a, b] k2 pt2) X.env = pure (some [x, y]))
    (hs : swapsWithSole [.Tuple [.Name x px, .Name y py] kt pt] (.Tuple [a, b] k2 pt2) pos.line X.env = pure false) :
    GS X W mp (.Assign [.Tuple [.Name x px, .Name y py] kt pt] (.Tuple [a, b] k2 pt2) pos) (mPar mp [i, j] ma) := fun w tk => by
  refine ps_imp (ps_par hc hN hi hj hij hx hy (ha w tk) hw hs) fun D σ H h => ?_
  obtain ⟨Z, env, Fs, S, h⟩ := h
  refine rdA_mono (rs_args S h) fun vs H1 ⟨Z2, env2, Fs2, ys, Fy, p, h2⟩ => ?_
  cases e : putAll mp [i, j] ys env2 with
  | none => rw [e] at h2; exact h2.elim
  | some env' =>
    rw [e] at h2
    obtain ⟨Fs3, F3, q⟩ := (p.toP (mp := mp)).putAll e
    have hl := p.own.length
    rw [putAll_len e] at hl
    obtain ⟨v, u, rfl⟩ : ∃ v u, vs = [v, u] := by
      match vs, hl with
      | [v, u], _ => exact ⟨v, u, rfl⟩
    exact ⟨v, u, rfl, h2 _ _ _ _ q.toS⟩
theorem gs_par3 {i j l : Nat} {x y z : Str} {a b c : Expr} {px py pz pt : Pos} {kt k2 pt2} (hc : X.calm = true) (hN : X.N.Nodup) (hi : X.N[i]? = some x) (hj : X.N[j]? = some y) (hl : X.N[l]? = some z) (hij : i ≠ j) (hil : i ≠ l) (hjl : j ≠ l)
    (hx : X.env.scope.names.lookup x = some .local) (hy : X.env.scope.names.lookup y = some .local) (hz : X.env.scope.names.lookup z = some .local) (ha : GA X W [a, b, c] ma)
    (hw : swappedStores [.Tuple [.Name x px, .Name y py, .Name z pz] kt pt] (.Tuple [a, b, c] k2 pt2) X.env = pure (some [x, y, z]))
    (hs : swapsWithSole [.Tuple [.Name x px, .Name y py, .Name z pz] kt pt] (.Tuple [a, b, c] k2 pt2) pos.line X.env = pure false) :
    GS X W mp (.Assign [.Tuple [.Name x px, .Name y py, .Name z pz] kt pt] (.Tuple [a, b, c] k2 pt2) pos) (mPar mp [i, j, l] ma) := fun w tk => by
  refine ps_imp (ps_par3 hc hN hi hj hl hij hil hjl hx hy hz (ha w tk) hw hs) fun D σ H h => ?_
  obtain ⟨Z, env, Fs, S, h⟩ := h
  refine rdA_mono (rs_args S h) fun vs H1 ⟨Z2, env2, Fs2, ys, Fy, p, h2⟩ => ?_
  cases e : putAll mp [i, j, l] ys env2 with
  | none => rw [e] at h2; exact h2.elim
  | some env' =>
    rw [e] at h2
    obtain ⟨Fs3, F3, q⟩ := (p.toP (mp := mp)).putAll e
    have hl := p.own.length
    rw [putAll_len e] at hl
    obtain ⟨v, u, t, rfl⟩ : ∃ v u t, vs = [v, u, t] := by
      match vs, hl with
      | [v, u, t], _ => exact ⟨v, u, t, rfl⟩
    exact ⟨v, u, t, rfl, h2 _ _ _ _ q.toS⟩
end

/-! ### text * int -/
def gRepS : D → D → Option D
  | .str x, .int n => if -(2 ^ 63) ≤ n ∧ n < 2 ^ 63 ∧ 0 < x.length ∧ x.length * n.toNat ≤ sizeLine then some (.str ⟨(List.replicate n.toNat x.cps).foldl (· ++ ·) #[]⟩) else none
  | _, _ => none
abbrev rRepS : R2 := fun x y H Q => ∃ (z : Str) (n : Int), x = .str z ∧ y = .int n ∧ -(2 ^ 63) ≤ n ∧ n < 2 ^ 63 ∧ 0 < z.length ∧ z.length * n.toNat ≤ sizeLine ∧ Q (.str ⟨(List.replicate n.toNat z.cps).foldl (· ++ ·) #[]⟩) H
theorem rep_size (a : Array Nat) : ∀ (k : Nat) (acc : Array Nat), ((List.replicate k a).foldl (· ++ ·) acc).size = acc.size + k * a.size
  | 0, acc => by simp
  | k + 1, acc => by
    rw [List.replicate_succ, List.foldl_cons, rep_size a k, Array.size_append, Nat.succ_mul]
    omega
theorem op_repS {X : Cx} : OpR X (binaryOp .Mult) rRepS := by
  intro pins s σ H x y v u Q I rx ry h
  obtain ⟨z, n, rfl, rfl, h1, h2, h3, h4, q⟩ := h
  obtain ⟨t, rfl⟩ := rx
  obtain ⟨t', rfl⟩ := ry
  have hs : sizeLine = 16777216 := sizeLine_eq
  refine P.mul_str (by simp; omega) (fun a b c => ?_) (fun a b => ?_) ?_
  · have hn : 0 < n := by omega
    have : (z.length : Int) * n ≤ 2 ^ 63 - 1 := by
      have e : ((z.length * n.toNat : Nat) : Int) = (z.length : Int) * n := by rw [Int.natCast_mul, Int.toNat_of_nonneg (by omega)]
      rw [← e]
      omega
    have := Int.le_ediv_of_mul_le hn this
    omega
  · simpa [Builtin.Str.tooLong] using h4
  · by_cases c : n < 1
    · rw [if_pos c]
      have e : n.toNat = 0 := by omega
      rw [e] at q
      exact ⟨Nat.zero_le _, .str Str.empty, H, I.tok _, ⟨_, rfl⟩, q⟩
    · rw [if_neg c]
      by_cases c2 : (n == 1 || z.length == 0) = true
      · rw [if_pos c2]
        have c3 : n = 1 := by
          simp at c2
          omega
        subst c3
        refine ⟨.str z, H, I, ⟨_, rfl⟩, ?_⟩
        have : (⟨(List.replicate (1 : Int).toNat z.cps).foldl (· ++ ·) #[]⟩ : Str) = z := by simp
        rw [this] at q
        exact q
      · rw [if_neg c2]
        refine ⟨?_, .str _, H, I.tok _, ⟨_, rfl⟩, q⟩
        show ((List.replicate n.toNat z.cps).foldl (· ++ ·) #[]).size ≤ sizeLine
        rw [rep_size, Nat.mul_comm]
        have h5 : z.cps.size * n.toNat ≤ sizeLine := h4
        simpa using h5
theorem says_repS {W : Wd} : Says W rRepS gRepS := by
  intro x y d H P v u F G Q e o1 o2 k
  obtain ⟨m1, x⟩ := x
  obtain ⟨m2, y⟩ := y
  unfold gRepS at e
  dsimp only at e o1 o2
  split at e
  · split at e
    · rename_i c
      cases e
      exact ⟨_, _, o1.str_inv, o2.int_inv, c.1, c.2.1, c.2.2.1, c.2.2.2, k _ fun _ => .str _⟩
    · cases e
  · cases e
theorem ge_timesS {X : Cx} {W : Wd} {a b : Expr} {pos : Pos} {ma mb : M Val} (ha : GE X W a ma) (hb : GE X W b mb) : GE X W (.BinOp a .Mult b pos) (mOp2 gRepS ma mb) := ge_op2 (fun _ _ h1 h2 => pe_op op_repS h1 h2) says_repS ha hb
end BV
set_option maxHeartbeats 2000000
/-! BV27: calls with lambdas as arguments: the callee runs in a world that knows them. -/
namespace BV
open PySem PySem.Spec PyProof.Rows L2

mutual
/-- no closure in it -/
def D.noclo : D → Bool
  | .tup ds => nocloAll ds
  | .lst ds => nocloAll ds
  | .dic _ kvs => nocloKV kvs
  | .ins _ fs => nocloF fs
  | .clo _ _ => false
  | _ => true
def nocloAll : List D → Bool
  | [] => true
  | d :: ds => d.noclo && nocloAll ds
def nocloKV : List (D × D) → Bool
  | [] => true
  | kv :: r => kv.2.noclo && nocloKV r
def nocloF : List (Str × Mode × D) → Bool
  | [] => true
  | kv :: r => kv.2.2.noclo && nocloF r
end
theorem noclo_zip : ∀ {ks ds : List D}, nocloKV (ks.zip ds) = true → ks.length = ds.length → nocloAll ds = true
  | [], [], _, _ => rfl
  | [], _ :: _, _, h => by simp at h
  | _ :: _, [], _, h => by simp at h
  | k :: ks, d :: ds, h, l => by
    simp only [List.zip_cons_cons, nocloKV, Bool.and_eq_true] at h
    simp only [nocloAll, Bool.and_eq_true]
    exact ⟨h.1, noclo_zip h.2 (by simpa using l)⟩
section
variable {W W' : Wd} {H : Hp} {P : Addr → Prop}
mutual
theorem Own.unworld (l : W.Like W') (hp : W'.pin = W.pin) : ∀ {m v d F}, Own W' H P m v d F → d.noclo = true → Own W H P m v d F
  | _, _, _, _, .non, _ => .non
  | _, _, _, _, .bl b, _ => .bl b
  | _, _, _, _, .int i, _ => .int i
  | _, _, _, _, .str x, _ => .str x
  | _, _, _, _, .ty n, _ => .ty n
  | _, _, _, _, .glo e, _ => .glo (by rw [← l.mg]; exact e)
  | _, _, _, _, .tup e h, i => .tup e (Owns.unworld l hp h (by simpa only [D.noclo] using i))
  | _, _, _, _, .lstS p e h, i => .lstS p e (Owns.unworld l hp h (by simpa only [D.noclo] using i))
  | _, _, _, _, .lstO n e h, i => .lstO n e (Owns.unworld l hp h (by simpa only [D.noclo] using i))
  | _, _, _, _, .dKS p e h, i => .dKS p e (Owns.unworld l hp h (noclo_zip (by simpa only [D.noclo] using i) (by have := h.length; simpa using this)))
  | _, _, _, _, .dKO n k e h, i => .dKO n k e (Owns.unworld l hp h (noclo_zip (by simpa only [D.noclo] using i) (by have := h.length; simpa using this)))
  | _, _, _, _, .dTS p e h, i => .dTS p e (Owns.unworld l hp h (noclo_zip (by simpa only [D.noclo] using i) (by have := h.length; simpa using this)))
  | _, _, _, _, .dTO n k e h, i => .dTO n k e (Owns.unworld l hp h (noclo_zip (by simpa only [D.noclo] using i) (by have := h.length; simpa using this)))
  | _, _, _, _, .insS p c e h, i => .insS p (by rw [← l.mg]; exact c) e (OwnF.unworld l hp h (by simpa only [D.noclo] using i))
  | _, _, _, _, .insO n c e h, i => .insO n (by rw [← l.mg]; exact c) e (OwnF.unworld l hp h (by simpa only [D.noclo] using i))
  | _, _, _, _, .scr e, _ => .scr (e.world l.K.symm)
  | _, _, _, _, .pin p e h, _ => .pin p (by rw [← hp]; exact e) h
  | _, _, _, _, .clo c h, i => by simp [D.noclo] at i
theorem Owns.unworld (l : W.Like W') (hp : W'.pin = W.pin) : ∀ {m vs ds F}, Owns W' H P m vs ds F → nocloAll ds = true → Owns W H P m vs ds F
  | _, _, _, _, .nil, _ => .nil
  | _, _, _, _, .cons h t, i => by
    simp only [nocloAll, Bool.and_eq_true] at i
    exact .cons (Own.unworld l hp h i.1) (Owns.unworld l hp t i.2)
theorem OwnF.unworld (l : W.Like W') (hp : W'.pin = W.pin) : ∀ {m fs fds F}, OwnF W' H P m fs fds F → nocloF fds = true → OwnF W H P m fs fds F
  | _, _, _, _, .nil, _ => .nil
  | _, _, _, _, .consS h t, i => by
    simp only [nocloF, Bool.and_eq_true] at i
    exact .consS (Own.unworld l hp h i.1) (OwnF.unworld l hp t i.2)
  | _, _, _, _, .consT h t, i => by
    simp only [nocloF, Bool.and_eq_true] at i
    exact .consT (Own.unworld l hp h i.1) (OwnF.unworld l hp t i.2)
  | _, _, _, _, .consA h t, i => by
    simp only [nocloF, Bool.and_eq_true] at i
    exact .consA (Own.unworld l hp h i.1) (OwnF.unworld l hp t i.2)
end
end
/-- what the caught slots hold: shared or plain -/
def caughtD (env : Env) : List Nat → Option (List D)
  | [] => some []
  | i :: is => match env[i]? with
    | some (some x) => if x.2.imm = true ∨ x.1 = .shr then (caughtD env is).map (x.2 :: ·) else none
    | _ => none
def Caught (σ : L2.St) (is : List Nat) (ws : List V) : Prop := is.map (fun i => (σ[i]?).join) = ws.map some
/-- the lambdas as closures -/
def resolve (env : Env) : List AV → Option (List AV)
  | [] => some []
  | .l k is :: as => match caughtD env is, resolve env as with
    | some ds, some r => some (.v (.shr, .clo k ds) :: r)
    | _, _ => none
  | a :: as => (resolve env as).map (a :: ·)
/-- the world with the lambdas of this frame; caps: what each catches -/
def Wd.plus (W : Wd) (caps : Nat → List Nat) (σ : L2.St) : Wd := { W with
  cl := fun k f ws H => W.cl k f ws H ∨ (W.lm k (caps k) f H ∧ Caught σ (caps k) ws)
  clS := fun k f ws H H' h e => h.imp (fun h => W.clS k f ws H H' h e) fun h => ⟨W.lmS k (caps k) f H H' h.1 e, h.2⟩ }
section
variable {W : Wd} {w : WX} {σ : L2.St} {H H1 H2 : Hp} {Z Z1 Z2 : Addr → Prop} {Fs Fs1 Fs2 Fp : Nat → List Addr} {env env1 back : Env} {as as' : List AV} {vs : List V} {F Fx : List Addr} {x : Val} {v : V} {caps : Nat → List Nat}
theorem Wd.plus_like : W.Like (W.plus caps σ) := ⟨rfl, rfl, rfl⟩
theorem Own.plus {P : Addr → Prop} {m : Mode} {d : D} (o : Own W H P m v d F) : Own (W.plus caps σ) H P m v d F := o.world Wd.plus_like rfl fun _ _ _ h => .inl h
theorem Sim.plus (S : Sim W H Z σ env Fs) {σ' : L2.St} : Sim (W.plus caps σ') H Z σ env Fs :=
  ⟨fun i x e => let ⟨v, e1, o⟩ := S.rep i x e; ⟨v, e1, o.plus⟩, S.off, S.dis, S.nd, S.sub, S.zdom, S.len, S.tabs⟩
theorem caught_own (S : Sim W H Z σ env Fs) : ∀ {is : List Nat} {ds : List D}, caughtD env is = some ds → ∃ ws, Caught σ is ws ∧ Owns W H (fun a => ¬ Z a) .shr ws ds []
  | [], ds, h => by
    simp only [caughtD, Option.some.injEq] at h
    subst h
    exact ⟨[], rfl, .nil⟩
  | i :: is, ds, h => by
    simp only [caughtD] at h
    split at h
    · rename_i x e
      split at h
      · rename_i c
        obtain ⟨r, er, rfl⟩ := Option.map_eq_some_iff.mp h
        obtain ⟨ws, h1, h2⟩ := caught_own S er
        obtain ⟨v, e1, o⟩ := S.rep i x e
        refine ⟨v :: ws, ?_, .cons (F := []) ?_ h2⟩
        · unfold Caught at h1 ⊢
          rw [List.map_cons, List.map_cons, h1, e1]
          rfl
        · rcases c with c | c
          · exact (o.of_imm c).2 _ _
          · rw [c] at o
            have := o.shr_nil
            rw [this] at o
            exact o
      · cases h
    · cases h
theorem OwnA.resolve (S : Sim W H Z σ env Fs) (hc : ∀ k is f H, W.lm k is f H → caps k = is) : ∀ {as as' : List AV} {vs : List V} {F : List Addr}, OwnA W H (fun a => ¬ Z a) σ as vs F → BV.resolve env as = some as' → OwnA (W.plus caps σ) H (fun a => ¬ Z a) σ as' vs F
  | _, _, _, _, .nil, h => by simp only [BV.resolve, Option.some.injEq] at h; subst h; exact .nil
  | _, _, _, _, .val o t, h => by
    simp only [BV.resolve] at h
    obtain ⟨r, er, rfl⟩ := Option.map_eq_some_iff.mp h
    exact .val o.plus (OwnA.resolve S hc t er)
  | _, _, _, _, .mut e t, h => by
    simp only [BV.resolve] at h
    obtain ⟨r, er, rfl⟩ := Option.map_eq_some_iff.mp h
    exact .mut e (OwnA.resolve S hc t er)
  | .l k is :: as, as', _, _, .lam hl t, h => by
    simp only [BV.resolve] at h
    split at h
    · rename_i ds r ed er
      simp only [Option.some.injEq] at h
      subst h
      obtain ⟨ws, h1, h2⟩ := caught_own S ed
      have hk := hc k is _ _ hl
      have o : Own (W.plus caps σ) H (fun a => ¬ Z a) .shr (.ref _) (.clo k ds) [] := .clo (ws := ws) (.inr ⟨by rw [hk]; exact hl, by rw [hk]; exact h1⟩) (h2.world Wd.plus_like rfl fun _ _ _ h => .inl h)
      exact .val (x := (.shr, .clo k ds)) (F := []) o (OwnA.resolve S hc t er)
    · cases h
end
end BV
set_option maxHeartbeats 2000000
/-! BV28: calls with lambdas. -/
namespace BV
open PySem PySem.Spec PyProof.Rows L2

theorem resolve_get {env : Env} : ∀ {as as' : List AV}, resolve env as = some as' → as'.length = as.length ∧ ∀ (i j : Nat), as'[i]? = some (AV.m j) ↔ as[i]? = some (AV.m j)
  | [], _, h => by simp only [resolve, Option.some.injEq] at h; subst h; exact ⟨rfl, fun _ _ => Iff.rfl⟩
  | .v x :: as, _, h => by
    simp only [resolve] at h
    obtain ⟨r, er, rfl⟩ := Option.map_eq_some_iff.mp h
    obtain ⟨h1, h2⟩ := resolve_get er
    refine ⟨by simp [h1], fun i j => ?_⟩
    cases i with
    | zero => simp
    | succ i => simpa using h2 i j
  | .m x :: as, _, h => by
    simp only [resolve] at h
    obtain ⟨r, er, rfl⟩ := Option.map_eq_some_iff.mp h
    obtain ⟨h1, h2⟩ := resolve_get er
    refine ⟨by simp [h1], fun i j => ?_⟩
    cases i with
    | zero => simp
    | succ i => simpa using h2 i j
  | .l k is :: as, _, h => by
    simp only [resolve] at h
    split at h
    · rename_i ds r ed er
      simp only [Option.some.injEq] at h
      subst h
      obtain ⟨h1, h2⟩ := resolve_get er
      refine ⟨by simp [h1], fun i j => ?_⟩
      cases i with
      | zero => simp
      | succ i => simpa using h2 i j
    · cases h
theorem lentAt_eq {as as' : List AV} (hl : as'.length = as.length) (h : ∀ (i j : Nat), as'[i]? = some (AV.m j) ↔ as[i]? = some (AV.m j)) (j : Nat) : lentAt as' j = lentAt as j := by
  cases e : lentAt as j with
  | some i =>
    obtain ⟨hi, hp, hq⟩ := List.findIdx?_eq_some_iff_getElem.mp e
    refine List.findIdx?_eq_some_iff_getElem.mpr ⟨by omega, ?_, fun k hk => ?_⟩
    · have := (h i j).mpr (lentAt_some e)
      rw [List.getElem?_eq_getElem (by omega)] at this
      exact isM_iff.mpr (Option.some.inj this)
    · intro z
      have z := isM_iff.mp z
      have := (h k j).mp (by rw [List.getElem?_eq_getElem (by omega), z])
      rw [List.getElem?_eq_getElem (by omega)] at this
      exact hq k hk (isM_iff.mpr (Option.some.inj this))
  | none =>
    refine List.findIdx?_eq_none_iff.mpr fun a ha => ?_
    cases c : AV.isM j a with
    | false => rfl
    | true =>
      have := isM_iff.mp c
      subst this
      obtain ⟨i, hi⟩ := List.getElem?_of_mem ha
      exact absurd ((h i j).mp hi) (lentAt_none e i)
theorem FsOf_eq {Fs : Nat → List Addr} {as as' : List AV} (h : ∀ (i j : Nat), as'[i]? = some (AV.m j) ↔ as[i]? = some (AV.m j)) : FsOf Fs as' = FsOf Fs as := by
  funext i
  unfold FsOf
  cases e : as[i]? with
  | none =>
    cases e' : as'[i]? with
    | none => rfl
    | some a => cases a with
      | m j => have := (h i j).mp e'; rw [e] at this; cases this
      | _ => rfl
  | some a =>
    cases a with
    | m j => rw [(h i j).mpr e]
    | _ =>
      cases e' : as'[i]? with
      | none => rfl
      | some b => cases b with
        | m j => have := (h i j).mp e'; rw [e] at this; cases this
        | _ => rfl
theorem lentOf_eq {env : Env} : ∀ {as as' : List AV}, resolve env as = some as' → lentOf as' = lentOf as
  | [], _, h => by simp only [resolve, Option.some.injEq] at h; subst h; rfl
  | .v x :: as, _, h => by
    simp only [resolve] at h
    obtain ⟨r, er, rfl⟩ := Option.map_eq_some_iff.mp h
    have r := lentOf_eq er
    exact r
  | .m x :: as, _, h => by
    simp only [resolve] at h
    obtain ⟨r, er, rfl⟩ := Option.map_eq_some_iff.mp h
    simp only [lentOf, lentOf_eq er]
  | .l k is :: as, _, h => by
    simp only [resolve] at h
    split at h
    · rename_i ds r ed er
      simp only [Option.some.injEq] at h
      subst h
      have r := lentOf_eq er
      exact r
    · cases h
end BV
set_option maxHeartbeats 2000000
/-! BV29: calls with lambdas: the rule. -/
namespace BV
open PySem PySem.Spec PyProof.Rows L2

def nocloE (env : Env) : Bool := env.all fun o => match o with
  | some x => x.2.noclo
  | none => true
def nocloX (fs : List (Str × D)) : Bool := fs.all fun p => p.2.noclo
def mCallLF (mp : List Nat) (n : Nat) (g : List Val → CO) (as : List AV) : M Val := fun env => match resolve env as with
  | some as' => if as'.length = n ∧ (lentOf as').Nodup then match argsOf mp env 0 as' with
    | some args => (match g args with
      | .ok x back => if x.2.noclo = true ∧ nocloE back = true then .ok x (putBack back as env) else .bad
      | .exc c fs back => if nocloX fs = true ∧ nocloE back = true then .exc c fs (putBack back as env) else .bad
      | .bad => .bad)
    | none => .bad else .bad
  | none => .bad
def mCallL (mp : List Nat) (n : Nat) (g : List Val → CO) (ma : M (List AV)) : M Val := ma.bind fun as => mCallLF mp n g as
theorem nocloE_at {env : Env} {i : Nat} {y : Val} (h : nocloE env = true) (e : env[i]? = some (some y)) : y.2.noclo = true := List.all_eq_true.mp h _ (List.mem_of_getElem? e)
theorem nocloX_all : ∀ {fs : List (Str × D)}, nocloX fs = true → nocloAll (fs.map (·.2)) = true
  | [], _ => rfl
  | p :: r, h => by
    simp only [nocloX, List.all_cons, Bool.and_eq_true] at h
    simp only [List.map_cons, nocloAll, Bool.and_eq_true]
    exact ⟨h.1, nocloX_all h.2⟩
section
variable {W : Wd} {w : WX} {σ : L2.St} {H H1 H2 : Hp} {Z Z1 Z2 : Addr → Prop} {Fs Fs1 Fs2 Fp : Nat → List Addr} {env env1 back : Env} {as : List AV} {vs : List V} {F Fx : List Addr} {x : Val} {v : V} {mp : List Nat} {args : List Val} {caps : Nat → List Nat}
theorem PostA.promiseL {n : Nat} {g : List Val → CO} {Q : VK} (hcap : ∀ k is f H, W.lm k is f H → caps k = is) (p : PostA W H Z Fs σ H1 Z1 env Fs1 as vs F) (h : Fin W w σ H Z Fs (mCallLF mp n g as env) Q) : spD (W.plus caps σ) n g vs H1 Q (WE w σ) := by
  unfold mCallLF at h
  cases er : resolve env as with
  | none => rw [er] at h; exact h.elim
  | some as' =>
    rw [er] at h
    dsimp only at h
    obtain ⟨el, em⟩ := resolve_get er
    have ln := lentOf_eq er
    by_cases c : as'.length = n ∧ (lentOf as').Nodup
    · rw [if_pos c] at h
      cases ea : argsOf mp env 0 as' with
      | none => rw [ea] at h; exact h.elim
      | some args =>
        rw [ea] at h
        dsimp only at h
        have hl := (argsOf_ok ea).1
        have p' : PostA (W.plus caps σ) H Z Fs σ H1 Z1 env Fs1 as' vs F := ⟨⟨Fr.world Wd.plus_like p.st.fr, p.st.zin, p.st.zkeep, p.st.own⟩, p.sim.plus, OwnA.resolve p.sim hcap p.own er, p.nd, p.sub, p.dis, p.zd⟩
        have nd : (lentOf as).Nodup := by rw [← ln]; exact c.2
        refine ⟨_, args, _, by rw [p.own.length, ← el, c.1], by rw [hl, c.1], p'.callee c.2 ea, ?_⟩
        rw [FsOf_eq em]
        cases eg : g args with
        | ok x back =>
          rw [eg] at h
          dsimp only at h
          by_cases cc : x.2.noclo = true ∧ nocloE back = true
          · rw [if_pos cc] at h
            exact fun H' Z' Fp' v Fx q => h _ _ _ _ _ (PostA.calledW (Wd.plus_like (caps := caps) (σ := σ)) p nd q (fun o => o.unworld Wd.plus_like rfl cc.1) fun e _ _ _ o => o.unworld Wd.plus_like rfl (nocloE_at cc.2 e))
          · rw [if_neg cc] at h; exact h.elim
        | exc ce fs back =>
          rw [eg] at h
          dsimp only at h
          by_cases cc : nocloX fs = true ∧ nocloE back = true
          · rw [if_pos cc] at h
            intro H' Z' Fp' cls dd q
            have q2 := PostA.calledW (Wd.plus_like (caps := caps) (σ := σ)) p nd (x := (.all, .non)) (v := .non) (Fx := []) ⟨q.st, q.sim, pend_imm .non⟩ (fun o => o.unworld Wd.plus_like rfl rfl) fun e _ _ _ o => o.unworld Wd.plus_like rfl (nocloE_at cc.2 e)
            refine h H' Z' _ cls dd ⟨q2.st, q2.sim, q.cls, ?_⟩
            rcases q.fld with z | ⟨dx, ws, a1, a2, a3, a4⟩
            · exact .inl z
            · exact .inr ⟨dx, ws, a1, a2, a3, a4.unworld Wd.plus_like rfl (nocloX_all cc.1)⟩
          · rw [if_neg cc] at h; exact h.elim
        | bad => rw [eg] at h; exact h.elim
    · rw [if_neg c] at h; exact h.elim
end
end BV
set_option maxHeartbeats 2000000
/-! BV30: a lambda as an argument. -/
namespace BV
open PySem PySem.Spec PyProof.Rows L2 LamX

def mALam (k : Nat) (is : List Nat) (mr : M (List AV)) : M (List AV) := mr.bind fun xs => M.pure (.l k is :: xs)
section
variable {X : Cx} {W : Wd} {c P : Addr} {params : Arguments} {body : Expr} {scope : Scope} {pos : Pos} {q : Str} {k : Nat} {ps : List Str} {is : List Nat} {es : List Expr} {mr : M (List AV)}
theorem gav_lam (hlm : ∀ f c' pm ctv H, H f = some (exactO f (lamObj X q params body scope pm ctv c')) → H c' = some (CodeO c' q) → W.lm k is f H) (TB : TabB X.base X.mg c P) (hcode : X.env.code = .ref c) (hq : X.env.qual ++ "<lambda>" = q) (hm : (P, q) ∈ W.T) (hu : ∀ p ∈ W.T, p.1 = P → p.2 = q) (L : LamP X.env.scope scope ps)
    (hdef : defaultsOf params X.env = ([], [])) (hr : GAV X W es mr) (hs : starEach (.Lambda params body scope pos :: es) X.env = (false, eval (.Lambda params body scope pos) X.env) :: starEach es X.env) : GAV X W (.Lambda params body scope pos :: es) (mALam k is mr) := fun w tk => by
  refine pa_imp (pa_cons (pe_lam (W := W) TB hcode hq hm hu L hdef) (hr w tk) hs) fun σ H Q h => ?_
  obtain ⟨Z, env, Fs, S, h⟩ := h
  refine ⟨S.tabs, fun f c' pm ctv H2 fr nf ef ec => ?_⟩
  have p0 : PostL W H Z Fs σ H2 Z env Fs [] [] [] := (PostL.start S).grow fr
  have p : PostA W H Z Fs σ H2 Z env Fs [.l k is] [.ref f] [] := ⟨p0.st, p0.sim, .lam (hlm _ _ _ _ _ ef ec) .nil, List.nodup_nil, fun _ z => (nomatch z), fun _ z => (nomatch z), S.zdom⟩
  refine ⟨Z, env, Fs, p0.sim, ?_⟩
  have h : FinA W w σ H Z Fs ((mr env).bind fun xs => M.pure (.l k is :: xs)) Q := h
  cases er : mr env with
  | exc c fs e2 =>
    rw [er] at h
    exact fun H' Z' Fs' cls dd q => h H' Z' Fs' cls dd (p.raise q)
  | bad => rw [er] at h; exact h
  | ok xs e2 =>
    rw [er] at h
    exact fun H' Z' Fs' vs F q => h H' Z' Fs' (.ref f :: vs) F (p.append q)
end
end BV
set_option maxHeartbeats 2000000
/-! BV31: closures called. -/
namespace BV
open PySem PySem.Spec PyProof.Rows L2 LamX

theorem Un.via {fs0 fs1 : List Addr} {H0 H1 H2 : Hp} {h0 h1 h2 : Heap} (a : Un fs0 [] H0 H1 h0 h1) (b : Un fs1 [] H1 H2 h1 h2) (hf : ∀ c ∈ fs1, h0.get? c ≠ none → c ∈ fs0) : Un fs0 [] H0 H2 h0 h2 where
  keep := fun c o q n hc hx => b.keep c o (a.keep c o q n hc hx) (a.free c o q n hx) (fun z => hc (hf c z (by rw [q]; exact fun z => nomatch z))) hx
  slot := fun c o q n hc hx => by
    obtain ⟨sl, e1⟩ := a.slot c o q n hc hx
    obtain ⟨sl', e2⟩ := b.any e1 (a.free c o q n hx) hx
    exact ⟨sl', e2⟩
  free := fun c o q n hx => by
    obtain ⟨o', e1⟩ := a.there c o q hx
    exact b.free c o' e1 (a.free c o q n hx) hx
  there := fun c o q hx => by
    obtain ⟨o', e1⟩ := a.there c o q hx
    exact b.there c o' e1 hx
  tups := fun c xs e => b.tups c xs (a.tups c xs e)
  frzs := fun c o u e => b.frzs c o u (a.frzs c o u e)
  tbls := fun c ps e => by
    obtain ⟨m1, e1⟩ := a.tbls c ps e
    obtain ⟨m2, e2⟩ := b.tbls c _ e1
    exact ⟨m1 ++ m2, by rw [e2, Array.append_assoc]⟩
end BV
set_option maxHeartbeats 2000000
/-! BV32: what a closure is. -/
namespace BV
open PySem PySem.Spec PyProof.Rows L2 LamX

/-- a lambda of the program -/
structure LamE where
  params : Arguments
  body : Expr
  scope : Scope
  /-- the maker's names, scope, the lambda's qualified name -/
  N : List Str
  sc : Scope
  q : Str
  /-- parameters, caught names, their places with the maker, further names (of comprehensions) -/
  ps : List Str
  cs : List Str
  caps : List Nat
  ex : List Str
def LamE.own (E : LamE) : List Str := E.ps ++ E.cs ++ E.ex
/-- the captured names and where the maker keeps them -/
def CapsOk (scope : Scope) (N cs : List Str) (caps : List Nat) : Prop := cs.length = caps.length ∧ ∀ (j : Nat) (y : Str), cs[j]? = some y → scope.names.lookup y = some .free ∧ ∃ i, caps[j]? = some i ∧ N[i]? = some y
/-- the lambda, its maker's names, scope, qualified name -/
structure LamOk (N : List Str) (sc : Scope) (q : Str) (E : LamE) : Prop where
  hN : E.N = N
  hsc : E.sc = sc
  hq : E.q = q
  ok : LamP sc E.scope E.ps
  caps : CapsOk E.scope N E.cs E.caps
  bind : ∀ (q : Str) (cl : List (Str × Addr)) (pm cv ctv : Value) (us : List Value), us.length = E.ps.length → bindArgs (PySem.W.kla_fn "<lambda>" q E.params E.body E.scope cl pm cv ctv) ⟨us, []⟩ = pure (E.ps.zip us)
  hdef : ∀ env : PySem.Env, defaultsOf E.params env = ([], [])
/-- closure k stands at f and has caught ws: its maker's frame is as it was -/
structure ClAt (P : Program) (pw : World) (W : Wd) (base : Heap) (E : LamE) (f : Addr) (ws : List V) (s : Shared) (H : Hp) (fs : List Addr) (H' : Hp) (X0 : Cx) (pins0 : List (Addr × Obj)) (σ0 : L2.St) (H0 : Hp) (s0 : Shared) (c' : Addr) (pm ctv : Value) : Prop where
  inv : Inv X0 pins0 σ0 H0 s0
  prog : X0.prog = P
  w : X0.w = pw
  K : X0.K = W.K
  mg : X0.mg = W.mg
  base : X0.base = base
  N : X0.N = E.N
  sc : X0.env.scope = E.sc
  q : X0.env.qual ++ "<lambda>" = E.q
  ok : LamOk E.N E.sc E.q E
  un : Un (frs X0.stack) [] H0 H s0.heap s.heap
  fr : ∀ b ∈ fs, s0.heap.get? b ≠ none → b ∈ frs X0.stack
  obj : H' f = some (exactO f (lamObj X0 E.q E.params E.body E.scope pm ctv c'))
  code : H' c' = some (CodeO c' E.q)
  caught : Caught σ0 E.caps ws
def ClF (P : Program) (pw : World) (W : Wd) (base : Heap) (L : Nat → LamE) : CV := fun k f ws s H fs H' => ∃ X0 pins0 σ0 H0 s0 c' pm ctv, ClAt P pw W base (L k) f ws s H fs H' X0 pins0 σ0 H0 s0 c' pm ctv
theorem Un.there' {fs : List Addr} {H0 H : Hp} {h0 h : Heap} (u : Un fs [] H0 H h0 h) {b : Addr} (n : h0.get? b ≠ none) : h.get? b ≠ none := by
  cases e : h0.get? b with
  | none => exact absurd e n
  | some o =>
    obtain ⟨o', e'⟩ := u.there b o e (by simp)
    rw [e']
    exact fun z => nomatch z
/-- closures that stood at the entry of X stand in every state of X -/
theorem cvx_of {P : Program} {pw : World} {W0 W : Wd} {base : Heap} {L : Nat → LamE} {X : Cx} (hex : X.ex = []) (hfs : X.fs = frs X.outer) (hst : X.stack = X.env :: X.outer) (hfr : X.env.frame = some X.env.locals)
    (h : ∀ k f ws H', W.cl k f ws H' → ClF P pw W0 base L k f ws X.s_0 X.H_0 (frs X.outer) H') : CVX (ClF P pw W0 base L) W X := by
  intro pins σ H s I k f ws H' hc
  obtain ⟨X0, pins0, σ0, H0, s0, c', pm, ctv, A⟩ := h k f ws H' hc
  have b := I.base
  rw [hex, hfs] at b
  refine ⟨X0, pins0, σ0, H0, s0, c', pm, ctv, { A with un := Un.via A.un b A.fr, fr := fun x hx n => ?_ }⟩
  rw [hst] at hx
  obtain ⟨e, he, hq⟩ := List.mem_filterMap.mp hx
  rcases List.mem_cons.mp he with rfl | he
  · rw [hfr] at hq
    cases hq
    have n2 := Un.there' A.un n
    exact absurd (Heap.get?_none_of_le I.ok.above) n2
  · exact A.fr x (List.mem_filterMap.mpr ⟨e, he, hq⟩) n
end BV
set_option maxHeartbeats 2000000
/-! BV33: the body of a closure: where it runs. -/
namespace BV
open PySem PySem.Spec PyProof.Rows L2 LamX

/-- the context of a lambda's body, by its own names -/
def lamCxN (X : Cx) (A : Around) (outer : List PySem.Env) (s : Shared) (H : Hp) (E : XK) (scope : Scope) (f c' : Addr) (N : List Str) : Cx := { lamCx X A outer s H E scope f c' with N := N }

section
variable {X : Cx} {pins : List (Addr × Obj)} {σ : L2.St} {H HZ : Hp} {s s1 : Shared}
theorem map_some_get {α : Type} {vs : List α} {i : Nat} {v : α} (h : (vs.map some)[i]? = some (some v)) : vs[i]? = some v := by
  rw [List.getElem?_map] at h
  cases e : vs[i]? with
  | none => rw [e] at h; cases h
  | some a => rw [e] at h; cases h; rfl
theorem caught_get {σ : L2.St} : ∀ {is : List Nat} {ws : List V} {j : Nat} {w : V}, Caught σ is ws → ws[j]? = some w → ∃ i, is[j]? = some i ∧ σ[i]? = some (some w)
  | [], ws, j, w, h, e => by
    unfold Caught at h
    cases ws with
    | nil => simp at e
    | cons a r => simp at h
  | i :: is, ws, j, w, h, e => by
    unfold Caught at h
    cases ws with
    | nil => simp at h
    | cons a r =>
      simp only [List.map_cons, List.cons.injEq] at h
      cases j with
      | zero =>
        simp at e
        subst e
        refine ⟨i, rfl, ?_⟩
        cases q : σ[i]? with
        | none => rw [q] at h; simp at h
        | some o => rw [q] at h; rw [← h.1]; rfl
      | succ j =>
        obtain ⟨i', h1, h2⟩ := caught_get (j := j) (w := w) (show Caught σ is r from h.2) (by simpa using e)
        exact ⟨i', by simpa using h1, h2⟩
theorem Caught.length {σ : L2.St} {is : List Nat} {ws : List V} (h : Caught σ is ws) : ws.length = is.length := by
  have := congrArg List.length h
  simpa using this.symm
def capsB (scope : Scope) (N : List Str) : List Str → List Nat → Bool
  | [], [] => true
  | y :: ys, i :: is => decide (scope.names.lookup y = some .free) && (decide (N[i]? = some y) && capsB scope N ys is)
  | _, _ => false
theorem caps_by {scope : Scope} {N : List Str} : ∀ {cs : List Str} {caps : List Nat}, capsB scope N cs caps = true → CapsOk scope N cs caps
  | [], [], _ => ⟨rfl, fun j y e => by simp at e⟩
  | [], _ :: _, h => by cases h
  | _ :: _, [], h => by cases h
  | y :: ys, i :: is, h => by
    simp only [capsB, Bool.and_eq_true, decide_eq_true_eq] at h
    obtain ⟨h1, h2⟩ := caps_by h.2.2
    refine ⟨by simp [h1], fun j z e => ?_⟩
    cases j with
    | zero => simp at e; subst e; exact ⟨h.1, i, rfl, h.2.1⟩
    | succ j => obtain ⟨a, k, b, c⟩ := h2 j z (by simpa using e); exact ⟨a, k, by simpa using b, c⟩
theorem lam_startP {A : Around} {outer : List PySem.Env} {E : XK} {scope : Scope} {f c' : Addr} {h₁ : Heap} {tk : Nat} {ps cs ex : List Str} {caps : List Nat} {us : List Value} {vs ws : List V} (I : Inv X pins σ H s) (L : LamP X.env.scope scope ps) (hcs : CapsOk scope X.N cs caps) (hw : Caught σ caps ws)
    (r : Vals vs us) (hl : vs.length = ps.length) (e0 : Env0 X.prog X.w X.K X.mg X.base A outer s1 HZ) (hd : A.handled = none)
    (un : Un (frs X.stack) [] H HZ s.heap s1.heap) (hns : h₁.Ns s1.heap.objs.size fun y => (ps.zip us).reverse.lookup y) (kp : ∀ b o, s1.heap.get? b = some o → h₁.get? b = some o) :
    Inv (lamCxN X A outer s1 HZ E scope f c' (ps ++ cs ++ ex)) [] (vs.map some ++ ws.map some ++ List.replicate ex.length none) HZ { s1 with heap := h₁, toks := tk } := by
  have hfree := L.has I.ok
  have cm : ∀ {y c}, (cloFrom X.env.cells scope.names []).lookup y = some c → X.env.cells.lookup y = some c := fun {y c} e => by
    rcases cloFrom_mem (PySem.mem_of_lookup e) with hm | ⟨h1, h2⟩
    · cases hm
    · obtain ⟨c1, hc⟩ := hfree _ h1 rfl
      have hc : X.env.cells.lookup y = some c1 := hc
      have e2 : c = c1 := by
        rw [h2, hc] <;> rfl
      rw [e2]
      exact hc
  have look : ∀ {y}, scope.names.lookup y = some .free → ∃ c, (cloFrom X.env.cells scope.names []).lookup y = some c := fun {y} hl => by
    have hy : (y, NameKind.free) ∈ scope.names := PySem.mem_of_lookup hl
    exact mem_lookup (cloFrom_has (cells := X.env.cells) (acc := []) hy)
  have cellK : ∀ {c : Addr} {v : Option Value}, H c = none → s.heap.IsCell c v → h₁.IsCell c v := fun {c v} n ⟨o, ho, hd⟩ => by
    obtain ⟨sl, q⟩ := un.any ho n (by simp)
    exact ⟨_, kp _ _ q, hd⟩
  have noA : ∀ b : Addr, b ∉ (lamCxN X A outer s1 HZ E scope f c' (ps ++ cs ++ ex)).ex := fun b z => absurd (show b ∈ ([] : List Addr) from z) (by simp)
  have hwl := hw.length
  refine ⟨⟨e0.mod, L.kind, rfl, rfl, Nat.le_refl _, fun y z c e1 e2 => I.ok.inj y z c (cm e1) (cm e2), fun y hy => ?_, fun y c z _ => ?_, fun _ => hd, Around.frames_deeper e0.frames, .inr ⟨rfl, rfl⟩, fun b z => absurd z (noA b), e0.bs, e0.bsz, fun b _ _ => noA b,
      fun b z => absurd z (noA b), e0.funs, e0.frf⟩,
    rfl, e0.bare, Un.kept kp, ⟨_, hns, fun i y v e1 e2 e3 => ?_⟩, fun y c e => ?_, e0.hok.fresh (Nat.le_refl _), fun y c e => ?_, fun q hq => absurd (show q ∈ ([] : List (Addr × Obj)) ++ [] from hq) (by simp), e0.hok.kept kp, ?_⟩
  · have hy : scope.names.lookup y = some .cell ∨ scope.names.lookup y = some .free := hy
    rcases hy with hy | hy
    · exact absurd rfl (L.nocell _ (PySem.mem_of_lookup hy))
    · exact look hy
  · have z : false = true := z
    cases z
  · have e1 : (ps ++ cs ++ ex)[i]? = some y := e1
    by_cases h1 : i < ps.length
    · rw [List.append_assoc, List.getElem?_append_left h1] at e1
      rw [List.append_assoc, List.getElem?_append_left (by rw [List.length_map, hl]; exact h1)] at e2
      obtain ⟨u, hu, rv⟩ := r.get (map_some_get e2)
      exact ⟨u, rv, .inl ⟨L.par y (List.mem_of_getElem? e1), NdefX.zip_look L.nd e1 hu⟩⟩
    · by_cases h2 : i < ps.length + cs.length
      · rw [List.append_assoc, List.getElem?_append_right (by omega), List.getElem?_append_left (by omega)] at e1
        rw [List.append_assoc, List.getElem?_append_right (by rw [List.length_map, hl]; omega), List.length_map, hl, List.getElem?_append_left (by rw [List.length_map, hwl, ← hcs.1]; omega)] at e2
        obtain ⟨k, i', q1, q2⟩ := hcs.2 _ _ e1
        obtain ⟨i2, q3, q4⟩ := caught_get hw (map_some_get e2)
        rw [q1] at q3
        cases q3
        obtain ⟨m, hn, hl'⟩ := I.loc
        have hvis : Vis X.env.scope y := (L.free _ (PySem.mem_of_lookup k) rfl).elim (fun k => .inr (.inl k)) (fun k => .inr (.inr k))
        obtain ⟨w', r', q⟩ := hl' i' y v q2 q4 hvis
        obtain ⟨c2, h2⟩ := look k
        refine ⟨w', r', .inr ⟨.inr k, c2, h2, ?_⟩⟩
        have c1 := cm h2
        rcases q with ⟨k', _⟩ | ⟨_, c3, e', z⟩
        · have k' : X.env.scope.names.lookup y = some .local := k'
          rcases L.free _ (PySem.mem_of_lookup k) rfl with k2 | k2 <;> rw [show X.env.scope.names.lookup y = _ from k2] at k' <;> cases k'
        · rw [c1] at e'
          cases e'
          exact cellK (I.freeC y _ c1) z
      · have hlen : (vs.map some ++ ws.map some).length = ps.length + cs.length := by simp [hl, hwl, hcs.1]
        rw [List.getElem?_append_right (by rw [hlen]; omega), List.getElem?_replicate] at e2
        split at e2 <;> cases e2
  · obtain ⟨w', z⟩ := I.cell y c (cm e)
    exact ⟨w', cellK (I.freeC y c (cm e)) z⟩
  · obtain ⟨v, o, ho, hd⟩ := I.cell y c (cm e)
    exact un.free c o ho (I.freeC y c (cm e)) (by simp)
  · show _ = (ps ++ cs ++ ex).length
    simp [hl, hwl, hcs.1]
end
end BV
set_option maxHeartbeats 2000000
/-! BV34: defs that make lambdas; calls with lambdas; calls of closures. -/
namespace BV
open PySem PySem.Spec PyProof.Rows L2 LamX

/-- the lambdas ks of X's frame -/
def lmOf (L : Nat → LamE) (ks : List Nat) (X : Cx) (k : Nat) (is : List Nat) (f : Addr) (H : Hp) : Prop :=
  k ∈ ks ∧ is = (L k).caps ∧ ∃ (c' : Addr) (pm ctv : Value), H f = some (exactO f (lamObj X (L k).q (L k).params (L k).body (L k).scope pm ctv c')) ∧ H c' = some (CodeO c' (L k).q)
theorem lmOf_stay {L : Nat → LamE} {ks : List Nat} {X : Cx} {k : Nat} {is : List Nat} {f : Addr} {H H' : Hp} (h : lmOf L ks X k is f H) (e : ∀ a φ, H a = some (.ext φ) → H' a = some (.ext φ)) : lmOf L ks X k is f H' := by
  obtain ⟨h1, h2, c', pm, ctv, h3, h4⟩ := h
  exact ⟨h1, h2, c', pm, ctv, e _ _ h3, e _ _ h4⟩
def Wd.withLm (W : Wd) (L : Nat → LamE) (ks : List Nat) (X : Cx) : Wd := { W with lm := lmOf L ks X, lmS := fun _ _ _ _ _ h e => lmOf_stay h e }
theorem Wd.withLm_like {W : Wd} {L : Nat → LamE} {ks : List Nat} {X : Cx} : W.Like (W.withLm L ks X) := ⟨rfl, rfl, rfl⟩
theorem Wd.Like.trans {A B C : Wd} (h : A.Like B) (k : B.Like C) : A.Like C := ⟨k.K.trans h.K, k.mg.trans h.mg, k.T.trans h.T⟩
theorem Wd.Like.symm {A B : Wd} (h : A.Like B) : B.Like A := ⟨h.K.symm, h.mg.symm, h.T.symm⟩
theorem Wd.Like.refl {A : Wd} : A.Like A := ⟨rfl, rfl, rfl⟩

section
variable {W W' : Wd} {σ : L2.St} {H H1 H' : Hp} {Z Z1 Z' : Addr → Prop} {Fs Fs1 Fs' : Nat → List Addr} {env env' : Env} {x : Val} {v : V} {Fx : List Addr} {c : Str} {fs : List (Str × D)} {cls : Value} {dd : Option Addr}
theorem Sim.world (l : W.Like W') (hp : W'.pin = W.pin) (hc : ∀ k f ws H, W.cl k f ws H → W'.cl k f ws H) (S : Sim W H Z σ env Fs) : Sim W' H Z σ env Fs :=
  ⟨fun i x e => let ⟨v, e1, o⟩ := S.rep i x e; ⟨v, e1, o.world l hp fun k f ws => hc k f ws H⟩, S.off, S.dis, S.nd, S.sub, S.zdom, S.len, by rw [l.T]; exact S.tabs⟩
theorem Step.world (l : W.Like W') (s : Step W H Z Fs H' Z' Fs' Fx) : Step W' H Z Fs H' Z' Fs' Fx := ⟨s.fr.world l, s.zin, s.zkeep, s.own⟩
theorem PostE.world (l : W.Like W') (hp : W'.pin = W.pin) (hc : ∀ k f ws H, W.cl k f ws H → W'.cl k f ws H) (p : PostE W H Z Fs σ H' Z' env' Fs' x v Fx) : PostE W' H Z Fs σ H' Z' env' Fs' x v Fx :=
  ⟨p.st.world l, p.sim.world l hp hc, ⟨p.pd.own.world l hp fun k f ws => hc k f ws H', p.pd.nd, p.pd.sub, p.pd.dis⟩⟩
theorem PostX.world (l : W.Like W') (hp : W'.pin = W.pin) (hc : ∀ k f ws H, W.cl k f ws H → W'.cl k f ws H) (p : PostX W H Z Fs σ H' Z' env' Fs' c fs cls dd) : PostX W' H Z Fs σ H' Z' env' Fs' c fs cls dd :=
  ⟨p.st.world l, p.sim.world l hp hc, by rw [l.mg]; exact p.cls, p.fld.imp id fun ⟨dx, vs, h1, h2, h3, h4⟩ => ⟨dx, vs, h1, h2, h3, h4.world l hp fun k f ws => hc k f ws H'⟩⟩
theorem spD_world {n : Nat} {g : List Val → CO} {vs : List V} {Q : VK} {E : XK} (l : W.Like W') (hp : W'.pin = W.pin) (hc : ∀ k f ws H, W.cl k f ws H ↔ W'.cl k f ws H) (h : spD W n g vs H Q E) : spD W' n g vs H Q E := by
  obtain ⟨Z, args, Fp, h1, h2, S, h⟩ := h
  refine ⟨Z, args, Fp, h1, h2, S.world l hp fun k f ws H => (hc k f ws H).mp, ?_⟩
  cases e : g args with
  | ok x back =>
    rw [e] at h
    exact fun H' Z' Fp' v Fx q => h H' Z' Fp' v Fx (q.world l.symm hp.symm fun k f ws H => (hc k f ws H).mpr)
  | exc c fs back =>
    rw [e] at h
    exact fun H' Z' Fp' cls dd q => h H' Z' Fp' cls dd (q.world l.symm hp.symm fun k f ws H => (hc k f ws H).mpr)
  | bad => rw [e] at h; exact h
end

/-- the code object of the def at f -/
def cdAt (K : PySem.W.Frag) (f : Addr) : Addr := match K.lookup f with
  | some ⟨_, _, .func fd, _⟩ => (match fd.code with
    | .ref c => c
    | _ => 0)
  | _ => 0
/-- where a body runs: a def's, a lambda's -/
structure MX (cv : CV) (P : Program) (pw : World) (W : Wd) (base : Heap) (N : List Str) (sc : Scope) (k : Nat) (X : Cx) : Prop where
  prog : X.prog = P
  w : X.w = pw
  K : X.K = W.K
  mg : X.mg = W.mg
  base : X.base = base
  N : X.N = N
  sc : X.env.scope = sc
  calm : X.calm = true
  room : Room k X.A
  stk : X.stack = X.env :: X.outer
  frm : X.env.frame = some X.env.locals
  ex : X.ex = []
  po : PassesOwn (model X.prog X.w) X.A X.env X.xe
  cls : ∀ k f ws H', W.cl k f ws H' → cv k f ws X.s_0 X.H_0 (frs X.outer) H'
/-- a def's body -/
structure DX (cv : CV) (P : Program) (pw : World) (W : Wd) (base : Heap) (N : List Str) (sc : Scope) (k : Nat) (L : Nat → LamE) (ks : List Nat) (qual : Str) (f : Addr) (X : Cx) : Prop extends MX cv P pw W base N sc k X where
  fn : X.fn = fun _ => true
  qual : X.env.qual = qual ++ ".<locals>."
  code : X.env.code = .ref (cdAt W.K f)
  lam : ∀ k is f H, W.lm k is f H ↔ lmOf L ks X k is f H

section
variable {cv : CV} {P : Program} {pw : World} {W : Wd} {base : Heap} {N ps : List Str} {sc : Scope} {k n : Nat} {mp : List Nat} {m : M Fl} {L : Nat → LamE} {ks : List Nat}
theorem fn_def {x qual : Str} {params : Arguments} {body : List Stmt} {dvs : List V} {kws : List (Str × V)} {f : Addr} {fd : FuncData} (F : FunD W.K x qual params body sc dvs kws f fd) (S : FnScope N ps sc)
    (hn : ps.length = n) (hb : ∀ W' X, W.Like W' → DX cv P pw W' base N sc k L ks qual f X → GB X W' mp body m) : FnS P pw W.K W.mg base (L2.CX P pw) (k + 1) f fd ps (spS cv W n (callM mp n N.length m)) := by
  have len : ∀ (s : Shared) (fs : List Addr) (vs : List V) (H : Hp) (Q : VK) (E : XK), spS cv W n (callM mp n N.length m) s fs vs H Q E → vs.length = ps.length := fun s fs vs H Q E ⟨_, _, _, Z, args, Fp, h1, _⟩ => by rw [h1, hn]
  refine ⟨len, fun A outer s H args us vs Q E hr e0 hbi r h => ?_⟩
  have hlen := len _ _ _ _ _ _ h
  obtain ⟨oc, od, dV, kV, doc, pm, an, cdv, ct, osl, rfl, lk, hcd, _, _⟩ := F.ex
  refine LamX.run_ofS lk hcd S hr e0 hbi r hlen fun hr' => ?_
  obtain ⟨W0, hl0, hc0, h⟩ := h
  generalize hX : cxOf (L2.CX P pw) P pw W.K W.mg base N qual sc f cdv A outer s H E = X
  have h := spD_world (Wd.withLm_like (L := L) (ks := ks) (X := X)) rfl (fun _ _ _ _ => Iff.rfl) h
  have hl := hl0.trans (Wd.withLm_like (L := L) (ks := ks) (X := X))
  have hc : ∀ k f ws H', (W0.withLm L ks X).cl k f ws H' → cv k f ws s H (frs outer) H' := hc0
  have hlm : ∀ k is f H, (W0.withLm L ks X).lm k is f H ↔ lmOf L ks X k is f H := fun _ _ _ _ => Iff.rfl
  generalize W0.withLm L ks X = W' at h hl hc hlm
  obtain ⟨Z, args, Fp, h1, h2, SS, h⟩ := h
  refine ⟨rdS W' (fun cls d _ H => E cls d H) mp m, ?_, ?_⟩
  · refine hb W' X hl ?_ _ ?_
    · subst hX
      refine ⟨⟨rfl, rfl, hl.K.symm, hl.mg.symm, rfl, rfl, rfl, rfl, hr', rfl, rfl, rfl, passes_of rfl, hc⟩, rfl, rfl, ?_, hlm⟩
      obtain ⟨c, rfl⟩ := He.codeIn_ref hcd
      show Value.ref c = .ref (cdAt W'.K f)
      unfold cdAt
      rw [hl.K, lk]
    · subst hX
      exact takes_of rfl rfl rfl rfl
  have S2 := SS.more (N.length - n)
  refine ⟨Z, _, Fp, by rw [start_env, h1]; exact S2, ?_⟩
  unfold callM at h
  have keep : ∀ (σ' : L2.St), (∀ i ∈ mp, σ'[i]? = (start N vs)[i]?) → ∀ i ∈ mp, i < n → σ'[i]? = (vs.map some)[i]? := fun σ' kp i hi hl => by
    rw [kp i hi, start_env, List.getElem?_append_left (by rw [List.length_map, h1]; exact hl)]
  have sub : ∀ {Fs' : Nat → List Addr} {a : Addr}, OF (fun i => if i ∈ mp ∧ i < n then Fs' i else []) a → OF Fs' a := fun {Fs' a} ⟨i, hi⟩ => by
    dsimp only at hi
    split at hi
    · exact ⟨i, hi⟩
    · cases hi
  cases e : m (args.map some ++ List.replicate (N.length - n) none) with
  | ok fl env =>
    rw [e] at h
    cases fl with
    | nx =>
      exact fun σ' H' Z' Fs' q => h H' Z' _ .non [] ⟨⟨q.st.fr, q.st.zin, q.st.zkeep, fun a z => q.st.own a (z.imp sub id)⟩, q.sim.back h1 (keep σ' q.kp), pend_imm .non⟩
    | bk => exact h.elim
    | ct => exact h.elim
    | rt x =>
      exact fun σ' H' Z' Fs' v Fx q => h H' Z' _ v Fx ⟨⟨q.st.fr, q.st.zin, q.st.zkeep, fun a z => q.st.own a (z.imp sub id)⟩, q.sim.back h1 (keep σ' q.kp), ⟨q.pd.own, q.pd.nd, q.pd.sub, fun a ha z => q.pd.dis a ha (sub z)⟩⟩
  | exc c fs env =>
    rw [e] at h
    exact fun σ' H' Z' Fs' cls dd q => h H' Z' _ cls dd ⟨⟨q.px.st.fr, q.px.st.zin, q.px.st.zkeep, fun a z => q.px.st.own a (z.imp sub id)⟩, q.px.sim.back h1 (keep σ' q.kp), q.px.cls, q.px.fld⟩
  | bad => rw [e] at h; exact h.elim
end

/-- no closures at all -/
abbrev cvF : CV := fun _ _ _ _ _ _ _ => False
section
variable {P : Program} {pw : World} {W0 W : Wd} {base : Heap} {L : Nat → LamE} {ks : List Nat} {N : List Str} {sc : Scope} {X : Cx} {k : Nat} {qual : Str} {fa : Addr}
theorem MX.cvx (D : MX (ClF P pw W0 base L) P pw W base N sc k X) (hfs : X.fs = frs X.outer) : CVX (ClF P pw W0 base L) W X := cvx_of D.ex hfs D.stk D.frm D.cls
theorem cv_plus (hl : W0.Like W) (D : DX cvF P pw W base N sc k L ks qual fa X) (ok : ∀ k ∈ ks, LamOk N sc (qual ++ ".<locals>." ++ "<lambda>") (L k)) {pins : List (Addr × Obj)} {σ : L2.St} {H : Hp} {s : Shared} (I : Inv X pins σ H s) {k : Nat} {f : Addr} {ws : List V} {H' : Hp}
    (h : (W.plus (fun k => (L k).caps) σ).cl k f ws H') : ClF P pw W0 base L k f ws s H (frs X.stack) H' := by
  rcases h with h | ⟨h, hc⟩
  · exact (D.cls _ _ _ _ h).elim
  · obtain ⟨hk, _, c', pm, ctv, e1, e2⟩ := (D.lam _ _ _ _).mp h
    have o := ok k hk
    exact ⟨X, pins, σ, H, s, c', pm, ctv, { inv := I, prog := D.prog, w := D.w, K := D.K.trans hl.K, mg := D.mg.trans hl.mg, base := D.base, N := D.N.trans o.hN.symm, sc := D.sc.trans o.hsc.symm, q := by rw [D.qual, o.hq], ok := by rw [o.hN, o.hsc, o.hq]; exact o, un := Un.refl, fr := fun b hb _ => hb, obj := e1, code := e2, caught := hc }⟩
theorem ge_callL (hl : W0.Like W) (D : DX cvF P pw W base N sc k L ks qual fa X) (ok : ∀ k ∈ ks, LamOk N sc (qual ++ ".<locals>." ++ "<lambda>") (L k)) {j n : Nat} {mp : List Nat} {g : List Val → CO} {f : Addr} {fd : FuncData} {ps : List Str} {x : Str} {p pos : Pos} {e : Expr} {es : List Expr} {ma : M (List AV)}
    (F : FnS P pw W0.K W0.mg base (L2.CX P pw) j f fd ps (spS (ClF P pw W0 base L) W0 n g)) (hr : j ≤ k) (hg : Gl X x) (hm : X.mg x = some (.ref f)) (hk : PySem.W.keepIn X.K (.ref f) = true) (hb : Binds X.K fd ps [])
    (ha : GAV X W (e :: es) ma) (hdb : (x == ("__debug__" : Str)) = false) (he : starEach (e :: es) X.env = (false, eval e X.env) :: starEach es X.env) (hpl : (backTo pos (starEach es X.env)).any (·.1) = false) :
    GE X W (.Call (.Name x p) (e :: es) [] pos) (mCallL mp n g ma) := fun w tk => by
  refine ⟨fun pins s σ H Q I h => ?_⟩
  refine wpAny_Call_Name_kw (ld_glob I hg hm ?_ hdb)
  obtain ⟨Z, env, Fs, S, h⟩ := h
  have h : Fin W w σ H Z Fs ((ma env).bind fun as => mCallLF mp n g as) Q := h
  have hv : rdAV W w ma σ H fun vs H1 => spD (W.plus (fun k => (L k).caps) σ) n g vs H1 Q (WE w σ) := by
    refine ⟨Z, env, Fs, S, ?_⟩
    cases ea : ma env with
    | ok as e1 =>
      rw [ea] at h
      exact fun H1 Z1 Fs1 vs F p => p.promiseL (fun k is f H q => ((D.lam _ _ _ _).mp q).2.1.symm) h
    | exc c fs e1 => rw [ea] at h; exact h
    | bad => rw [ea] at h; exact h
  have F' : FnS X.prog X.w X.K X.mg X.base (L2.CX X.prog X.w) j f fd ps (spS (ClF P pw W0 base L) W0 n g) := by
    rw [D.prog, D.w, D.K, D.mg, D.base, hl.K, hl.mg]
    exact F
  refine PySem.W.callWith_K (h₀ := X.base) I.ok.mod.kin hk (thn ((ha w tk).run pos pins s σ H _ I hv) fun us s1 ⟨vs, H1, I1, r, q⟩ => ⟨I1.kIn, ?_⟩) he hpl
  exact run_fnS (E := WE w) F' (D.room.mono hr) hb .nil (passAt tk σ) I1 r ⟨_, hl.trans Wd.plus_like, fun k f ws H' z => cv_plus hl D ok I1 z, by rw [List.append_nil]; exact q⟩
end
end BV
set_option maxHeartbeats 2000000
/-! BV35: a closure is called. -/
namespace BV
open PySem PySem.Spec PyProof.Rows L2 LamX

/-- a lambda by its body's reading -/
def lamRun (n : Nat) (m : M Val) (args : List D) (ds : List D) : Out Val := m (args.map (fun d => some (.shr, d)) ++ ds.map (fun d => some (.shr, d)) ++ List.replicate n none)
abbrev LamG := Nat → List D → List D → Out Val
def Out.keep {α : Type} (o : Out α) (env : Env) : Out α := match o with
  | .ok x _ => .ok x env
  | .exc c fs _ => .exc c fs env
  | .bad => .bad
def cloAt (env : Env) (i : Nat) : Option (Nat × List D) := match env[i]? with
  | some (some (_, .clo k ds)) => some (k, ds)
  | _ => none
theorem cloAt_some {env : Env} {i k : Nat} {ds : List D} (h : cloAt env i = some (k, ds)) : ∃ m, env[i]? = some (some (m, .clo k ds)) := by
  unfold cloAt at h
  split at h
  · rename_i m k' ds' e
    cases h
    exact ⟨m, e⟩
  · cases h
/-- the closure in slot i is called -/
def mCallClo (gk : LamG) (i : Nat) (ma : M (List Val)) : M Val := fun env => match cloAt env i with
  | some kd => (ma env).bind fun xs env => (gk kd.1 (xs.map (·.2)) kd.2).keep env
  | none => .bad
section
variable {W : Wd} {w : WX} {σ : L2.St} {H H1 H2 : Hp} {Z Z1 Z2 : Addr → Prop} {Fs Fs1 Fs2 : Nat → List Addr} {env env1 : Env} {xs : List Val} {vs : List V} {F Fx : List Addr} {x : Val} {v : V}
theorem PostL.shr' (p : PostL W H Z Fs σ H1 Z1 env Fs1 xs vs F) : ∃ Z2, (∀ a, Z2 a → Z1 a) ∧ PostL W H Z Fs σ H1 Z2 env Fs1 (xs.map fun x => (.shr, x.2)) vs [] := by
  refine ⟨fun a => Z1 a ∧ a ∉ F, fun a h => h.1, ⟨⟨p.st.fr, fun a z => p.st.zin a z.1, fun a z n => ⟨p.st.zkeep a z n, fun z' => (p.st.own a (.inr z')).elim n (p.zd a z)⟩, fun a h => p.st.own a (.inl (h.elim id fun z => nomatch z))⟩,
    p.sim.free (fun a z => z.1) (fun a z => ⟨p.sim.subO z, fun z' => p.dis a z' z⟩), OwnL.freeze (fun a n _ z => n z.1) p.own (fun a ha z => z.2 ha), List.nodup_nil, fun _ z => (nomatch z), fun _ z => (nomatch z), p.zd⟩⟩
theorem OwnL.rep_shr {P : Addr → Prop} : ∀ {ds : List D} {vs : List V} {F : List Addr}, OwnL W H P (ds.map fun d => ((.shr, d) : Val)) vs F → F = [] ∧ Owns W H P .shr vs ds []
  | [], _, _, h => by
    generalize e : ([] : List D).map (fun d => ((.shr, d) : Val)) = l at h
    cases h with
    | nil => exact ⟨rfl, .nil⟩
    | cons _ _ => cases e
  | d :: ds, vs, F, h => by
    obtain ⟨v, vr, F1, F2, rfl, rfl, h1, h2⟩ := OwnL.inv (xs := ds.map fun d => ((.shr, d) : Val)) h
    obtain ⟨rfl, h3⟩ := OwnL.rep_shr h2
    have h1 : Own W H P .shr v d F1 := h1
    have := h1.shr_nil
    subst this
    exact ⟨rfl, .cons (F := []) h1 h3⟩
theorem Owns.at {P : Addr → Prop} {m : Mode} : ∀ {vs : List V} {ds : List D} {F : List Addr} {i : Nat} {d : D}, Owns W H P m vs ds F → F = [] → ds[i]? = some d → ∃ v, vs[i]? = some v ∧ Own W H P m v d []
  | _, _, _, i, d, .nil, _, e => by simp at e
  | _, _, _, 0, d, .cons (F := F) (G := G) h t, eF, e => by
    obtain ⟨e1, e2⟩ := List.append_eq_nil_iff.mp eF
    simp at e
    subst e
    exact ⟨_, rfl, by rw [e1] at h; exact h⟩
  | _, _, _, i + 1, d, .cons (F := F) (G := G) h t, eF, e => by
    obtain ⟨e1, e2⟩ := List.append_eq_nil_iff.mp eF
    obtain ⟨v, h1, h2⟩ := Owns.at t e2 (i := i) (d := d) (by simpa using e)
    exact ⟨v, by simpa using h1, h2⟩
theorem Owns.app {P : Addr → Prop} {m : Mode} {us : List V} {es : List D} {G : List Addr} (k : Owns W H P m us es G) : ∀ {vs : List V} {ds : List D} {F : List Addr}, Owns W H P m vs ds F → Owns W H P m (vs ++ us) (ds ++ es) (F ++ G)
  | _, _, _, .nil => k
  | _, _, _, .cons h t => by rw [List.append_assoc]; exact .cons h (Owns.app k t)
/-- slots that hold shared things -/
theorem Sim.shared {ds : List D} {ws : List V} {n : Nat} (S : Sim W H Z σ env Fs) (o : Owns W H (fun a => ¬ Z a) .shr ws ds []) : Sim W H Z (ws.map some ++ List.replicate n none) (ds.map (fun d => some ((.shr, d) : Val)) ++ List.replicate n none) (fun _ => []) where
  rep := fun i x e => by
    have hl := o.length
    by_cases h : i < ds.length
    · rw [List.getElem?_append_left (by simpa using h), List.getElem?_map] at e
      cases q : ds[i]? with
      | none => rw [q] at e; cases e
      | some d =>
        rw [q] at e
        simp at e
        subst e
        obtain ⟨v, h1, h2⟩ := Owns.at o rfl q
        exact ⟨v, by rw [List.getElem?_append_left (by rw [List.length_map, hl]; exact h), List.getElem?_map, h1]; rfl, h2⟩
    · rw [List.getElem?_append_right (by simpa using h), List.getElem?_replicate] at e
      split at e <;> cases e
  off := fun _ _ => rfl
  dis := fun _ _ _ h => nomatch h
  nd := fun _ => List.nodup_nil
  sub := fun _ _ h => nomatch h
  zdom := S.zdom
  len := by simp [o.length]
  tabs := S.tabs
theorem Own.clo_inv {P : Addr → Prop} {m : Mode} {k : Nat} {ds : List D} (o : Own W H P m v (.clo k ds) F) : ∃ f ws, v = .ref f ∧ W.cl k f ws H ∧ Owns W H P .shr ws ds F := by
  cases o with
  | clo h t => exact ⟨_, _, rfl, h, t⟩
theorem PostL.toA0 (p : PostL W H Z Fs σ H1 Z1 env Fs1 [] [] F) : PostA W H Z Fs σ H1 Z1 env Fs1 [] [] [] :=
  ⟨p.st.less (fun _ z => nomatch z), p.sim, .nil, List.nodup_nil, fun _ z => (nomatch z), fun _ z => (nomatch z), p.zd⟩
theorem putBack_nil {back : Env} : putBack back [] env = env := by
  unfold putBack lentAt
  apply List.ext_getElem?
  intro i
  rw [List.getElem?_mapIdx]
  cases env[i]? <;> rfl
theorem PostL.behind {σ' : L2.St} {env' : Env} (p : PostL W H Z Fs σ H1 Z1 env Fs1 [] [] F) (q : PostE W H1 Z1 (fun _ => []) σ' H2 Z2 env' Fs2 x v Fx) : PostE W H Z Fs σ H2 Z2 env (FsBack Fs1 (fun _ => []) []) x v Fx := by
  have hZ : (fun a => Z1 a ∧ a ∉ ([] : List Addr)) = Z1 := by funext a; simp
  have hF : FsOf Fs1 ([] : List AV) = fun _ => [] := by funext i; simp [FsOf]
  have q' : PostE W H1 (fun a => Z1 a ∧ a ∉ ([] : List Addr)) (FsOf Fs1 []) (([] : List V).map some) H2 Z2 [] (fun _ => []) x v Fx := by
    rw [hZ, hF]
    exact ⟨⟨q.st.fr, q.st.zin, q.st.zkeep, fun a h => q.st.own a (h.elim (fun ⟨_, z⟩ => nomatch z) .inr)⟩, ⟨fun i x e => by simp at e, fun _ _ => rfl, fun _ _ _ h => (nomatch h), fun _ => List.nodup_nil, fun _ _ h => (nomatch h), q.sim.zdom, rfl, q.sim.tabs⟩, ⟨q.pd.own, q.pd.nd, q.pd.sub, fun a _ ⟨_, z⟩ => nomatch z⟩⟩
  have := PostA.called p.toA0 List.nodup_nil q'
  rwa [putBack_nil] at this
end

section
variable {P : Program} {pw : World} {W0 W : Wd} {base : Heap} {L : Nat → LamE} {N : List Str} {sc : Scope} {X : Cx} {k lev : Nat} {gm : Nat → M Val}
/-- the lambdas' meanings -/
def gkOf (L : Nat → LamE) (gm : Nat → M Val) : LamG := fun k args ds => if args.length = (L k).ps.length then lamRun (L k).ex.length (gm k) args ds else .bad
theorem run_clo (hl : W0.Like W) (DD : MX (ClF P pw W0 base L) P pw W base N sc (lev + 1) X) (hB : ∀ k W' X', W0.Like W' → MX (ClF P pw W0 base L) P pw W' base (L k).own (L k).scope lev X' → GE X' W' (L k).body (gm k))
    {w : WX} (tk : Takes X w) {pins : List (Addr × Obj)} {σ : L2.St} {H H1 : Hp} {Z Z1 : Addr → Prop} {Fs Fs1 : Nat → List Addr} {env1 : Env} {s1 : Shared} {Q : VK} {us : List Value} {vs : List V} {xs : List Val} {F : List Addr} {f : Addr} {ds : List D}
    (I1 : Inv X pins σ H1 s1) (p : PostL W H Z Fs σ H1 Z1 env1 Fs1 xs vs F) (o : Own W H1 (fun a => ¬ Z1 a) .shr (.ref f) (.clo k ds) []) (r : Vals vs us) (h : Fin W w σ H Z Fs ((gkOf L gm k (xs.map (·.2)) ds).keep env1) Q) :
    wpAny (model X.prog X.w) X.A (call (.ref f) us) (EP X pins σ Q) X.xe s1 := by
  unfold gkOf at h
  by_cases hlen : (xs.map (·.2)).length = (L k).ps.length
  case neg => rw [if_neg hlen] at h; exact h.elim
  rw [if_pos hlen] at h
  obtain ⟨Z2, hZ, p2⟩ := p.shr'
  obtain ⟨f', ws, ef, hcl, hos⟩ := o.clo_inv
  cases ef
  obtain ⟨X0, pins0, σ0, H0, s0, c', pm, ctv, A⟩ := DD.cvx rfl pins σ H1 s1 I1 _ _ _ _ hcl
  have of1 := exactO_at I1.hok A.obj
  obtain ⟨⟨oc, cs', t, hoc, hdc, hvc⟩, _, _⟩ := I1.hok c' _ A.code
  have LP := A.ok.ok
  have hvl : vs.length = (L k).ps.length := by rw [p.own.length, ← hlen, List.length_map]
  have hul : us.length = (L k).ps.length := by rw [← r.length, hvl]
  have e0 : Env0 X0.prog X0.w X0.K X0.mg X0.base X.A X.stack s1 H1 := by
    have := I1.env0
    rw [DD.prog, DD.w, DD.K, DD.mg, DD.base, hl.K, hl.mg] at this
    rw [A.prog, A.w, A.K, A.mg, A.base]
    exact this
  have hLP0 : LamP X0.env.scope (L k).scope (L k).ps := by rw [A.sc]; exact LP
  have rc : codeAny (model X.prog X.w) X.A (.call (.ref f) ⟨us, []⟩) (CR (L2.CX X.prog X.w) X.stack X.prog X.w H1 s1 Q (WE w σ)) s1 := by
    refine PySem.W.kla_callFunE DD.room.depth of1 rfl LP.co LP.gen rfl ⟨c', oc, cs', t, rfl, hoc, hdc, hvc⟩ ?_
    rw [A.ok.bind _ _ _ _ _ us hul]
    refine wpAny_pure (wpAny_newFunctionEnv LP.nocell (fun y hy => LP.par _ (List.of_mem_zip hy).1) (fun h₁ hns hsb => ⟨I1.nolimit.fresh _ hsb, ?_⟩) LP.kind)
    rw [← A.q]
    show codeAny _ _ (.expr (L k).body (lamEnv X0 (L k).scope s1.heap.objs.size f c')) _ _
    have kp : ∀ b o, s1.heap.get? b = some o → h₁.get? b = some o := fun b o e => hsb.extBut b o (Nat.ne_of_lt (Heap.lt_size e)) (Heap.get?_push_of_some _ e)
    have J := lam_startP (E := WE w σ) (f := f) (c' := c') (ex := (L k).ex) (tk := s1.toks + ((L k).ps.zip us).length) A.inv hLP0 (by rw [A.N]; exact A.ok.caps) A.caught r hvl e0 DD.room.hd A.un hns kp
    generalize hX' : lamCxN X0 X.A X.stack s1 H1 (WE w σ) (L k).scope f c' ((L k).ps ++ (L k).cs ++ (L k).ex) = X' at J
    have M' : MX (ClF P pw W0 base L) P pw W base (L k).own (L k).scope lev X' := by
      subst hX'
      exact ⟨A.prog, A.w, A.K.trans hl.K.symm, A.mg.trans hl.mg.symm, A.base, rfl, rfl, rfl, DD.room.deeper _, rfl, rfl, rfl, passes_of rfl, fun k f ws H' hc => DD.cvx rfl pins σ H1 s1 I1 k f ws H' hc⟩
    have tk' : Takes X' (fun cls d _ H => WE w σ cls d H) := by
      subst hX'
      exact takes_of rfl rfl rfl rfl
    have S : Sim W H1 Z2 (vs.map some ++ ws.map some ++ List.replicate (L k).ex.length none) ((xs.map (·.2)).map (fun d => some ((.shr, d) : Val)) ++ ds.map (fun d => some ((.shr, d) : Val)) ++ List.replicate (L k).ex.length none) (fun _ => []) := by
      have e1 : OwnL W H1 (fun a => ¬ Z2 a) ((xs.map (·.2)).map fun d => ((.shr, d) : Val)) vs [] := by
        have := p2.own
        rwa [List.map_map]
      have := Sim.shared (n := (L k).ex.length) p2.sim (Owns.app (Owns.weak (fun a n _ z => n (hZ a z)) hos) (OwnL.rep_shr e1).2)
      rwa [List.map_append, List.map_append] at this
    have hg := hB k W X' hl M' _ tk'
    have eqs : X'.prog = X0.prog ∧ X'.w = X0.w ∧ X'.A = X.A.deeper (lamEnv X0 (L k).scope s1.heap.objs.size f c') ∧ X'.env = lamEnv X0 (L k).scope s1.heap.objs.size f c' ∧ X'.xe = (fun e s' => wpAny (model X0.prog X0.w) (X.A.deeper (lamEnv X0 (L k).scope s1.heap.objs.size f c')) (leaving (lamEnv X0 (L k).scope s1.heap.objs.size f c') e) (fun _ s'' => L2.CX X0.prog X0.w X.stack H1 s1 (WE w σ) e s'') (fun e' s'' => L2.CX X0.prog X0.w X.stack H1 s1 (WE w σ) e' s'') s') ∧ X'.s_0 = s1 ∧ X'.H_0 = H1 ∧ X'.outer = X.stack ∧ X'.ex = [] := by
      subst hX'
      exact ⟨rfl, rfl, rfl, rfl, rfl, rfl, rfl, rfl, rfl⟩
    have hgo := hg.run [] _ _ H1 Q J ⟨Z2, _, _, S, by
      unfold lamRun at h
      cases em : gm k ((xs.map (·.2)).map (fun d => some ((.shr, d) : Val)) ++ ds.map (fun d => some ((.shr, d) : Val)) ++ List.replicate (L k).ex.length none) with
      | ok x e' =>
        rw [em] at h
        exact fun H' Z' Fs' v Fx q => h H' Z' _ v Fx (p2.drop.behind q)
      | exc c fs e' =>
        rw [em] at h
        intro H' Z' Fs' cls dd q
        have q2 := p2.drop.behind (x := (.all, .non)) (v := .non) (Fx := []) ⟨q.st, q.sim, pend_imm .non⟩
        exact h H' Z' _ cls dd ⟨q2.st, q2.sim, q.cls, q.fld⟩
      | bad => rw [em] at h; exact h.elim⟩
    obtain ⟨q1, q2, q3, q4, q5, q6, q7, q8, q9⟩ := eqs
    rw [q1, q2, q3, q4, q5] at hgo
    have ep : X0.prog = X.prog := A.prog.trans DD.prog.symm
    have ew : X0.w = X.w := A.w.trans DD.w.symm
    rw [← ep, ← ew]
    refine PySem.W.kla_codeExpr (wpAny_mono hgo (fun v s' hq => ?_) fun e s' hq => hq)
    obtain ⟨w', H', J', rv, q⟩ := hq
    have b := J'.base
    have ho := J'.hok
    have os := J'.os
    rw [q6] at os b
    rw [q7, q9] at b
    rw [Cx.fs, q8] at b
    rw [q1, q2] at ho
    exact ⟨w', H', os, J'.bare, b, ho, rv, q⟩
  refine wpAny_call (codeAny_mono rc fun r s' hq => ?_)
  cases r with
  | error e => exact passAt tk σ pins H1 s1 e s' I1 hq
  | ok fl =>
    cases fl with
    | ret u => exact I1.after hq
    | next => exact False.elim hq
    | brk => exact False.elim hq
    | cont => exact False.elim hq
theorem MX.less {cv : CV} {W : Wd} {j : Nat} (D : MX cv P pw W base N sc k X) (h : j ≤ k) : MX cv P pw W base N sc j X := { D with room := D.room.mono h }
theorem ge_callClo0 (hl : W0.Like W) (D : MX (ClF P pw W0 base L) P pw W base N sc k X) (hlev : lev + 1 ≤ k) (hB : ∀ k W' X', W0.Like W' → MX (ClF P pw W0 base L) P pw W' base (L k).own (L k).scope lev X' → GE X' W' (L k).body (gm k))
    {i : Nat} {a : Str} {p1 p2 : Pos} (hN : X.N[i]? = some a) (hv : Vis X.env.scope a) (hd : (a == ("__debug__" : Str)) = false) (hcd : (a == ("__classdict__" : Str)) = false) : GE X W (.Call (.Name a p1) [] [] p2) (mCallClo (gkOf L gm) i mNil) := fun w tk => by
  refine ⟨fun pins s σ H Q I h => ?_⟩
  obtain ⟨Z, env, Fs, S, h⟩ := h
  unfold mCallClo at h
  cases ek : cloAt env i with
  | none => rw [ek] at h; exact h.elim
  | some kd =>
    rw [ek] at h
    obtain ⟨j, ds⟩ := kd
    obtain ⟨m, e⟩ := cloAt_some ek
    obtain ⟨v, e1, o⟩ := S.rep i _ e
    obtain ⟨f, ws, rfl, hc, hos⟩ := o.clo_inv
    refine wpAny_Call_Name_kw (thn ((pe_var (pos := p1) (i := i) hN hv hd hcd).run pins s σ H (fun v H1 => v = .ref f ∧ H1 = H) I ⟨.ref f, e1, rfl, rfl⟩) fun u s1 ⟨v, H1, I1, r1, q1⟩ => ?_)
    obtain ⟨ev, eH⟩ := q1
    subst ev
    rw [eH] at I1
    obtain rfl : u = Value.ref f := r1
    obtain ⟨X0, pins0, σ0, H0, s0, c', pm, ctv, A⟩ := D.cvx rfl pins σ H s1 I1 _ _ _ _ hc
    refine PySem.W.callWith_F0 ⟨_, _, _, _, exactO_at I1.hok A.obj⟩ ?_
    rw [hos.shr_nil] at hos
    exact run_clo hl (D.less hlev) hB tk I1 (PostL.start S) (.clo hc (Owns.weak (fun a n _ => n) hos)) .nil h
theorem ge_callClo (hl : W0.Like W) (D : MX (ClF P pw W0 base L) P pw W base N sc k X) (hlev : lev + 1 ≤ k) (hB : ∀ k W' X', W0.Like W' → MX (ClF P pw W0 base L) P pw W' base (L k).own (L k).scope lev X' → GE X' W' (L k).body (gm k))
    {i : Nat} {a : Str} {p1 p2 : Pos} {e : Expr} {es : List Expr} {ma : M (List Val)} (hN : X.N[i]? = some a) (hv : Vis X.env.scope a) (hd : (a == ("__debug__" : Str)) = false) (hcd : (a == ("__classdict__" : Str)) = false) (ha : GA X W (e :: es) ma)
    (he : starEach (e :: es) X.env = (false, eval e X.env) :: starEach es X.env) (hpl : (backTo p2 (starEach es X.env)).any (·.1) = false) : GE X W (.Call (.Name a p1) (e :: es) [] p2) (mCallClo (gkOf L gm) i ma) := fun w tk => by
  refine ⟨fun pins s σ H Q I h => ?_⟩
  obtain ⟨Z, env, Fs, S, h⟩ := h
  unfold mCallClo at h
  cases ek : cloAt env i with
  | none => rw [ek] at h; exact h.elim
  | some kd =>
    rw [ek] at h
    obtain ⟨j, ds⟩ := kd
    obtain ⟨m, e⟩ := cloAt_some ek
    obtain ⟨v, e1, o⟩ := S.rep i _ e
    obtain ⟨f, ws, rfl, hc, hos⟩ := o.clo_inv
    refine wpAny_Call_Name_kw (thn ((pe_var (pos := p1) (i := i) hN hv hd hcd).run pins s σ H (fun v H1 => v = .ref f ∧ H1 = H) I ⟨.ref f, e1, rfl, rfl⟩) fun u s1 ⟨v, H1, I1, r1, q1⟩ => ?_)
    obtain ⟨ev, eH⟩ := q1
    subst ev
    rw [eH] at I1
    obtain rfl : u = Value.ref f := r1
    obtain ⟨X0, pins0, σ0, H0, s0, c', pm, ctv, A⟩ := D.cvx rfl pins σ H s1 I1 _ _ _ _ hc
    rw [hos.shr_nil] at hos
    have o2 : Own W H (fun a => ¬ Z a) .shr (.ref f) (.clo j ds) [] := .clo hc hos
    have hv : rdA W w ma σ H fun vs H1 => ∃ Z1 Fs1 F xs env1, PostL W H Z Fs σ H1 Z1 env1 Fs1 xs vs F ∧ Own W H1 (fun a => ¬ Z1 a) .shr (.ref f) (.clo j ds) [] ∧ Fin W w σ H Z Fs ((gkOf L gm j (xs.map (·.2)) ds).keep env1) Q := by
      refine ⟨Z, env, Fs, S, ?_⟩
      have h : Fin W w σ H Z Fs ((ma env).bind fun xs env => (gkOf L gm j (xs.map (·.2)) ds).keep env) Q := h
      cases ea : ma env with
      | ok xs env1 =>
        rw [ea] at h
        exact fun H1 Z1 Fs1 vs F p => ⟨Z1, Fs1, F, xs, env1, p, Own.later (fun a z => S.subO z) o2 (fun _ z => nomatch z) p.st, h⟩
      | exc c fs e1 => rw [ea] at h; exact h
      | bad => rw [ea] at h; exact h
    refine PySem.W.callWith_F ⟨_, _, _, _, exactO_at I1.hok A.obj⟩ (thn ((ha w tk).run p2 pins s1 σ H _ I1 hv) fun us s2 ⟨vs, H2, I2, r, Z1, Fs1, F, xs, env1, p, o3, h3⟩ => ?_) he hpl
    obtain ⟨f', ws', ef, hc', hos'⟩ := o3.clo_inv
    cases ef
    obtain ⟨X0', pins0', σ0', H0', s0', c2, pm', ctv', A'⟩ := D.cvx rfl pins σ H2 s2 I2 _ _ _ _ hc'
    exact ⟨⟨_, _, _, _, exactO_at I2.hok A'.obj⟩, run_clo hl (D.less hlev) hB tk I2 p o3 r h3⟩
end
end BV
set_option maxHeartbeats 2000000
/-! BV36: calls of defs that know of no closures, from where closures are about; peeks with lent slots. -/
namespace BV
open PySem PySem.Spec PyProof.Rows L2 LamX

def Wd.noCl (W : Wd) : Wd := { W with cl := fun _ _ _ _ => False, clS := fun _ _ _ _ _ h _ => h }
theorem Wd.noCl_like {W : Wd} : W.Like W.noCl := ⟨rfl, rfl, rfl⟩
def mCallNF (mp : List Nat) (n : Nat) (g : List Val → CO) (as : List AV) : M Val := fun env => match argsOf mp env 0 as with
  | some args => if args.all (fun x => x.2.noclo) = true then mCallF mp n g as env else .bad
  | none => .bad
/-- a call whose arguments hold no closures -/
def mCallN (mp : List Nat) (n : Nat) (g : List Val → CO) (ma : M (List AV)) : M Val := ma.bind fun as => mCallNF mp n g as
section
variable {W : Wd} {w : WX} {σ : L2.St} {H H1 H2 : Hp} {Z Z1 Z2 : Addr → Prop} {Fs Fs1 Fs2 Fp : Nat → List Addr} {env env1 back : Env} {as : List AV} {vs : List V} {F Fx : List Addr} {x : Val} {v : V} {mp : List Nat} {args : List Val}
theorem PostA.promiseN {n : Nat} {g : List Val → CO} {Q : VK} (p : PostA W H Z Fs σ H1 Z1 env Fs1 as vs F) (h : Fin W w σ H Z Fs (mCallNF mp n g as env) Q) : spD W.noCl n g vs H1 Q (WE w σ) := by
  unfold mCallNF at h
  cases ea : argsOf mp env 0 as with
  | none => rw [ea] at h; exact h.elim
  | some args =>
    rw [ea] at h
    dsimp only at h
    by_cases cn : args.all (fun x => x.2.noclo) = true
    case neg => rw [if_neg cn] at h; exact h.elim
    rw [if_pos cn] at h
    unfold mCallF at h
    by_cases c : as.length = n ∧ (lentOf as).Nodup
    case neg => rw [if_neg c] at h; exact h.elim
    rw [if_pos c, ea] at h
    dsimp only at h
    have hl := (argsOf_ok ea).1
    have S := p.callee c.2 ea
    have S' : Sim W.noCl H1 (fun a => Z1 a ∧ a ∉ F) (vs.map some) (args.map some) (FsOf Fs1 as) := ⟨fun i x e => by
      obtain ⟨v, e1, o⟩ := S.rep i x e
      exact ⟨v, e1, o.unworld (Wd.noCl_like (W := W)).symm rfl (List.all_eq_true.mp cn x (List.mem_of_getElem? (map_some_get e)))⟩, S.off, S.dis, S.nd, S.sub, S.zdom, S.len, S.tabs⟩
    refine ⟨_, args, _, by rw [p.own.length, c.1], by rw [hl, c.1], S', ?_⟩
    cases eg : g args with
    | ok x back =>
      rw [eg] at h
      exact fun H' Z' Fp' v Fx q => h _ _ _ _ _ (PostA.calledW Wd.noCl_like p c.2 q (fun o => o.world (Wd.noCl_like (W := W)).symm rfl fun _ _ _ z => z.elim) fun _ _ _ _ o => o.world (Wd.noCl_like (W := W)).symm rfl fun _ _ _ z => z.elim)
    | exc ce fs back =>
      rw [eg] at h
      intro H' Z' Fp' cls dd q
      have q2 := PostA.calledW Wd.noCl_like p c.2 (x := (.all, .non)) (v := .non) (Fx := []) ⟨q.st, q.sim, pend_imm .non⟩ (fun o => o.world (Wd.noCl_like (W := W)).symm rfl fun _ _ _ z => z.elim) fun _ _ _ _ o => o.world (Wd.noCl_like (W := W)).symm rfl fun _ _ _ z => z.elim
      exact h H' Z' _ cls dd ⟨q2.st, q2.sim, q.cls, q.fld.imp id fun ⟨dx, ws, a1, a2, a3, a4⟩ => ⟨dx, ws, a1, a2, a3, a4.world (Wd.noCl_like (W := W)).symm rfl fun _ _ _ z => z.elim⟩⟩
    | bad => rw [eg] at h; exact h.elim
theorem rd_callN {n : Nat} {g : List Val → CO} {ma : M (List AV)} {Q : VK} (h : rdE W w (mCallN mp n g ma) σ H Q) : rdAV W w ma σ H fun vs H1 => spD W.noCl n g vs H1 Q (WE w σ) := by
  obtain ⟨Z, env, Fs, S, h⟩ := h
  refine ⟨Z, env, Fs, S, ?_⟩
  have h : Fin W w σ H Z Fs ((ma env).bind fun as => mCallNF mp n g as) Q := h
  cases e : ma env with
  | ok as e1 =>
    rw [e] at h
    exact fun H1 Z1 Fs1 vs F p => p.promiseN h
  | exc c fs e1 => rw [e] at h; exact h
  | bad => rw [e] at h; exact h
end
section
variable {X : Cx} {W W' : Wd} {mp : List Nat} {n k : Nat} {g : List Val → CO} {ma : M (List AV)} {f : Addr} {fd : FuncData} {ps : List Str} {x : Str} {p pos : Pos} {e : Expr} {es : List Expr}
theorem ge_callN (F : FnS X.prog X.w X.K X.mg X.base (L2.CX X.prog X.w) k f fd ps (spS cvF W n g)) (hl : W.Like W') (hr : Room k X.A) (hg : Gl X x) (hm : X.mg x = some (.ref f)) (hk : PySem.W.keepIn X.K (.ref f) = true) (hb : Binds X.K fd ps [])
    (ha : GAV X W' (e :: es) ma) (hdb : (x == ("__debug__" : Str)) = false) (he : starEach (e :: es) X.env = (false, eval e X.env) :: starEach es X.env) (hpl : (backTo pos (starEach es X.env)).any (·.1) = false) :
    GE X W' (.Call (.Name x p) (e :: es) [] pos) (mCallN mp n g ma) := fun w tk => by
  refine ⟨fun pins s σ H Q I h => ?_⟩
  refine wpAny_Call_Name_kw (ld_glob I hg hm ?_ hdb)
  refine PySem.W.callWith_K (h₀ := X.base) I.ok.mod.kin hk (thn ((ha w tk).run pos pins s σ H _ I (rd_callN h)) fun us s1 ⟨vs, H1, I1, r, q⟩ => ⟨I1.kIn, ?_⟩) he hpl
  exact run_fnS (E := WE w) F hr hb .nil (passAt tk σ) I1 r ⟨W'.noCl, hl.trans Wd.noCl_like, fun _ _ _ _ z => z.elim, by rw [List.append_nil]; exact q⟩
theorem ge_callN0 (F : FnS X.prog X.w X.K X.mg X.base (L2.CX X.prog X.w) k f fd ps (spS cvF W n g)) (hl : W.Like W') (hr : Room k X.A) (hg : Gl X x) (hm : X.mg x = some (.ref f)) (hk : PySem.W.keepIn X.K (.ref f) = true) (hb : Binds X.K fd ps [])
    (hdb : (x == ("__debug__" : Str)) = false) : GE X W' (.Call (.Name x p) [] [] pos) (mCallN mp n g mANil) := fun w tk => by
  refine ⟨fun pins s σ H Q I h => ?_⟩
  refine wpAny_Call_Name_kw (ld_glob I hg hm ?_ hdb)
  obtain ⟨Z, env, Fs, S, h1⟩ := rd_callN h
  exact PySem.W.callWith_K0 I.kIn hk (run_fnS (E := WE w) (us := []) F hr hb .nil (passAt tk σ) I .nil ⟨W'.noCl, hl.trans Wd.noCl_like, fun _ _ _ _ z => z.elim, h1 _ _ _ _ _ (PostA.start S)⟩)
end

/-! ### peeks: all slots but some are frozen while e is read -/
def frzX (ls : List Nat) (env : Env) : Env := env.mapIdx fun i o => if i ∈ ls then o else o.map frzV
def exF (ls : List Nat) (Fs : Nat → List Addr) : Nat → List Addr := fun i => if i ∈ ls then Fs i else []
def nexF (ls : List Nat) (Fs : Nat → List Addr) : Nat → List Addr := fun i => if i ∈ ls then [] else Fs i
/-- what the lent slots hold behind it -/
def thawX (ls : List Nat) (env env' : Env) : Env := env.mapIdx fun i o => if i ∈ ls then (env'[i]?).join else o
def solidV (x : Val) : Prop := (x.1 = .all ∧ x.2.solid = true) ∨ x.2.imm = true
instance (x : Val) : Decidable (solidV x) := by unfold solidV; infer_instance
def solidAt (ls : List Nat) (env : Env) : Bool := ls.all fun i => match env[i]? with
  | some (some x) => decide (solidV x)
  | _ => true
def mPeekX (ls : List Nat) (m : M Val) : M Val := fun env => match m (frzX ls env) with
  | .ok x env' => if solidV x ∧ solidAt ls env' = true then .ok x (thawX ls env env') else .bad
  | .exc c fs env' => .exc c fs env'
  | .bad => .bad
def mPeekXT (ls : List Nat) (m : M Bool) : M Bool := fun env => match m (frzX ls env) with
  | .ok x env' => if solidAt ls env' = true then .ok x (thawX ls env env') else .bad
  | .exc c fs env' => .exc c fs env'
  | .bad => .bad
section
variable {W : Wd} {w : WX} {σ : L2.St} {H H1 H2 : Hp} {Z Z1 Z2 : Addr → Prop} {Fs Fs1 Fs2 : Nat → List Addr} {env env1 : Env} {x : Val} {v : V} {Fx : List Addr} {ls : List Nat}
theorem frzX_get {i : Nat} : (frzX ls env)[i]? = (env[i]?).map fun o => if i ∈ ls then o else o.map frzV := by
  unfold frzX
  rw [List.getElem?_mapIdx]
theorem thawX_get {env' : Env} {i : Nat} : (thawX ls env env')[i]? = (env[i]?).map fun o => if i ∈ ls then (env'[i]?).join else o := by
  unfold thawX
  rw [List.getElem?_mapIdx]
theorem OF_exF {a : Addr} (h : OF (exF ls Fs) a) : OF Fs a := by
  obtain ⟨i, h⟩ := h
  unfold exF at h
  split at h
  · exact ⟨i, h⟩
  · cases h
theorem OF_nexF {a : Addr} (h : OF (nexF ls Fs) a) : OF Fs a := by
  obtain ⟨i, h⟩ := h
  unfold nexF at h
  split at h
  · cases h
  · exact ⟨i, h⟩
theorem Sim.ex_nex (S : Sim W H Z σ env Fs) {a : Addr} (h1 : OF (exF ls Fs) a) (h2 : OF (nexF ls Fs) a) : False := by
  obtain ⟨i, h1⟩ := h1
  obtain ⟨j, h2⟩ := h2
  unfold exF at h1
  unfold nexF at h2
  split at h1
  · split at h2
    · cases h2
    · rename_i hi hj
      exact hj (S.dis i j a h1 h2 ▸ hi)
  · cases h1
theorem Sim.frzX (S : Sim W H Z σ env Fs) : Sim W H (fun a => Z a ∧ ¬ OF (nexF ls Fs) a) σ (frzX ls env) (exF ls Fs) where
  rep := fun i y e => by
    rw [frzX_get] at e
    cases q : env[i]? with
    | none => rw [q] at e; cases e
    | some o =>
      rw [q] at e
      by_cases hi : i ∈ ls
      · simp only [Option.map_some, if_pos hi, Option.some.injEq] at e
        subst e
        obtain ⟨v, e2, o⟩ := S.rep i y q
        exact ⟨v, e2, by unfold exF; rw [if_pos hi]; exact Own.weak (fun a n _ z => n z.1) o⟩
      · simp only [Option.map_some, if_neg hi, Option.some.injEq] at e
        cases o with
        | none => cases e
        | some x =>
          cases e
          obtain ⟨v, e2, o⟩ := S.rep i x q
          refine ⟨v, e2, ?_⟩
          unfold exF
          rw [if_neg hi]
          exact Own.frzV (fun a n _ z => n z.1) o fun a ha z => z.2 ⟨i, by unfold nexF; rw [if_neg hi]; exact ha⟩
  off := fun i h => by
    unfold exF
    split
    · rename_i hi
      refine S.off i fun x e => h x ?_
      rw [frzX_get, e]
      simp [hi]
    · rfl
  dis := fun i j a h1 h2 => by
    unfold exF at h1 h2
    split at h1
    · split at h2
      · exact S.dis i j a h1 h2
      · cases h2
    · cases h1
  nd := fun i => by
    unfold exF
    split
    · exact S.nd i
    · exact List.nodup_nil
  sub := fun i a h => by
    have h0 : OF (exF ls Fs) a := ⟨i, h⟩
    exact ⟨S.subO (OF_exF h0), fun z => S.ex_nex h0 z⟩
  zdom := fun a h => S.zdom a h.1
  len := by unfold BV.frzX; rw [List.length_mapIdx]; exact S.len
  tabs := S.tabs
theorem Sim.frzXStep (S : Sim W H Z σ env Fs) : Step W H Z Fs H (fun a => Z a ∧ ¬ OF (nexF ls Fs) a) (exF ls Fs) [] :=
  ⟨Fr.refl, fun _ h => .inl h.1, fun _ h n => ⟨h, fun z => n (OF_nexF z)⟩, fun a h => h.elim (fun z => .inl (OF_exF z)) fun z => nomatch z⟩
theorem Own.solidV {P P' : Addr → Prop} {x : Val} {F : List Addr} (o : Own W H P x.1 v x.2 F) (h : solidV x) : Own W H P' x.1 v x.2 F := by
  rcases h with ⟨h1, h2⟩ | h
  · exact o.solid h1 h2
  · obtain ⟨rfl, q⟩ := o.of_imm h
    exact q _ _
theorem Sim.thawL (S : Sim W H Z σ env Fs) (q : PostE W H (fun a => Z a ∧ ¬ OF (nexF ls Fs) a) (exF ls Fs) σ H1 Z1 env1 Fs1 x v Fx) (hx : solidV x) (hs : solidAt ls env1 = true) :
    ∃ Z2 Fs2, PostE W H Z Fs σ H1 Z2 (BV.thawX ls env env1) Fs2 x v Fx := by
  -- what it owns now is new, or a lent slot's
  have hn : ∀ a, (OF Fs1 a ∨ a ∈ Fx) → OF (exF ls Fs) a ∨ H a = none := fun a ha => q.st.own a ha
  have keepF : ∀ {a o}, H a = some o → ¬ OF (exF ls Fs) a ∨ Fixed o → ¬ Tbl o → H1 a = some o := fun {a o} h k t => q.st.fr.keep a o h k t
  let Fs2 : Nat → List Addr := fun i => if i ∈ ls then (if i < env.length then Fs1 i else []) else Fs i
  have f2 : ∀ {a}, OF Fs2 a → (OF Fs1 a ∧ ∃ i ∈ ls, a ∈ Fs1 i) ∨ OF (nexF ls Fs) a := fun {a} ⟨i, h⟩ => by
    simp only [Fs2] at h
    split at h
    · rename_i hi
      split at h
      · exact .inl ⟨⟨i, h⟩, i, hi, h⟩
      · cases h
    · rename_i hi
      exact .inr ⟨i, by unfold nexF; rw [if_neg hi]; exact h⟩
  have apart : ∀ {a}, OF (nexF ls Fs) a → ¬ (OF Fs1 a ∨ a ∈ Fx) := fun {a} h z => (hn a z).elim (fun z => S.ex_nex z h) (S.zdom a (S.subO (OF_nexF h)))
  refine ⟨fun a => Z1 a ∨ OF (nexF ls Fs) a, Fs2, ⟨⟨fun a o h k t => keepF h (k.imp (fun n z => n (OF_exF z)) id) t, q.st.fr.tabs, q.st.fr.there⟩, fun a z => z.elim (fun z => (q.st.zin a z).imp (·.1) id) fun z => .inl (S.subO (OF_nexF z)), fun a z n => .inl (q.st.zkeep a ⟨z, fun z' => n (OF_nexF z')⟩ fun z' => n (OF_exF z')), fun a z => ?_⟩,
    ⟨fun i y e => ?_, fun i h => ?_, fun i j a h1 h2 => ?_, fun i => ?_, fun i a h => ?_, fun a z => ?_, by unfold BV.thawX; rw [List.length_mapIdx]; exact S.len, q.sim.tabs⟩, ⟨?_, q.pd.nd, fun a ha => .inl (q.pd.sub a ha), fun a ha z => ?_⟩⟩
  · rcases z with z | z
    · rcases f2 z with ⟨z, _⟩ | z
      · exact (hn a (.inl z)).imp OF_exF id
      · exact .inl (OF_nexF z)
    · exact (hn a (.inr z)).imp OF_exF id
  · rw [thawX_get] at e
    cases q2 : env[i]? with
    | none => rw [q2] at e; cases e
    | some o =>
      rw [q2] at e
      have hl : i < env.length := (List.getElem?_eq_some_iff.mp q2).1
      by_cases hi : i ∈ ls
      · simp only [Option.map_some, if_pos hi, Option.some.injEq] at e
        have e1 : env1[i]? = some (some y) := by
          cases q3 : env1[i]? with
          | none => rw [q3] at e; cases e
          | some o => rw [q3] at e; exact congrArg some e
        obtain ⟨u, e2, ou⟩ := q.sim.rep i y e1
        have sy := List.all_eq_true.mp hs i hi
        rw [e1] at sy
        refine ⟨u, e2, ?_⟩
        simp only [Fs2, if_pos hi, if_pos hl]
        exact ou.solidV (of_decide_eq_true sy)
      · simp only [Option.map_some, if_neg hi, Option.some.injEq] at e
        subst e
        obtain ⟨u, e2, ou⟩ := S.rep i y q2
        refine ⟨u, e2, ?_⟩
        simp only [Fs2, if_neg hi]
        have fr : Fr W (OF (exF ls Fs)) H H1 := q.st.fr
        refine Own.weak (P := fun a => ¬ Z a ∧ ¬ OF (exF ls Fs) a ∧ H a ≠ none) (fun a n _ z => z.elim (fun z => (q.st.zin a z).elim (fun z => n.1 z.1) n.2.2) fun z => n.1 (S.subO (OF_nexF z))) ?_
        refine Own.frame fr (fun a n => n.2.1) (Own.weak (fun a n t => ⟨n, fun z => n (S.subO (OF_exF z)), t⟩) ou) fun a ha z => S.ex_nex z ⟨i, by unfold nexF; rw [if_neg hi]; exact ha⟩
  · simp only [Fs2]
    split
    · rename_i hi
      split
      · rename_i hl
        refine q.sim.off i fun x e => h x ?_
        rw [thawX_get, List.getElem?_eq_getElem hl]
        simp [hi, e]
      · rfl
    · rename_i hi
      refine S.off i fun x e => h x ?_
      rw [thawX_get, e]
      simp [hi]
  · have g : ∀ {i}, a ∈ Fs2 i → (i ∈ ls ∧ a ∈ Fs1 i) ∨ (i ∉ ls ∧ a ∈ Fs i) := fun {i} h => by
      simp only [Fs2] at h
      split at h
      · split at h
        · exact .inl ⟨by assumption, h⟩
        · cases h
      · exact .inr ⟨by assumption, h⟩
    rcases g h1 with ⟨i1, k1⟩ | ⟨i1, k1⟩ <;> rcases g h2 with ⟨i2, k2⟩ | ⟨i2, k2⟩
    · exact q.sim.dis i j a k1 k2
    · exact absurd (.inl ⟨i, k1⟩) (apart ⟨j, by unfold nexF; rw [if_neg i2]; exact k2⟩)
    · exact absurd (.inl ⟨j, k2⟩) (apart ⟨i, by unfold nexF; rw [if_neg i1]; exact k1⟩)
    · exact S.dis i j a k1 k2
  · simp only [Fs2]
    split
    · split
      · exact q.sim.nd i
      · exact List.nodup_nil
    · exact S.nd i
  · rcases f2 ⟨i, h⟩ with ⟨z, _⟩ | z
    · exact .inl (q.sim.subO z)
    · exact .inr z
  · rcases z with z | z
    · exact q.sim.zdom a z
    · exact q.st.fr.there a (S.zdom a (S.subO (OF_nexF z)))
  · exact q.pd.own.solidV hx
  · rcases f2 z with ⟨z, _⟩ | z
    · exact q.pd.dis a ha z
    · exact apart z (.inr ha)
theorem Sim.thawLX {c : Str} {fs : List (Str × D)} {cls : Value} {dd : Option Addr} (S : Sim W H Z σ env Fs) (q : PostX W H (fun a => Z a ∧ ¬ OF (nexF ls Fs) a) (exF ls Fs) σ H1 Z1 env1 Fs1 c fs cls dd) : PostX W H Z Fs σ H1 Z1 env1 Fs1 c fs cls dd :=
  ⟨by have := (S.frzXStep (ls := ls)).seq S.zdom q.st; simpa using this, q.sim, q.cls, q.fld⟩
end
section
variable {X : Cx} {W : Wd} {e : Expr} {m : M Val} {mt : M Bool} {ls : List Nat}
theorem ge_peekX (h : GE X W e m) : GE X W e (mPeekX ls m) := fun w tk => by
  refine pe_imp (h w tk) fun σ H Q h => ?_
  obtain ⟨Z, env, Fs, S, h⟩ := h
  refine ⟨_, _, _, S.frzX (ls := ls), ?_⟩
  unfold mPeekX at h
  cases e : m (frzX ls env) with
  | ok x env' =>
    rw [e] at h
    dsimp only at h
    by_cases c : solidV x ∧ solidAt ls env' = true
    · rw [if_pos c] at h
      intro H' Z' Fs' v Fx q
      obtain ⟨Z2, Fs2, q2⟩ := S.thawL q c.1 c.2
      exact h _ _ _ _ _ q2
    · rw [if_neg c] at h; exact h.elim
  | exc c fs env' =>
    rw [e] at h
    exact fun H' Z' Fs' cls dd q => h _ _ _ _ _ (S.thawLX q)
  | bad => rw [e] at h; exact h
theorem rdT_peekX {w : WX} {σ : L2.St} {H : Hp} {Q : Bool → Hp → Prop} (h : rdT W w (mPeekXT ls mt) σ H Q) : rdT W w mt σ H Q := by
  obtain ⟨Z, env, Fs, S, h⟩ := h
  refine ⟨_, _, _, S.frzX (ls := ls), ?_⟩
  unfold mPeekXT at h
  cases e : mt (frzX ls env) with
  | ok b env' =>
    rw [e] at h
    dsimp only at h
    by_cases c : solidAt ls env' = true
    · rw [if_pos c] at h
      intro H' Z' Fs' q
      have q1 : PostE W H (fun a => Z a ∧ ¬ OF (nexF ls Fs) a) (exF ls Fs) σ H' Z' env' Fs' (.all, .non) .non [] := ⟨q.st, q.sim, pend_imm .non⟩
      obtain ⟨Z2, Fs2, q2⟩ := S.thawL q1 (.inr rfl) c
      exact h _ _ _ ⟨q2.st, q2.sim, .nil, List.nodup_nil, fun _ z => (nomatch z), fun _ z => (nomatch z), S.zdom⟩
    · rw [if_neg c] at h; exact h.elim
  | exc c fs env' =>
    rw [e] at h
    exact fun H' Z' Fs' cls dd q => h _ _ _ _ _ (S.thawLX q)
  | bad => rw [e] at h; exact h
theorem gt_peekX (h : GT X W e mt) : GT X W e (mPeekXT ls mt) := fun w tk => pt_imp (h w tk) fun σ H Q h => rdT_peekX h
theorem gw_peekX (h : GW X W e mt) : GW X W e (mPeekXT ls mt) := fun w tk => pw_imp (h w tk) fun σ H Q h => rdT_peekX h
end
end BV
set_option maxHeartbeats 2000000
/-! BV37: names packaged; methods of what a slot holds; keyword calls; a pop deep in a slot. -/
namespace BV
open PySem PySem.Spec PyProof.Rows L2 LamX

/-! ### names -/
structure Nm (X : Cx) (i : Nat) (x : Str) : Prop where
  hN : X.N[i]? = some x
  hv : Vis X.env.scope x
  hd : (x == ("__debug__" : Str)) = false
  hcd : (x == ("__classdict__" : Str)) = false
structure NmS (X : Cx) (i : Nat) (x : Str) : Prop extends Nm X i x where
  nd : X.N.Nodup
  loc : Loc X.env.scope x
  fn : X.fn x = true ∨ X.env.scope.names.lookup x = some .local
def nmB (N : List Str) (sc : Scope) (i : Nat) (x : Str) : Bool := decide (N[i]? = some x) && ((decide (sc.names.lookup x = some .local) || (decide (sc.names.lookup x = some .cell) || decide (sc.names.lookup x = some .free))) && (!(x == ("__debug__" : Str)) && !(x == ("__classdict__" : Str))))
def nmSB (N : List Str) (sc : Scope) (i : Nat) (x : Str) : Bool := nmB N sc i x && (decide N.Nodup && (decide (sc.names.lookup x = some .local) || decide (sc.names.lookup x = some .cell)))
/-- s reads the names of sc as sc does (a block's captured names may be cells) -/
structure SR (sc s : Scope) : Prop where
  keep : ∀ x k, k ≠ .free → sc.names.lookup x = some k → s.names.lookup x = some k
  free : ∀ x, sc.names.lookup x = some .free → s.names.lookup x = some .cell ∨ s.names.lookup x = some .free
theorem SR.refl {sc : Scope} : SR sc sc := ⟨fun _ _ _ h => h, fun _ h => .inr h⟩
theorem lookup_relS_free {sc : Scope} : ∀ {names : List (Str × NameKind)} {x : Str}, names.lookup x = some .free →
    (names.map fun p => if (p.2 == NameKind.free && sc.kind == .function && sc.names.lookup p.1 == some .cell) = true then (p.1, NameKind.cell) else p).lookup x = some .cell ∨
    (names.map fun p => if (p.2 == NameKind.free && sc.kind == .function && sc.names.lookup p.1 == some .cell) = true then (p.1, NameKind.cell) else p).lookup x = some .free
  | [], _, h => by cases h
  | (n, k0) :: r, x, h => by
    have ih := @lookup_relS_free sc r x
    rw [List.map_cons]
    cases hx : x == n with
    | true =>
      simp only [List.lookup_cons, hx] at h
      cases h
      dsimp only
      split
      · simp [List.lookup_cons, hx]
      · simp [List.lookup_cons, hx]
    | false =>
      simp only [List.lookup_cons, hx] at h
      dsimp only
      split
      · simp only [List.lookup_cons, hx]; exact ih h
      · simp only [List.lookup_cons, hx]; exact ih h
theorem SR.relS {scope sc : Scope} : SR scope (relS scope sc) := ⟨fun x k hk h => lookup_relS_keep hk h, fun x h => lookup_relS_free h⟩
theorem SR.vis {sc s : Scope} (r : SR sc s) {x : Str} (h : Vis sc x) : Vis s x := by
  rcases h with h | h | h
  · exact .inl (r.keep x _ (by decide) h)
  · exact .inr (.inl (r.keep x _ (by decide) h))
  · exact .inr (r.free x h)
theorem nm_of {X : Cx} {N : List Str} {sc : Scope} (hN : X.N = N) (hs : SR sc X.env.scope) {i : Nat} {x : Str} (h : nmB N sc i x = true) : Nm X i x := by
  unfold nmB at h
  simp only [Bool.and_eq_true, Bool.or_eq_true, Bool.not_eq_true', decide_eq_true_eq] at h
  exact ⟨by rw [hN]; exact h.1, hs.vis h.2.1, h.2.2.1, h.2.2.2⟩
theorem nmS_of {X : Cx} {N : List Str} {sc : Scope} (hN : X.N = N) (hs : SR sc X.env.scope) (hf : X.fn = fun _ => true) {i : Nat} {x : Str} (h : nmSB N sc i x = true) : NmS X i x := by
  unfold nmSB at h
  simp only [Bool.and_eq_true, Bool.or_eq_true, decide_eq_true_eq] at h
  exact ⟨nm_of hN hs h.1, by rw [hN]; exact h.2.1, h.2.2.imp (hs.keep _ _ (by decide)) (hs.keep _ _ (by decide)), .inl (by rw [hf])⟩
/-- names stored in a block: plain ones -/
def nmLB (N : List Str) (sc : Scope) (i : Nat) (x : Str) : Bool := nmSB N sc i x && decide (sc.names.lookup x = some .local)
theorem nmS_ofB {X : Cx} {N : List Str} {sc : Scope} (hN : X.N = N) (hs : SR sc X.env.scope) {i : Nat} {x : Str} (h : nmLB N sc i x = true) : NmS X i x := by
  unfold nmLB nmSB at h
  simp only [Bool.and_eq_true, Bool.or_eq_true, decide_eq_true_eq] at h
  exact ⟨nm_of hN hs h.1.1, by rw [hN]; exact h.1.2.1, h.1.2.2.imp (hs.keep _ _ (by decide)) (hs.keep _ _ (by decide)), .inr (hs.keep _ _ (by decide) h.2)⟩
section
variable {X : Cx} {W : Wd} {mp : List Nat} {i : Nat} {x : Str} {pos pos' apos cpos p1 p2 : Pos} {e : Expr} {es : List Expr} {ma : M Val} {mr : M (List AV)} {ml : M (List Val)}
theorem gn_var (n : Nm X i x) : GE X W (.Name x pos) (mVar i) := ge_var n.hN n.hv n.hd n.hcd
theorem gn_varF (n : Nm X i x) : GE X W (.Name x pos) (mVarF i) := ge_varF n.hN n.hv n.hd n.hcd
theorem gn_mut (n : Nm X i x) (hr : GAV X W es mr) (hs : starEach (.Name x pos :: es) X.env = (false, eval (.Name x pos) X.env) :: starEach es X.env) : GAV X W (.Name x pos :: es) (mAMut i mr) := gav_mut n.hN n.hv n.hd n.hcd hr hs
theorem gn_set (n : NmS X i x) (he : GE X W e ma) (hs : swapsWith e (some (.Name x pos')) pos.line X.env = pure false) : GS X W mp (.Assign [.Name x pos'] e pos) (mSet mp i ma) := gs_set n.nd n.hN n.loc he hs n.fn
theorem gn_name (n : NmS X i x) : GG X W mp (.Name x pos) (.nm i) := gg_name n.nd n.hN n.loc n.fn
/-! ### methods -/
theorem gm_append (n : Nm X i x) (ha : GA X W (e :: es) ml) (hbase : attributeBase (.Name x p1) "append" X.env (eval (.Name x p1) X.env) = eval (.Name x p1) X.env) (hs : starEach (e :: es) X.env = (false, eval e X.env) :: starEach es X.env)
    (hfew : ((backTo cpos (starEach (e :: es) X.env)).all (fun x => !x.1) && (backToKw cpos (keywordEach [] X.env)).all (fun x => x.1.isSome) && decide ((e :: es).length + ([] : List Keyword).length + (if ([] : List Keyword).isEmpty then 0 else 1) < 30)) = true)
    (hline : (apos.endLine == cpos.line) = true) (hpl : (backTo cpos (starEach es X.env)).any (·.1) = false) : GE X W (.Call (.Attribute (.Name x p1) "append" apos) (e :: es) [] cpos) (mMeth i D.isLst (gAppend i) ml) := fun w tk =>
  pe_imp (pe_bm PySem.F.plainAttrs_list PySem.F.slot_list_append PySem.F.type_list_append mt_append (pe_var n.hN n.hv n.hd n.hcd) (ha w tk) hbase hfew hline hs hpl) fun σ H Q h => rd_meth (fun o c => lst_ty o c) says_append h
theorem gm_extend (n : Nm X i x) (ha : GA X W (e :: es) ml) (hbase : attributeBase (.Name x p1) "extend" X.env (eval (.Name x p1) X.env) = eval (.Name x p1) X.env) (hs : starEach (e :: es) X.env = (false, eval e X.env) :: starEach es X.env)
    (hfew : ((backTo cpos (starEach (e :: es) X.env)).all (fun x => !x.1) && (backToKw cpos (keywordEach [] X.env)).all (fun x => x.1.isSome) && decide ((e :: es).length + ([] : List Keyword).length + (if ([] : List Keyword).isEmpty then 0 else 1) < 30)) = true)
    (hline : (apos.endLine == cpos.line) = true) (hpl : (backTo cpos (starEach es X.env)).any (·.1) = false) : GE X W (.Call (.Attribute (.Name x p1) "extend" apos) (e :: es) [] cpos) (mMeth i D.isLst (gExtend i) ml) := fun w tk =>
  pe_imp (pe_bm PySem.F.plainAttrs_list PySem.F.slot_list_extend PySem.F.type_list_extend mt_extend (pe_var n.hN n.hv n.hd n.hcd) (ha w tk) hbase hfew hline hs hpl) fun σ H Q h => rd_meth (fun o c => lst_ty o c) says_extend h
theorem gm_pop (n : Nm X i x) (hbase : attributeBase (.Name x p1) "pop" X.env (eval (.Name x p1) X.env) = eval (.Name x p1) X.env) (hline : (apos.endLine == cpos.line) = true) : GE X W (.Call (.Attribute (.Name x p1) "pop" apos) [] [] cpos) (mMeth i D.isLst (gPop i) mNil) := fun w tk =>
  pe_imp (pe_bm0 PySem.F.plainAttrs_list PySem.F.slot_list_pop PySem.F.type_list_pop mt_pop (pe_var n.hN n.hv n.hd n.hcd) hbase hline) fun σ H Q h => rd_meth0 (fun o c => lst_ty o c) says_pop h
theorem gm_popAt (n : Nm X i x) (ha : GA X W (e :: es) ml) (hbase : attributeBase (.Name x p1) "pop" X.env (eval (.Name x p1) X.env) = eval (.Name x p1) X.env) (hs : starEach (e :: es) X.env = (false, eval e X.env) :: starEach es X.env)
    (hfew : ((backTo cpos (starEach (e :: es) X.env)).all (fun x => !x.1) && (backToKw cpos (keywordEach [] X.env)).all (fun x => x.1.isSome) && decide ((e :: es).length + ([] : List Keyword).length + (if ([] : List Keyword).isEmpty then 0 else 1) < 30)) = true)
    (hline : (apos.endLine == cpos.line) = true) (hpl : (backTo cpos (starEach es X.env)).any (·.1) = false) : GE X W (.Call (.Attribute (.Name x p1) "pop" apos) (e :: es) [] cpos) (mMeth i D.isLst (gPopAt i) ml) := fun w tk =>
  pe_imp (pe_bm PySem.F.plainAttrs_list PySem.F.slot_list_pop PySem.F.type_list_pop mt_popAt (pe_var n.hN n.hv n.hd n.hcd) (ha w tk) hbase hfew hline hs hpl) fun σ H Q h => rd_meth (fun o c => lst_ty o c) says_popAt h
end
end BV
set_option maxHeartbeats 2000000
/-! BV38: keyword calls; a pop deep in a slot. -/
namespace BV
open PySem PySem.Spec PyProof.Rows L2 LamX

/-! ### keywords -/
def GKW (X : Cx) (W : Wd) (kws : List Keyword) (m : M (List Val)) : Prop := ∀ w, Takes X w → PK X kws (rdA W w m)
section
variable {X : Cx} {W : Wd} {e : Expr} {kws : List Keyword} {nm : Option Str} {kpos : Pos} {ma : M Val} {mr : M (List Val)}
theorem pk_imp {t t' : TA} (p : PK X kws t) (h : ∀ σ H Q, t' σ H Q → t σ H Q) : PK X kws t' := ⟨fun pos pins s σ H Q I k => p.run pos pins s σ H Q I (h σ H Q k)⟩
theorem gk_nil : GKW X W [] mNil := fun w _ => pk_imp pk_nil fun σ H Q h => by
  obtain ⟨Z, env, Fs, S, h⟩ := h
  exact h H Z Fs [] [] (PostL.start S)
theorem gk_cons (ha : GE X W e ma) (hr : GKW X W kws mr) : GKW X W (⟨nm, e, kpos⟩ :: kws) (mCons ma mr) := fun w tk => by
  refine pk_imp (pk_cons (ha w tk) (hr w tk)) fun σ H Q h => ?_
  obtain ⟨Z, env, Fs, S, h⟩ := h
  refine ⟨Z, env, Fs, S, ?_⟩
  have h : FinL W w σ H Z Fs ((ma env).bind fun x => mr.bind fun xs => M.pure (x :: xs)) Q := h
  cases ea : ma env with
  | exc c fs e2 => rw [ea] at h; exact h
  | bad => rw [ea] at h; exact h
  | ok x e1 =>
    rw [ea] at h
    intro H1 Z1 Fs1 v Fx q
    refine ⟨Z1, e1, Fs1, q.sim, ?_⟩
    have p : PostL W H Z Fs σ H1 Z1 e1 Fs1 [x] [v] Fx := by simpa using (PostL.start S).snoc q
    have h : FinL W w σ H Z Fs ((mr e1).bind fun xs => M.pure (x :: xs)) Q := h
    cases er : mr e1 with
    | exc c fs e2 =>
      rw [er] at h
      exact fun H' Z' Fs' cls dd q => h H' Z' Fs' cls dd (p.raise q)
    | bad => rw [er] at h; exact h
    | ok xs e2 =>
      rw [er] at h
      exact fun H' Z' Fs' vs F q => h H' Z' Fs' (v :: vs) (Fx ++ F) (p.append q)
end
/-- some of a list, in another turn -/
def permL {α : Type} (is : List Nat) (l : List α) : List α := is.filterMap (l[·]?)
theorem vals_perm {vs : List V} {us : List Value} (r : Vals vs us) : ∀ is : List Nat, Vals (permL is vs) (permL is us)
  | [] => .nil
  | i :: is => by
    unfold permL
    rw [List.filterMap_cons, List.filterMap_cons]
    cases e : vs[i]? with
    | none => rw [r.none_of e]; exact vals_perm r is
    | some v =>
      obtain ⟨u, e2, ru⟩ := r.get e
      rw [e2]
      exact .cons ru (vals_perm r is)
section
variable {W : Wd} {w : WX} {σ : L2.St} {H H1 H2 : Hp} {Z Z1 Z2 : Addr → Prop} {Fs Fs1 Fs2 : Nat → List Addr} {env env1 : Env} {xs : List Val} {vs : List V} {F : List Addr} {Q : VK}
theorem OwnL.getS {P : Addr → Prop} : ∀ {ds : List D} {vs : List V} {F : List Addr} {i : Nat}, OwnL W H P (ds.map fun d => ((.shr, d) : Val)) vs F → (∀ d, ds[i]? = some d → ∃ v, vs[i]? = some v ∧ Own W H P .shr v d []) ∧ (ds[i]? = none → vs[i]? = none)
  | ds, vs, F, i, h => by
    obtain ⟨e, o⟩ := OwnL.rep_shr h
    refine ⟨fun d hd => Owns.at o rfl hd, fun hn => List.getElem?_eq_none_iff.mpr (by have := List.getElem?_eq_none_iff.mp hn; rw [o.length]; exact this)⟩
theorem ownA_perm {P : Addr → Prop} {ds : List D} {vs : List V} {F : List Addr} (h : OwnL W H P (ds.map fun d => ((.shr, d) : Val)) vs F) : ∀ is : List Nat, OwnA W H P σ ((permL is ds).map fun d => AV.v (.shr, d)) (permL is vs) []
  | [] => .nil
  | i :: is => by
    unfold permL
    rw [List.filterMap_cons, List.filterMap_cons]
    obtain ⟨h1, h2⟩ := h.getS (i := i)
    cases e : ds[i]? with
    | none => rw [h2 e]; exact ownA_perm h is
    | some d =>
      obtain ⟨v, e2, o⟩ := h1 d e
      rw [e2]
      exact .val (x := (.shr, d)) (F := []) o (ownA_perm h is)
end
/-- f(e, .., k = e2, ..): is: where the parameters stand among what is written -/
def mCallK (n : Nat) (g : List Val → CO) (is : List Nat) (ma mk : M (List Val)) : M Val := ma.bind fun xs => mk.bind fun zs => mCallNF [] n g ((permL is ((xs ++ zs).map (·.2))).map fun d => .v (.shr, d))
structure KB (K : PySem.W.Frag) (fd : FuncData) (ps ks : List Str) (n1 : Nat) (is : List Nat) : Prop where
  to : ∀ (s : Shared) (us ws : List Value), K.In s.heap → us.length = n1 → ws.length = ks.length → BindsTo s fd ⟨us, ks.zip ws⟩ (ps.zip (permL is (us ++ ws)))
section
variable {X : Cx} {W W' : Wd} {n k n1 : Nat} {g : List Val → CO} {ma mk : M (List Val)} {f : Addr} {fd : FuncData} {ps ks : List Str} {is : List Nat} {x : Str} {p pos : Pos} {e : Expr} {es : List Expr} {kws : List Keyword}
theorem run_fnK {CX : CXT} {sp : Shared → List Addr → Sp} {E : L2.St → XK} {pins : List (Addr × Obj)} {σ : L2.St} {H : Hp} {s : Shared} {Q : VK} {us ws : List Value} {vs : List V} (F : FnS X.prog X.w X.K X.mg X.base CX k f fd ps sp) (hr : Room k X.A) (hb : KB X.K fd ps ks n1 is) (hx : PassesAt CX X σ (E σ))
    (I : Inv X pins σ H s) (l1 : us.length = n1) (l2 : ws.length = ks.length) (r : Vals vs (permL is (us ++ ws))) (h : sp s (frs X.stack) vs H Q (E σ)) : wpAny (model X.prog X.w) X.A (call (.ref f) us (ks.zip ws)) (EP X pins σ Q) X.xe s := by
  refine wpAny_call (codeAny_mono (F.run X.A X.stack s H ⟨us, ks.zip ws⟩ (permL is (us ++ ws)) vs Q (E σ) hr I.env0 (hb.to s us ws I.kIn l1 l2) r h) fun r s' hq => ?_)
  cases r with
  | error e => exact hx pins H s e s' I hq
  | ok fl =>
    cases fl with
    | ret u => exact I.after hq
    | next => exact False.elim hq
    | brk => exact False.elim hq
    | cont => exact False.elim hq
theorem rd_kw {w : WX} {σ : L2.St} {H H1 : Hp} {Z Z1 : Addr → Prop} {Fs Fs1 : Nat → List Addr} {env1 : Env} {xs : List Val} {vs : List V} {F : List Addr} {Q : VK} (p : PostL W' H Z Fs σ H1 Z1 env1 Fs1 xs vs F)
    (h : Fin W' w σ H Z Fs ((mk.bind fun zs => mCallNF [] n g ((permL is ((xs ++ zs).map (·.2))).map fun d => .v (.shr, d))) env1) Q) :
    rdA W' w mk σ H1 fun zs H2 => spD W'.noCl n g (permL is (vs ++ zs)) H2 Q (WE w σ) := by
  refine rdA_mono (rd_args p h) fun zs H2 ⟨Z2, env2, Fs2, ys, Fy, q, _, hf⟩ => ?_
  obtain ⟨Z3, _, q3⟩ := q.shr'
  have o : OwnL W' H2 (fun a => ¬ Z3 a) (((xs ++ ys).map (·.2)).map fun d => ((.shr, d) : Val)) (vs ++ zs) [] := by
    have := q3.own
    rwa [List.map_map]
  exact PostA.promiseN ⟨q3.st, q3.sim, ownA_perm o is, List.nodup_nil, fun _ z => (nomatch z), fun _ z => (nomatch z), q3.zd⟩ hf
theorem ge_callK (F : FnS X.prog X.w X.K X.mg X.base (L2.CX X.prog X.w) k f fd ps (spS cvF W n g)) (hl : W.Like W') (hr : Room k X.A) (hg : Gl X x) (hm : X.mg x = some (.ref f)) (hk : PySem.W.keepIn X.K (.ref f) = true) (hb : KB X.K fd ps ks (e :: es).length is)
    (ha : GA X W' (e :: es) ma) (hkw : GKW X W' kws mk) (hdb : (x == ("__debug__" : Str)) = false) (hall : (backToKw pos (keywordEach kws X.env)).all (·.1.isSome) = true) (hks : (backToKw pos (keywordEach kws X.env)).filterMap (·.1) = ks)
    (he : starEach (e :: es) X.env = (false, eval e X.env) :: starEach es X.env) (hpl : ((backTo pos (starEach (e :: es) X.env)).any (·.1) || (backToKw pos (keywordEach kws X.env)).any (·.1.isNone)) = false)
    (hn1 : ∀ env xs env', ma env = .ok xs env' → xs.length = (e :: es).length) (hn2 : ∀ env xs env', mk env = .ok xs env' → xs.length = ks.length) :
    GE X W' (.Call (.Name x p) (e :: es) kws pos) (mCallK n g is ma mk) := fun w tk => by
  refine ⟨fun pins s σ H Q I h => ?_⟩
  refine wpAny_Call_Name_kw (ld_glob I hg hm ?_ hdb)
  obtain ⟨Z, env, Fs, S, h⟩ := h
  have h : Fin W' w σ H Z Fs ((ma env).bind fun xs => mk.bind fun zs => mCallNF [] n g ((permL is ((xs ++ zs).map (·.2))).map fun d => .v (.shr, d))) Q := h
  have hv : rdA W' w ma σ H fun vs H1 => vs.length = (e :: es).length ∧ rdA W' w mk σ H1 fun zs H2 => zs.length = ks.length ∧ spD W'.noCl n g (permL is (vs ++ zs)) H2 Q (WE w σ) := by
    refine ⟨Z, env, Fs, S, ?_⟩
    cases ea : ma env with
    | ok xs e1 =>
      rw [ea] at h
      intro H1 Z1 Fs1 vs F p
      refine ⟨by rw [p.own.length]; exact hn1 _ _ _ ea, ?_⟩
      obtain ⟨Z', env', Fs', S', hf⟩ := rd_kw p h
      have h : Fin W' w σ H Z Fs ((mk e1).bind fun zs => mCallNF [] n g ((permL is ((xs ++ zs).map (·.2))).map fun d => .v (.shr, d))) Q := h
      refine ⟨Z1, e1, Fs1, p.sim, ?_⟩
      cases ek : mk e1 with
      | ok zs e2 =>
        rw [ek] at h
        intro H2 Z2 Fs2 us G q
        refine ⟨by rw [q.own.length]; exact hn2 _ _ _ ek, ?_⟩
        have q2 := p.append q
        obtain ⟨Z3, _, q3⟩ := q2.shr'
        have o : OwnL W' H2 (fun a => ¬ Z3 a) (((xs ++ zs).map (·.2)).map fun d => ((.shr, d) : Val)) (vs ++ us) [] := by
          have := q3.own
          rwa [List.map_map]
        exact PostA.promiseN ⟨q3.st, q3.sim, ownA_perm o is, List.nodup_nil, fun _ z => (nomatch z), fun _ z => (nomatch z), q3.zd⟩ h
      | exc c fs e2 =>
        rw [ek] at h
        exact fun H' Z' Fs' cls dd q => h H' Z' Fs' cls dd (p.raise q)
      | bad => rw [ek] at h; exact h
    | exc c fs e1 => rw [ea] at h; exact h
    | bad => rw [ea] at h; exact h
  refine PySem.W.callWith_KW (h₀ := X.base) I.ok.mod.kin hk hall (thn ((ha w tk).run pos pins s σ H _ I hv) fun us s1 ⟨vs, H1, I1, r, l1, q⟩ => ?_) hpl he
  refine thn ((hkw w tk).run pos pins s1 σ H1 _ I1 q) fun ws s2 ⟨zs, H2, I2, rz, l2, q2⟩ => ⟨I2.kIn, ?_⟩
  rw [hks]
  rw [List.nil_append]
  exact run_fnK (E := WE w) F hr hb (passAt tk σ) I2 (by rw [← r.length]; exact l1) (by rw [← rz.length]; exact l2) (vals_perm (r.append rz) is) ⟨W'.noCl, hl.trans Wd.noCl_like, fun _ _ _ _ z => z.elim, q2⟩
theorem ge_callK0 (F : FnS X.prog X.w X.K X.mg X.base (L2.CX X.prog X.w) k f fd ps (spS cvF W n g)) (hl : W.Like W') (hr : Room k X.A) (hg : Gl X x) (hm : X.mg x = some (.ref f)) (hk : PySem.W.keepIn X.K (.ref f) = true) (hb : KB X.K fd ps ks 0 is)
    (hkw : GKW X W' kws mk) (hdb : (x == ("__debug__" : Str)) = false) (hall : (backToKw pos (keywordEach kws X.env)).all (·.1.isSome) = true) (hks : (backToKw pos (keywordEach kws X.env)).filterMap (·.1) = ks)
    (hpl : ((backTo pos (starEach [] X.env)).any (·.1) || (backToKw pos (keywordEach kws X.env)).any (·.1.isNone)) = false) (hn2 : ∀ env xs env', mk env = .ok xs env' → xs.length = ks.length) :
    GE X W' (.Call (.Name x p) [] kws pos) (mCallK n g is mNil mk) := fun w tk => by
  refine ⟨fun pins s σ H Q I h => ?_⟩
  refine wpAny_Call_Name_kw (ld_glob I hg hm ?_ hdb)
  obtain ⟨Z, env, Fs, S, h⟩ := h
  have h : Fin W' w σ H Z Fs ((mk env).bind fun zs => mCallNF [] n g ((permL is (zs.map (·.2))).map fun d => .v (.shr, d))) Q := h
  have hv : rdA W' w mk σ H fun zs H2 => zs.length = ks.length ∧ spD W'.noCl n g (permL is ([] ++ zs)) H2 Q (WE w σ) := by
    refine ⟨Z, env, Fs, S, ?_⟩
    cases ek : mk env with
    | ok zs e2 =>
      rw [ek] at h
      intro H2 Z2 Fs2 us G q
      refine ⟨by rw [q.own.length]; exact hn2 _ _ _ ek, ?_⟩
      obtain ⟨Z3, _, q3⟩ := q.shr'
      have o : OwnL W' H2 (fun a => ¬ Z3 a) ((zs.map (·.2)).map fun d => ((.shr, d) : Val)) ([] ++ us) [] := by
        have := q3.own
        rw [List.nil_append, List.map_map]
        exact this
      exact PostA.promiseN ⟨q3.st, q3.sim, ownA_perm o is, List.nodup_nil, fun _ z => (nomatch z), fun _ z => (nomatch z), q3.zd⟩ h
    | exc c fs e2 => rw [ek] at h; exact h
    | bad => rw [ek] at h; exact h
  refine PySem.W.callWith_KW0 (h₀ := X.base) I.ok.mod.kin hk hall ?_ hpl
  refine thn ((hkw w tk).run pos pins s σ H _ I hv) fun ws s2 ⟨zs, H2, I2, rz, l2, q2⟩ => ⟨I2.kIn, ?_⟩
  rw [hks]
  exact run_fnK (E := WE w) (us := []) F hr hb (passAt tk σ) I2 rfl (by rw [← rz.length]; exact l2) (vals_perm (Vals.append .nil rz) is) ⟨W'.noCl, hl.trans Wd.noCl_like, fun _ _ _ _ z => z.elim, q2⟩
theorem mCons_len {ma : M Val} {mr : M (List Val)} {n : Nat} (h : ∀ env xs env', mr env = .ok xs env' → xs.length = n) : ∀ env xs env', mCons ma mr env = .ok xs env' → xs.length = n + 1 := fun env xs env' e => by
  have e : (ma env).bind (fun x => mr.bind fun xs => M.pure (x :: xs)) = .ok xs env' := e
  cases ea : ma env with
  | exc c fs e2 => rw [ea] at e; cases e
  | bad => rw [ea] at e; cases e
  | ok x e1 =>
    rw [ea] at e
    have e : (mr e1).bind (fun xs => M.pure (x :: xs)) = .ok xs env' := e
    cases er : mr e1 with
    | exc c fs e2 => rw [er] at e; cases e
    | bad => rw [er] at e; cases e
    | ok ys e2 =>
      rw [er] at e
      cases e
      exact congrArg (· + 1) (h _ _ _ er)
theorem mNil_len : ∀ env xs env', mNil env = .ok xs env' → xs.length = 0 := fun env xs env' e => by cases e; rfl
end
end BV
set_option maxHeartbeats 2000000
/-! BV39: a pop deep in a slot. -/
namespace BV
open PySem PySem.Spec PyProof.Rows L2 LamX

section
variable {W : Wd} {w : WX} {σ : L2.St} {H H1 H' : Hp} {Z Z1 : Addr → Prop} {Fs Fs1 : Nat → List Addr} {env : Env} {xs : List Val} {vs : List V} {F : List Addr} {v : V} {Q : VK} {i : Nat} {a b : Addr}
theorem Owns.setAt {P : Addr → Prop} {m : Mode} {d' : D} (f : Fr W (fun c => c = b) H H') (hP : ∀ c, P c → ¬ c = b) : ∀ {vs : List V} {ds : List D} {F : List Addr} {j : Nat} {d : D}, Owns W H P m vs ds F → F.Nodup → ds[j]? = some d →
    (∀ (v : V) (G : List Addr), vs[j]? = some v → Own W H P m v d G → G.Nodup → b ∈ G ∧ ∃ G', Own W H' P m v d' G' ∧ (∀ c ∈ G', c ∈ G) ∧ G'.Nodup) → ∃ F', Owns W H' P m vs (ds.set j d') F' ∧ (∀ c ∈ F', c ∈ F) ∧ F'.Nodup
  | _, _, _, _, _, .nil, _, e, _ => by simp at e
  | _, _, _, 0, _, .cons (v := v) (F := G) (G := G2) h t, n, e, k => by
    simp at e
    subst e
    obtain ⟨n1, n2, n3⟩ := List.nodup_append.mp n
    obtain ⟨hb, G', o', s', nd'⟩ := k v G rfl h n1
    refine ⟨G' ++ G2, .cons o' (Owns.frame f hP t fun c hc z => n3 b hb c hc z.symm), fun c hc => ?_, List.nodup_append.mpr ⟨nd', n2, fun x hx y hy => n3 x (s' x hx) y hy⟩⟩
    rcases List.mem_append.mp hc with hc | hc
    · exact List.mem_append_left _ (s' c hc)
    · exact List.mem_append_right _ hc
  | _, _, _, j + 1, _, .cons (v := v) (vs := vs) (F := G) (G := G2) h t, n, e, k => by
    obtain ⟨n1, n2, n3⟩ := List.nodup_append.mp n
    have hb2 : b ∈ G2 ∨ True := .inr trivial
    obtain ⟨F', o', s', nd'⟩ := Owns.setAt f hP t n2 (j := j) (by simpa using e) fun v G e1 => k v G (by simpa using e1)
    -- b is in the tail
    have hbt : b ∈ G2 := by
      obtain ⟨u, Gi, Gr, e1, oi, _, nd, sub⟩ := Owns.erase t (by simpa using e) n2
      have := (k u Gi (by simpa using e1) oi (List.nodup_append.mp nd).1).1
      exact sub b (List.mem_append_left _ this)
    refine ⟨G ++ F', .cons (Own.frame f hP h fun c hc z => n3 c hc b hbt z) o', fun c hc => ?_, List.nodup_append.mpr ⟨n1, nd', fun x hx y hy => n3 x hx y (s' y hy)⟩⟩
    rcases List.mem_append.mp hc with hc | hc
    · exact List.mem_append_left _ hc
    · exact List.mem_append_right _ (s' c hc)
/-- x[j].pop(0), x in slot i -/
def mPopN (i j : Nat) : M Val := fun env => match env[i]? with
  | some (some (.all, .lst ds)) => (match ds[j]? with
    | some (.lst (e :: es)) => if e.imm then .ok (.all, e) (env.set i (some (.all, .lst (ds.set j (.lst es))))) else .bad
    | _ => .bad)
  | _ => .bad
theorem Own.lstA_inv {P : Addr → Prop} {ds : List D} (o : Own W H P .all v (.lst ds) F) : ∃ a ws G, v = .ref a ∧ F = a :: G ∧ H a = some (.lst ws) ∧ Owns W H P .all ws ds G := by
  cases o with
  | lstO _ e h => exact ⟨_, _, _, rfl, rfl, e, h⟩
theorem Owns.getF {P : Addr → Prop} {m : Mode} : ∀ {vs : List V} {ds : List D} {F : List Addr} {j : Nat} {d : D}, Owns W H P m vs ds F → ds[j]? = some d → ∃ v G, vs[j]? = some v ∧ Own W H P m v d G ∧ ∀ c ∈ G, c ∈ F
  | _, _, _, _, _, .nil, e => by simp at e
  | _, _, _, 0, _, .cons (v := v) (F := G) h t, e => by
    simp at e
    subst e
    exact ⟨v, G, rfl, h, fun c hc => List.mem_append_left _ hc⟩
  | _, _, _, j + 1, _, .cons h t, e => by
    obtain ⟨v, G, h1, h2, h3⟩ := Owns.getF t (j := j) (by simpa using e)
    exact ⟨v, G, by simpa using h1, h2, fun c hc => List.mem_append_right _ (h3 c hc)⟩
end
section
variable {X : Cx} {W : Wd} {i j : Nat} {x : Str} {p1 p2 p3 p4 p5 p6 apos cpos : Pos} {k1 k2 : Nat}
theorem ge_popN (n : Nm X i x) (hK : W.K = X.K) (hbase : attributeBase (.Subscript (.Name x p1) (.Constant (.int (j : Nat)) k1 p2) p3) "pop" X.env (eval (.Subscript (.Name x p1) (.Constant (.int (j : Nat)) k1 p2) p3) X.env) = eval (.Subscript (.Name x p1) (.Constant (.int (j : Nat)) k1 p2) p3) X.env)
    (hline : (apos.endLine == cpos.line) = true) : GE X W (.Call (.Attribute (.Subscript (.Name x p1) (.Constant (.int (j : Nat)) k1 p2) p3) "pop" apos) [.Constant (.int 0) k2 p4] [] cpos) (mPopN i j) := fun w tk => by
  have po := pe_ix (pos := p3) (ix_seq (X := X)) (pe_var (pos := p1) n.hN n.hv n.hd n.hcd) (pe_int (X := X) (i := (j : Nat)) (j := k1) (pos := p2)) fun _ _ => rfl
  refine pe_imp (pe_bm PySem.F.plainAttrs_list PySem.F.slot_list_pop PySem.F.type_list_pop mt_popAt po (pa_cons (pe_int (i := 0) (j := k2) (pos := p4)) pa_nil) hbase rfl hline rfl rfl) fun σ H Q h => ?_
  obtain ⟨Z, env, Fs, S, h⟩ := h
  unfold mPopN at h
  cases e : env[i]? with
  | none => rw [e] at h; exact h.elim
  | some o =>
    rw [e] at h
    cases o with
    | none => exact h.elim
    | some y =>
      obtain ⟨m, d⟩ := y
      cases m <;> cases d <;> try exact h.elim
      rename_i ds
      dsimp only at h
      cases ed : ds[j]? with
      | none => rw [ed] at h; exact h.elim
      | some d =>
        rw [ed] at h
        cases d <;> try exact h.elim
        rename_i es0
        cases es0 with
        | nil => exact h.elim
        | cons e0 es =>
          dsimp only at h
          by_cases im : e0.imm = true
          case neg => rw [if_neg im] at h; exact h.elim
          rw [if_pos im] at h
          obtain ⟨v, e1, o⟩ := S.rep i _ e
          obtain ⟨a, ws, G, rfl, hF, ha, ow⟩ := o.lstA_inv
          have ni := S.nd i
          rw [hF] at ni
          obtain ⟨aG, nG⟩ := List.nodup_cons.mp ni
          obtain ⟨u, Gj, hu, oj, subj⟩ := ow.getF ed
          obtain ⟨b, ws', G', rfl, rfl, hb, ow'⟩ := oj.lstA_inv
          have hbF : b ∈ Fs i := by rw [hF]; exact List.mem_cons_of_mem _ (subj b (List.mem_cons_self ..))
          have nab : a ≠ b := fun z => aG (z ▸ subj b (List.mem_cons_self ..))
          cases ow' with
          | cons o0 ot =>
            rename_i v0 vr F0 Ft
            have hat : atI ws ((j : Nat) : Int) = some (V.ref b) := by
              have hj : j < ws.length := by rw [ow.length]; exact (List.getElem?_eq_some_iff.mp ed).1
              unfold atI ixN
              rw [if_pos (by omega), if_pos (by omega)]
              simpa using hu
            refine ⟨_, e1, .inl ⟨a, ws, _, _, rfl, rfl, by rw [← hK]; exact SqL.of ha, hat, .inl ⟨rfl, _, by rw [← hK]; exact SqL.of hb⟩, ⟨b, v0 :: vr, 0, 0, v0, rfl, rfl, hb, by decide, by decide, by simp [seqIndex?], rfl, ?_⟩⟩⟩
            have p0 : PostL W H Z Fs σ H Z env Fs [] [] [] := PostL.start S
            have f := Fr.wr (W := W) (o := .lst (v0 :: vr)) (o' := .lst vr) hb (fun z => z) (fun z => z)
            have fP : ∀ c, ¬ Z c → ¬ c = b := fun c n z => n (z ▸ S.sub i b hbF)
            obtain ⟨eF0, q0⟩ := o0.of_imm im
            obtain ⟨F', o', s', nd'⟩ := Owns.setAt (d' := .lst es) f fP ow nG ed fun v1 G1 hv1 o1 n1 => by
              rw [hu] at hv1
              cases hv1
              obtain ⟨b', ws1, G2, eb, rfl, hb1, ow1⟩ := o1.lstA_inv
              cases eb
              rw [hb] at hb1
              cases hb1
              cases ow1 with
              | cons o2 ot2 =>
                rename_i F2 Fr2
                obtain ⟨n2, n3⟩ := List.nodup_cons.mp n1
                obtain ⟨n4, n5, n6⟩ := List.nodup_append.mp n3
                refine ⟨List.mem_cons_self .., b :: Fr2, .lstO (fun z => nomatch z) upd_same (Owns.frame f fP ot2 fun c hc z => n2 (z ▸ List.mem_append_right _ hc)), fun c hc => ?_, List.nodup_cons.mpr ⟨fun z => n2 (List.mem_append_right _ z), n5⟩⟩
                rcases List.mem_cons.mp hc with rfl | hc
                · exact List.mem_cons_self ..
                · exact List.mem_cons_of_mem _ (List.mem_append_right _ hc)
            refine h _ _ _ _ _ (p0.wr (i := i) (a := b) (o := .lst (v0 :: vr)) (o' := .lst vr) (Z2 := Z) (x' := (.all, .lst (ds.set j (.lst es)))) (v' := .ref a) (y := (.all, e0)) (u := v0) (F' := a :: F') (Fy := []) e1 hbF hb (fun z => z) (fun z => z) (fun _ z => z) (fun _ z _ _ => z) ?_ (Own.frame f fP (q0 .all _) fun _ z => nomatch z) ?_ fun c hc => ?_)
            · exact .lstO (fun z => nomatch z) (by rw [upd_ne nab]; exact ha) o'
            · rw [List.append_nil]
              exact List.nodup_cons.mpr ⟨fun z => aG (s' a z), nd'⟩
            · rw [List.append_nil] at hc
              have : c ∈ Fs i := by
                rw [hF]
                rcases List.mem_cons.mp hc with rfl | hc
                · exact List.mem_cons_self ..
                · exact List.mem_cons_of_mem _ (s' c hc)
              exact ⟨S.sub i c this, .inl this⟩
end
end BV
set_option maxHeartbeats 2000000
/-! BV40: the rules packaged over where a body runs. -/
namespace BV
open PySem PySem.Spec PyProof.Rows L2 LamX

/-- where a body, a block runs -/
structure BF (P : Program) (pw : World) (W : Wd) (base : Heap) (N : List Str) (sc : Scope) (k : Nat) (X : Cx) : Prop where
  prog : X.prog = P
  w : X.w = pw
  K : X.K = W.K
  mg : X.mg = W.mg
  base : X.base = base
  N : X.N = N
  sc : SR sc X.env.scope
  calm : X.calm = true
  room : Room k X.A
  po : PassesOwn (model X.prog X.w) X.A X.env X.xe
section
variable {cv : CV} {P : Program} {pw : World} {W : Wd} {base : Heap} {N : List Str} {sc : Scope} {k : Nat} {X : Cx} {mp : List Nat}
theorem MX.bf (D : MX cv P pw W base N sc k X) : BF P pw W base N sc k X := ⟨D.prog, D.w, D.K, D.mg, D.base, D.N, by rw [D.sc]; exact SR.refl, D.calm, D.room, D.po⟩
theorem BF.blk (B : BF P pw W base N sc k X) {s H scope C cl fp} : BF P pw W base N scope k (X.blk s H scope (compEnvC scope cl C X.env) fp) :=
  ⟨B.prog, B.w, B.K, B.mg, B.base, B.N, SR.relS, B.calm, B.room, PassesOwn.never⟩
theorem BF.tr (B : BF P pw W base N sc k X) {pn xe} (h : PassesOwn (model X.prog X.w) X.A X.env xe) : BF P pw W base N sc k (X.tr pn xe) :=
  ⟨B.prog, B.w, B.K, B.mg, B.base, B.N, B.sc, B.calm, B.room, h⟩
def glB (sc : Scope) (x : Str) : Bool := decide (sc.names.lookup x = some .globalImplicit) && !(x == ("__debug__" : Str))
structure GlX (X : Cx) (x : Str) : Prop where
  gl : Gl X x
  hd : (x == ("__debug__" : Str)) = false
theorem BF.gl (B : BF P pw W base N sc k X) {x : Str} (h : glB sc x = true) : GlX X x := by
  unfold glB at h
  simp only [Bool.and_eq_true, Bool.not_eq_true', decide_eq_true_eq] at h
  refine ⟨?_, h.2⟩
  unfold Gl
  show X.env.scope.names.lookup x = _
  exact B.sc.keep _ _ (by decide) h.1
theorem BF.nm (B : BF P pw W base N sc k X) {i : Nat} {x : Str} (h : nmB N sc i x = true) : Nm X i x := nm_of B.N B.sc h
theorem DX.nmS {L ks qual f} (D : DX cv P pw W base N sc k L ks qual f X) {i : Nat} {x : Str} (h : nmSB N sc i x = true) : NmS X i x := nmS_of D.N (by rw [D.sc]; exact SR.refl) D.fn h

/-! ### built-ins -/
variable {a b c e : Expr} {es : List Expr} {p pos : Pos} {ma mb mc : M Val} {ml : M (List Val)}
theorem gf_len (B : BF P pw W base N sc k X) (g : GlX X "len") (hm : W.mg "len" = none) (ha : GA X W (e :: es) ml) (h1 : starEach (e :: es) X.env = (false, eval e X.env) :: starEach es X.env := by rfl) (h2 : (backTo pos (starEach es X.env)).any (·.1) = false := by rfl) : GE X W (.Call (.Name "len" p) (e :: es) [] pos) (mFn gLen ml) :=
  ge_callB (by have := (call_len_seq (X := X)).or call_len_str; rw [B.K] at this; exact this) says_len g.gl (by rw [B.mg]; exact hm) boot_len ha (by decide) g.hd h1 h2
theorem gf_list (B : BF P pw W base N sc k X) (g : GlX X "list") (hm : W.mg "list" = none) (ha : GA X W (e :: es) ml) (h1 : starEach (e :: es) X.env = (false, eval e X.env) :: starEach es X.env := by rfl) (h2 : (backTo pos (starEach es X.env)).any (·.1) = false := by rfl) : GE X W (.Call (.Name "list" p) (e :: es) [] pos) (mFn (gOrL gList gListTxt) ml) :=
  ge_callTy (by have := (call_list_of (X := X)).or (call_listTxt B.calm); rw [B.K] at this; exact this) (says_list.or says_listTxt) g.gl (by rw [B.mg]; exact hm) boot_list ha (by decide) g.hd h1 h2
theorem gf_tuple (B : BF P pw W base N sc k X) (g : GlX X "tuple") (hm : W.mg "tuple" = none) (ha : GA X W (e :: es) ml) (h1 : starEach (e :: es) X.env = (false, eval e X.env) :: starEach es X.env := by rfl) (h2 : (backTo pos (starEach es X.env)).any (·.1) = false := by rfl) : GE X W (.Call (.Name "tuple" p) (e :: es) [] pos) (mFn gTuple ml) :=
  ge_callTy (by have := call_tuple_of (X := X); rw [B.K] at this; exact this) says_tuple g.gl (by rw [B.mg]; exact hm) boot_tuple ha (by decide) g.hd h1 h2
theorem gf_int (B : BF P pw W base N sc k X) (g : GlX X "int") (hm : W.mg "int" = none) (ha : GA X W (e :: es) ml) (h1 : starEach (e :: es) X.env = (false, eval e X.env) :: starEach es X.env := by rfl) (h2 : (backTo pos (starEach es X.env)).any (·.1) = false := by rfl) : GE X W (.Call (.Name "int" p) (e :: es) [] pos) (mFn gInt ml) :=
  ge_callTy (call_int1.or call_int_str) says_int1 g.gl (by rw [B.mg]; exact hm) boot_int ha (by decide) g.hd h1 h2
theorem gf_abs (B : BF P pw W base N sc k X) (g : GlX X "abs") (hm : W.mg "abs" = none) (ha : GA X W (e :: es) ml) (h1 : starEach (e :: es) X.env = (false, eval e X.env) :: starEach es X.env := by rfl) (h2 : (backTo pos (starEach es X.env)).any (·.1) = false := by rfl) : GE X W (.Call (.Name "abs" p) (e :: es) [] pos) (mFn gAbs ml) :=
  ge_callB call_abs says_abs g.gl (by rw [B.mg]; exact hm) boot_abs ha (by decide) g.hd h1 h2
theorem gf_str (B : BF P pw W base N sc k X) (g : GlX X "str") (hm : W.mg "str" = none) (ha : GA X W (e :: es) ml) (h1 : starEach (e :: es) X.env = (false, eval e X.env) :: starEach es X.env := by rfl) (h2 : (backTo pos (starEach es X.env)).any (·.1) = false := by rfl) : GE X W (.Call (.Name "str" p) (e :: es) [] pos) (mFn gStr ml) :=
  ge_callTy call_str_int says_str g.gl (by rw [B.mg]; exact hm) boot_str ha (by decide) g.hd h1 h2
theorem gf_max (B : BF P pw W base N sc k X) (g : GlX X "max") (hm : W.mg "max" = none) (ha : GA X W (e :: es) ml) (h1 : starEach (e :: es) X.env = (false, eval e X.env) :: starEach es X.env := by rfl) (h2 : (backTo pos (starEach es X.env)).any (·.1) = false := by rfl) : GE X W (.Call (.Name "max" p) (e :: es) [] pos) (mFn gMax2 ml) :=
  ge_callB (call_max2 B.calm) says_max2 g.gl (by rw [B.mg]; exact hm) boot_max ha (by decide) g.hd h1 h2
theorem gf_min (B : BF P pw W base N sc k X) (g : GlX X "min") (hm : W.mg "min" = none) (ha : GA X W (e :: es) ml) (h1 : starEach (e :: es) X.env = (false, eval e X.env) :: starEach es X.env := by rfl) (h2 : (backTo pos (starEach es X.env)).any (·.1) = false := by rfl) : GE X W (.Call (.Name "min" p) (e :: es) [] pos) (mFn gMin2 ml) :=
  ge_callB (call_min2 B.calm) says_min2 g.gl (by rw [B.mg]; exact hm) boot_min ha (by decide) g.hd h1 h2
theorem gf_all (B : BF P pw W base N sc k X) (g : GlX X "all") (hm : W.mg "all" = none) (ha : GA X W (e :: es) ml) (h1 : starEach (e :: es) X.env = (false, eval e X.env) :: starEach es X.env := by rfl) (h2 : (backTo pos (starEach es X.env)).any (·.1) = false := by rfl) : GE X W (.Call (.Name "all" p) (e :: es) [] pos) (mFn gAll ml) :=
  ge_callB (by have := cr_all (X := X) B.calm; rw [B.K] at this; exact this) says_all g.gl (by rw [B.mg]; exact hm) boot_all ha (by decide) g.hd h1 h2
theorem gf_any (B : BF P pw W base N sc k X) (g : GlX X "any") (hm : W.mg "any" = none) (ha : GA X W (e :: es) ml) (h1 : starEach (e :: es) X.env = (false, eval e X.env) :: starEach es X.env := by rfl) (h2 : (backTo pos (starEach es X.env)).any (·.1) = false := by rfl) : GE X W (.Call (.Name "any" p) (e :: es) [] pos) (mFn gAny ml) :=
  ge_callB (by have := cr_any (X := X) B.calm; rw [B.K] at this; exact this) says_any g.gl (by rw [B.mg]; exact hm) boot_any ha (by decide) g.hd h1 h2
theorem gf_type (B : BF P pw W base N sc k X) (g : GlX X "type") (hm : W.mg "type" = none) (ha : GA X W (e :: es) ml) (h1 : starEach (e :: es) X.env = (false, eval e X.env) :: starEach es X.env := by rfl) (h2 : (backTo pos (starEach es X.env)).any (·.1) = false := by rfl) : GE X W (.Call (.Name "type" p) (e :: es) [] pos) (mFn gType ml) :=
  ge_callTy call_typeZ says_type g.gl (by rw [B.mg]; exact hm) boot_type ha (by decide) g.hd h1 h2
theorem gf_isinstance (B : BF P pw W base N sc k X) (g : GlX X "isinstance") (hm : W.mg "isinstance" = none) (ha : GA X W (e :: es) ml) (h1 : starEach (e :: es) X.env = (false, eval e X.env) :: starEach es X.env := by rfl) (h2 : (backTo pos (starEach es X.env)).any (·.1) = false := by rfl) : GE X W (.Call (.Name "isinstance" p) (e :: es) [] pos) (mFn gIsi ml) :=
  ge_callB (call_isiZ.or call_isiTZ) says_isi g.gl (by rw [B.mg]; exact hm) boot_isinstance ha (by decide) g.hd h1 h2
/-- a built-in type as a value -/
theorem gf_ty (B : BF P pw W base N sc k X) {x : Str} {T : String} (g : GlX X x) (hm : W.mg x = none) (hv : bootBuiltins x = some (.type T)) (hn : x ≠ "__name__") : GE X W (.Name x p) (mC (.ty T)) := fun w _ =>
  pe_imp (pe_bltn (v := .ty T) g.gl (by rw [B.mg]; exact hm) hv rfl hn g.hd) (rd_const fun _ _ => .ty _)
end
end BV
set_option maxHeartbeats 2000000
/-! BV41: the rules packaged: operators, comprehensions, loops, calls. -/
namespace BV
open PySem PySem.Spec PyProof.Rows L2 LamX

theorem SaysVV.or {r r' : R2} {W : Wd} {g g' : Val → Val → Option Val} (h : SaysVV r W g) (h' : SaysVV r' W g') : SaysVV (fun x y H Q => r x y H Q ∨ r' x y H Q) W (fun x y => match g x y with | some z => some z | none => g' x y) := by
  intro x y z w σ H Z Fs H1 Z1 env Fs1 v u F Q e p f
  dsimp only at e
  cases eg : g x y with
  | some z' =>
    rw [eg] at e
    cases e
    exact .inl (h x y _ w σ H Z Fs H1 Z1 env Fs1 v u F Q eg p f)
  | none =>
    rw [eg] at e
    exact .inr (h' x y z w σ H Z Fs H1 Z1 env Fs1 v u F Q e p f)
theorem Says.vv {r : R2} {W : Wd} {g : D → D → Option D} (h : Says W r g) : SaysVV r W (fun x y => (g x.2 y.2).map fun d => (.all, d)) := by
  intro x y z w σ H Z Fs H1 Z1 env Fs1 v u F Q e p f
  obtain ⟨d, ed, rfl⟩ := Option.map_eq_some_iff.mp e
  obtain ⟨F1, F2, _, o1, o2⟩ := p.own.inv2
  exact h x y d H1 _ v u _ _ Q ed o1 o2 fun z oz => p.fin f oz
/-- int * int, list * int, text * int -/
def gTimes (x y : Val) : Option Val := match gRep x y with
  | some z => some z
  | none => (gRepS x.2 y.2).map fun d => (.all, d)
section
variable {cv : CV} {P : Program} {pw : World} {W : Wd} {base : Heap} {N : List Str} {sc : Scope} {k : Nat} {X : Cx} {mp : List Nat} {a b c e : Expr} {es : List Expr} {p pos : Pos} {ma mb mc : M Val} {ml : M (List Val)}
theorem gf_add (B : BF P pw W base N sc k X) (ha : GE X W a ma) (hb : GE X W b mb) : GE X W (.BinOp a .Add b pos) (mOpVV gCat ma mb) := ge_plus B.K.symm ha hb
theorem gf_mul (ha : GE X W a ma) (hb : GE X W b mb) : GE X W (.BinOp a .Mult b pos) (mOpVV gTimes ma mb) :=
  ge_opVV (fun _ _ h1 h2 => pe_op ((op_rep.or op_mul).or op_repS) h1 h2) (says_rep.or says_repS.vv) ha hb
theorem gf_ix (B : BF P pw W base N sc k X) (ha : GE X W a ma) (hb : GE X W b mb) (hs : PlainIx b := by exact fun _ _ => rfl) : GE X W (.Subscript a b pos) (mOpV gIx ma mb) := ge_ix B.K.symm ha hb hs
theorem gf_dix (B : BF P pw W base N sc k X) (ha : GE X W a ma) (hb : GE X W b mb) (hs : NoSl b := by exact fun _ => rfl) : GE X W (.Subscript a b pos) (mOpV gDGet ma mb) := ge_dget (by have := B.room.un; omega) ha hb hs
theorem gf_eq (B : BF P pw W base N sc k X) (ha : GE X W a ma) (hb : GE X W b mb) : GE X W (.Compare a [.Eq] [b] pos) (mOp2 gEq ma mb) := ge_eq B.K.symm B.room.units ha hb
theorem gf_ne (B : BF P pw W base N sc k X) (ha : GE X W a ma) (hb : GE X W b mb) : GE X W (.Compare a [.NotEq] [b] pos) (mOp2 gNe ma mb) := ge_ne B.K.symm B.room.units ha hb
theorem gf_in (B : BF P pw W base N sc k X) (ha : GE X W a ma) (hb : GE X W b mb) (hm : behindInMarks .In b = false := by rfl) : GE X W (.Compare a [.In] [b] pos) (mOp2 gIn ma mb) := ge_in B.K.symm (by have := B.room.un; omega) hm ha hb
theorem gf_notin (B : BF P pw W base N sc k X) (ha : GE X W a ma) (hb : GE X W b mb) (hm : behindInMarks .NotIn b = false := by rfl) : GE X W (.Compare a [.NotIn] [b] pos) (mOp2 gNotIn ma mb) := ge_notin B.K.symm (by have := B.room.un; omega) hm ha hb
theorem gf_inC (B : BF P pw W base N sc k X) {x : Str} {q : Addr} {bs : List V} {cp : Pos} (g : GlX X x) (hm : W.mg x = some (.ref q)) (hq : ∀ H, SqT W.K H q bs) (hf : bs.all flatV = true) (ha : GE X W a ma) : GE X W (.Compare a [.In] [.Name x cp] pos) (mOp1' (gInC false bs) ma) :=
  ge_inC g.gl (by rw [B.mg]; exact hm) (by rw [B.K]; exact hq) hf g.hd ha
theorem gf_notinC (B : BF P pw W base N sc k X) {x : Str} {q : Addr} {bs : List V} {cp : Pos} (g : GlX X x) (hm : W.mg x = some (.ref q)) (hq : ∀ H, SqT W.K H q bs) (hf : bs.all flatV = true) (ha : GE X W a ma) : GE X W (.Compare a [.NotIn] [.Name x cp] pos) (mOp1' (gInC true bs) ma) :=
  ge_notinC g.gl (by rw [B.mg]; exact hm) (by rw [B.K]; exact hq) hf g.hd ha
theorem gf_gcon (B : BF P pw W base N sc k X) {x : Str} {v : V} {d : D} {cp : Pos} (g : GlX X x) (hm : ∃ u, W.mg x = some u ∧ RelV v u) (ho : ∀ H P, Own W H P .all v d [] := by exact fun _ _ => by constructor) : GE X W (.Name x cp) (mC d) := by
  obtain ⟨u, h1, h2⟩ := hm
  exact ge_gcon g.gl (by rw [B.mg]; exact h1) h2 ho g.hd
theorem gf_gfun (B : BF P pw W base N sc k X) {x : Str} {f : Addr} {cp : Pos} (g : GlX X x) (hm : W.mg x = some (.ref f)) : GE X W (.Name x cp) (mC (.glo x)) := ge_gfun B.mg.symm g.gl (by rw [B.mg]; exact hm) g.hd
theorem gf_slice (B : BF P pw W base N sc k X) {lo hi : Option Expr} {ml mh : M (Option Int)} {p2 : Pos} (he : GE X W e ma) (hl : GO X W lo ml) (hh : GO X W hi mh) : GE X W (.Subscript e (.Slice lo hi none p2) pos) (mSlice ma ml mh) := ge_slice B.K.symm he hl hh
theorem gf_rev (B : BF P pw W base N sc k X) {j : Nat} {p1 p3 p4 : Pos} (he : GE X W e ma) : GE X W (.Subscript e (.Slice none none (some (.UnaryOp .USub (.Constant (.int 1) j p1) p3)) p4) pos) (mRev ma) := ge_rev B.K.symm he
theorem gf_join (B : BF P pw W base N sc k X) {apos : Pos} (ha : GE X W a ma) (hb : GE X W b mb) (hs : starEach [b] X.env = [(false, eval b X.env)] := by rfl) (hbase : attributeBase a "join" X.env (eval a X.env) = eval a X.env := by rfl) (hline : (apos.endLine == pos.line) = true := by rfl) :
    GE X W (.Call (.Attribute a "join" apos) [b] [] pos) (mM1 gJoin ma mb) := ge_join B.K.symm ha hb hs hbase hline
/-! ### comprehensions -/
theorem gf_lc {elt tg iter : Expr} {ifs : List Expr} {scope : Scope} {mi : M (List D)} {t : Tg} {mt : M Bool} {me : M Val} (own : List (Str × Nat)) (B : BF P pw W base N sc k X) (nd : decide N.Nodup = true) (hi : GI X W tg iter mi) (ok : blkC N sc scope own = true)
    (hg : ∀ X', BF P pw W base N scope k X' → GG X' W (others N.length (own.map (·.2))) tg t) (ht : ∀ X', BF P pw W base N scope k X' → GTs X' W ifs mt) (he : ∀ X', BF P pw W base N scope k X' → GE X' W elt me)
    (hs : ∀ x, foldedSetIterable iter X.env x = pure x := by exact fun _ => rfl) : GE X W (.ListComp elt [⟨tg, iter, ifs, 0⟩] scope pos) (mLc N.length (own.map (·.2)) mi t mt me) := by
  have ok1 := blkOk_by ok
  have ok2 : BlkOk X.N X.env.scope scope own := ⟨ok1.kind, ok1.uniq, by rw [B.N]; exact ok1.ix, fun y hy e => (ok1.free y hy e).elim (fun h => .inl (B.sc.keep _ _ (by decide) h)) (B.sc.free _), by rw [B.N]; exact ok1.own⟩
  exact ge_lc B.calm (by rw [B.N]; exact of_decide_eq_true nd) (by rw [B.N]) hi ok2 (fun s H C cl fp => hg _ B.blk) (fun s H C cl fp => ht _ B.blk) (fun s H C cl fp => he _ B.blk) hs
theorem gs_lc {i : Nat} {y : Str} {py spos : Pos} {elt tg iter : Expr} {ifs : List Expr} {scope : Scope} {mi : M (List D)} {t : Tg} {mt : M Bool} {me : M Val} (own : List (Str × Nat)) (B : BF P pw W base N sc k X) (nm : nmLB N sc i y = true) (hi : GI X W tg iter mi) (ok : blkC N sc scope own = true)
    (hsw : swapsWith (.ListComp elt [⟨tg, iter, ifs, 0⟩] scope pos) (some (.Name y py)) spos.line X.env = pure true)
    (hg : ∀ X', BF P pw W base N scope k X' → GG X' W (others N.length (own.map (·.2))) tg t) (ht : ∀ X', BF P pw W base N scope k X' → GTs X' W ifs mt) (he : ∀ X', BF P pw W base N scope k X' → GE X' W elt me)
    (hs : ∀ x, foldedSetIterable iter X.env x = pure x := by exact fun _ => rfl) : GS X W mp (.Assign [.Name y py] (.ListComp elt [⟨tg, iter, ifs, 0⟩] scope pos) spos) (mSet mp i (mLc N.length (own.map (·.2)) mi t mt me)) := by
  have ok1 := blkOk_by ok
  have ok2 : BlkOk X.N X.env.scope scope own := ⟨ok1.kind, ok1.uniq, by rw [B.N]; exact ok1.ix, fun y hy e => (ok1.free y hy e).elim (fun h => .inl (B.sc.keep _ _ (by decide) h)) (B.sc.free _), by rw [B.N]; exact ok1.own⟩
  have n := nmS_ofB B.N B.sc nm
  unfold nmLB at nm
  simp only [Bool.and_eq_true, decide_eq_true_eq] at nm
  exact gs_setLc B.calm n.nd (by rw [B.N]) n.hN (B.sc.keep _ _ (by decide) nm.2) hsw hi ok2 (fun s H C cl fp => hg _ B.blk) (fun s H C cl fp => ht _ B.blk) (fun s H C cl fp => he _ B.blk) hs
/-! ### loops -/
theorem gf_range1 {tg : Expr} (B : BF P pw W base N sc k X) (g : GlX X "range") (hm : W.mg "range" = none) (ha : GA X W [a] ml) (hs : starEach [a] X.env = [(false, eval a X.env)] := by rfl) : GI X W tg (.Call (.Name "range" p) [a] [] pos) (mWalk gRange1 ml) := gi_range1 g.gl (by rw [B.mg]; exact hm) ha hs
theorem gf_range2 {tg : Expr} (B : BF P pw W base N sc k X) (g : GlX X "range") (hm : W.mg "range" = none) (ha : GA X W [a, b] ml) (hs : starEach [a, b] X.env = [(false, eval a X.env), (false, eval b X.env)] := by rfl) (hs2 : starEach [b] X.env = [(false, eval b X.env)] := by rfl) : GI X W tg (.Call (.Name "range" p) [a, b] [] pos) (mWalk gRange2 ml) := gi_range2 g.gl (by rw [B.mg]; exact hm) ha hs hs2
theorem gf_enum {tpos : Pos} {elts : List Expr} {kk : Nat} (B : BF P pw W base N sc k X) (g : GlX X "enumerate") (hm : W.mg "enumerate" = none) (ha : GA X W [e] ml) (hs : starEach [e] X.env = [(false, eval e X.env)] := by rfl) : GI X W (.Tuple elts kk tpos) (.Call (.Name "enumerate" p) [e] [] pos) (mWalk gEnum ml) := gi_enum g.gl (by rw [B.mg]; exact hm) ha hs
theorem gf_zip {tpos : Pos} {elts : List Expr} {kk : Nat} (B : BF P pw W base N sc k X) (g : GlX X "zip") (hm : W.mg "zip" = none) (ha : GA X W [a, b] ml) (hs : starEach [a, b] X.env = (false, eval a X.env) :: starEach [b] X.env := by rfl) (hpl : (backTo pos (starEach [b] X.env)).any (·.1) = false := by rfl) :
    GI X W (.Tuple elts kk tpos) (.Call (.Name "zip" p) [a, b] [] pos) (mWalk gZip ml) := gi_zip g.gl (by rw [B.mg]; exact hm) ha hs hpl
theorem gf_for {tg iter : Expr} {body : List Stmt} {t : Tg} {mi : M (List D)} {mb : M Fl} (B : BF P pw W base N sc k X) (hi : GI X W tg iter mi) (hg : GG X W mp tg t) (hb : GB X W mp body mb) (hs : ∀ x, foldedSetIterable iter X.env x = pure x := by exact fun _ => rfl) : GS X W mp (.For tg iter body [] pos) (mi.bind fun ds => mFor mp t mb ds) := gs_for B.po B.calm hi hg hb hs
theorem gf_while {body : List Stmt} {mt : M Bool} {mb : M Fl} (n : Nat) (B : BF P pw W base N sc k X) (hc : GT X W c mt) (hb : GB X W mp body mb) : GS X W mp (.While c body [] pos) (mWhile mt mb n) := gs_while B.po hc hb
theorem gf_tgt {tgs : List Expr} {j : Nat} {ts : List Tg} (B : BF P pw W base N sc k X) (hg : GGs X W mp tgs ts) (hn : (assignEach tgs X.env).length = ts.length := by rfl) (hst : (assignEach tgs X.env).findIdx? (·.1) = none := by rfl) : GG X W mp (.Tuple tgs j pos) (.tp ts) := gg_tup B.calm B.K.symm hg rfl hn hst
theorem gf_store {i : Nat} {nm : Str} {np p' : Pos} {ie ve : Expr} {mv mk : M Val} (B : BF P pw W base N sc k X) (n : Nm X i nm) (he : GE X W ve mv) (hi : GE X W ie mk)
    (hs : swapsWithSole [.Subscript (.Name nm np) ie p'] ve pos.line X.env = pure false := by rfl) (hw : swappedStores [.Subscript (.Name nm np) ie p'] ve X.env = pure none := by rfl) (h1 : (assignEach [.Subscript (.Name nm np) ie p'] X.env).map (·.2) = [assign (.Subscript (.Name nm np) ie p') X.env] := by rfl)
    (ha : ∀ v, assign (.Subscript (.Name nm np) ie p') X.env v = (do
      let ov ← holding [v] (eval (.Name nm np) X.env)
      let iv ← holding [v, ov] (eval ie X.env)
      standAt p'
      holding [v, ov, iv] (setItem ov iv v)
      release [v, ov, iv] []) := by exact fun _ => rfl) : GS X W mp (.Assign [.Subscript (.Name nm np) ie p'] ve pos) (mStore i mv mk) := gs_store (by have := B.room.un; omega) n.hN n.hv n.hd n.hcd he hi hs hw h1 ha
/-! ### calls -/
/-- a def that may be called -/
structure Cal (cv : CV) (P : Program) (pw : World) (W : Wd) (base : Heap) (j : Nat) (x : Str) (ps : List Str) (n : Nat) (g : List Val → CO) (f : Addr) (fd : FuncData) : Prop where
  F : FnS P pw W.K W.mg base (L2.CX P pw) j f fd ps (spS cv W n g)
  mg : W.mg x = some (.ref f)
  kp : PySem.W.keepIn W.K (.ref f) = true
  bd : Binds W.K fd ps []
theorem Cal.mono {cv : CV} {j i : Nat} {x : Str} {ps : List Str} {n : Nat} {g : List Val → CO} {f : Addr} {fd : FuncData} (C : Cal cv P pw W base j x ps n g f fd) (h : j ≤ i) : Cal cv P pw W base i x ps n g f fd :=
  ⟨⟨C.F.len, fun A outer s H args us vs Q E hr => C.F.run A outer s H args us vs Q E (hr.mono h)⟩, C.mg, C.kp, C.bd⟩
variable {W0 : Wd} {j n : Nat} {x : Str} {ps ks : List Str} {g : List Val → CO} {f : Addr} {fd : FuncData} {mv : M (List AV)} {is : List Nat} {mk : M (List Val)} {kws : List Keyword}
theorem BF.fn {sp : Shared → List Addr → Sp} (hl : W0.Like W) (B : BF P pw W base N sc k X) (F : FnS P pw W0.K W0.mg base (L2.CX P pw) j f fd ps sp) : FnS X.prog X.w X.K X.mg X.base (L2.CX X.prog X.w) j f fd ps sp := by
  rw [B.prog, B.w, B.K, B.mg, B.base, hl.K, hl.mg]; exact F
/-- a call where no closures are about -/
theorem gc_call (hl : W0.Like W) (hno : ∀ k f ws H', ¬ W.cl k f ws H') (B : BF P pw W base N sc k X) (C : Cal cvF P pw W0 base j x ps n g f fd) (hj : j ≤ k) (gx : GlX X x) (ha : GAV X W (e :: es) mv)
    (h1 : starEach (e :: es) X.env = (false, eval e X.env) :: starEach es X.env := by rfl) (h2 : (backTo pos (starEach es X.env)).any (·.1) = false := by rfl) : GE X W (.Call (.Name x p) (e :: es) [] pos) (mCall mp n g mv) :=
  ge_call (B.fn hl C.F) hl (fun _ _ _ _ _ k f ws H' h => hno k f ws H' h) (B.room.mono hj) gx.gl (by rw [B.mg, hl.mg]; exact C.mg) (by rw [B.K, hl.K]; exact C.kp) (by rw [B.K, hl.K]; exact C.bd) ha gx.hd h1 h2
theorem gc_call0 (hl : W0.Like W) (hno : ∀ k f ws H', ¬ W.cl k f ws H') (B : BF P pw W base N sc k X) (C : Cal cvF P pw W0 base j x ps n g f fd) (hj : j ≤ k) (gx : GlX X x) : GE X W (.Call (.Name x p) [] [] pos) (mCall mp n g mANil) :=
  ge_call0 (B.fn hl C.F) hl (fun _ _ _ _ _ k f ws H' h => hno k f ws H' h) (B.room.mono hj) gx.gl (by rw [B.mg, hl.mg]; exact C.mg) (by rw [B.K, hl.K]; exact C.kp) (by rw [B.K, hl.K]; exact C.bd) gx.hd
/-- a call whose arguments hold no closures -/
theorem gc_callN (hl : W0.Like W) (B : BF P pw W base N sc k X) (C : Cal cvF P pw W0 base j x ps n g f fd) (hj : j ≤ k) (gx : GlX X x) (ha : GAV X W (e :: es) mv)
    (h1 : starEach (e :: es) X.env = (false, eval e X.env) :: starEach es X.env := by rfl) (h2 : (backTo pos (starEach es X.env)).any (·.1) = false := by rfl) : GE X W (.Call (.Name x p) (e :: es) [] pos) (mCallN mp n g mv) :=
  ge_callN (B.fn hl C.F) hl (B.room.mono hj) gx.gl (by rw [B.mg, hl.mg]; exact C.mg) (by rw [B.K, hl.K]; exact C.kp) (by rw [B.K, hl.K]; exact C.bd) ha gx.hd h1 h2
theorem gc_callN0 (hl : W0.Like W) (B : BF P pw W base N sc k X) (C : Cal cvF P pw W0 base j x ps n g f fd) (hj : j ≤ k) (gx : GlX X x) : GE X W (.Call (.Name x p) [] [] pos) (mCallN mp n g mANil) :=
  ge_callN0 (B.fn hl C.F) hl (B.room.mono hj) gx.gl (by rw [B.mg, hl.mg]; exact C.mg) (by rw [B.K, hl.K]; exact C.kp) (by rw [B.K, hl.K]; exact C.bd) gx.hd
theorem gc_callK (hl : W0.Like W) (B : BF P pw W base N sc k X) (C : Cal cvF P pw W0 base j x ps n g f fd) (hb : KB W0.K fd ps ks (e :: es).length is) (hj : j ≤ k) (gx : GlX X x) (ha : GA X W (e :: es) ml) (hk : GKW X W kws mk) (hn1 : ∀ env xs env', ml env = .ok xs env' → xs.length = (e :: es).length) (hn2 : ∀ env xs env', mk env = .ok xs env' → xs.length = ks.length)
    (hall : (backToKw pos (keywordEach kws X.env)).all (·.1.isSome) = true := by rfl) (hks : (backToKw pos (keywordEach kws X.env)).filterMap (·.1) = ks := by rfl) (he : starEach (e :: es) X.env = (false, eval e X.env) :: starEach es X.env := by rfl)
    (hpl : ((backTo pos (starEach (e :: es) X.env)).any (·.1) || (backToKw pos (keywordEach kws X.env)).any (·.1.isNone)) = false := by rfl) : GE X W (.Call (.Name x p) (e :: es) kws pos) (mCallK n g is ml mk) :=
  ge_callK (B.fn hl C.F) hl (B.room.mono hj) gx.gl (by rw [B.mg, hl.mg]; exact C.mg) (by rw [B.K, hl.K]; exact C.kp) (by rw [B.K, hl.K]; exact hb) ha hk gx.hd hall hks he hpl hn1 hn2
theorem gc_callK0 (hl : W0.Like W) (B : BF P pw W base N sc k X) (C : Cal cvF P pw W0 base j x ps n g f fd) (hb : KB W0.K fd ps ks 0 is) (hj : j ≤ k) (gx : GlX X x) (hk : GKW X W kws mk) (hn2 : ∀ env xs env', mk env = .ok xs env' → xs.length = ks.length)
    (hall : (backToKw pos (keywordEach kws X.env)).all (·.1.isSome) = true := by rfl) (hks : (backToKw pos (keywordEach kws X.env)).filterMap (·.1) = ks := by rfl)
    (hpl : ((backTo pos (starEach [] X.env)).any (·.1) || (backToKw pos (keywordEach kws X.env)).any (·.1.isNone)) = false := by rfl) : GE X W (.Call (.Name x p) [] kws pos) (mCallK n g is mNil mk) :=
  ge_callK0 (B.fn hl C.F) hl (B.room.mono hj) gx.gl (by rw [B.mg, hl.mg]; exact C.mg) (by rw [B.K, hl.K]; exact C.kp) (by rw [B.K, hl.K]; exact hb) hk gx.hd hall hks hpl hn2
/-- a call with lambdas of this frame -/
theorem gc_callL {L : Nat → LamE} {ls : List Nat} {qual : Str} {fa : Addr} (hl : W0.Like W) (D : DX cvF P pw W base N sc k L ls qual fa X) (ok : ∀ k ∈ ls, LamOk N sc (qual ++ ".<locals>." ++ "<lambda>") (L k)) (C : Cal (ClF P pw W0 base L) P pw W0 base j x ps n g f fd) (hj : j ≤ k) (gx : GlX X x) (ha : GAV X W (e :: es) mv)
    (h1 : starEach (e :: es) X.env = (false, eval e X.env) :: starEach es X.env := by rfl) (h2 : (backTo pos (starEach es X.env)).any (·.1) = false := by rfl) : GE X W (.Call (.Name x p) (e :: es) [] pos) (mCallL mp n g mv) :=
  ge_callL hl D ok C.F hj gx.gl (by rw [D.mg, hl.mg]; exact C.mg) (by rw [D.K, hl.K]; exact C.kp) (by rw [D.K, hl.K]; exact C.bd) ha gx.hd h1 h2
/-- a lambda as an argument -/
theorem ga_lam {L : Nat → LamE} {ls : List Nat} {qual : Str} {fa : Addr} {Pt : Addr} (i : Nat) (hl : W0.Like W) (D : DX cvF P pw W base N sc k L ls qual fa X) (ok : ∀ k ∈ ls, LamOk N sc (qual ++ ".<locals>." ++ "<lambda>") (L k)) (hi : i ∈ ls) (TB : TabB base W0.mg (cdAt W0.K fa) Pt) (hm : (Pt, qual ++ ".<locals>." ++ "<lambda>") ∈ W0.T) (hu : ∀ p ∈ W0.T, p.1 = Pt → p.2 = qual ++ ".<locals>." ++ "<lambda>")
    (hr : GAV X W es mv) (hs : starEach (.Lambda (L i).params (L i).body (L i).scope pos :: es) X.env = (false, eval (.Lambda (L i).params (L i).body (L i).scope pos) X.env) :: starEach es X.env := by rfl) : GAV X W (.Lambda (L i).params (L i).body (L i).scope pos :: es) (mALam i (L i).caps mv) := by
  have o := ok i hi
  refine gav_lam (q := qual ++ ".<locals>." ++ "<lambda>") (c := cdAt W0.K fa) (P := Pt) (ps := (L i).ps) (fun f c' pm ctv H e1 e2 => ?_) (by rw [D.base, D.mg, hl.mg]; exact TB) (by rw [D.code, hl.K]) (by rw [D.qual]) (by rw [hl.T]; exact hm) (by rw [hl.T]; exact hu) (by rw [D.sc]; exact o.ok) (o.hdef _) hr hs
  rw [D.lam]
  exact ⟨hi, rfl, c', pm, ctv, by rw [o.hq]; exact e1, by rw [o.hq]; exact e2⟩
end
end BV
set_option maxHeartbeats 2000000
/-! BV42: comparisons as tests. -/
namespace BV
open PySem PySem.Spec PyProof.Rows L2 LamX

section
variable {P : Program} {pw : World} {W : Wd} {base : Heap} {N : List Str} {sc : Scope} {k : Nat} {X : Cx} {a b c : Expr} {pos : Pos} {ma mb mc : M Val}
theorem ht_lt (ha : GE X W a ma) (hb : GE X W b mb) : GT X W (.Compare a [.Lt] [b] pos) (mBl (mOp2 gLt ma mb)) := gt_cmp (op_lt.or op_lt_str) (says_cmp.or says_cmpS) (nomark _) ha hb
theorem ht_le (ha : GE X W a ma) (hb : GE X W b mb) : GT X W (.Compare a [.LtE] [b] pos) (mBl (mOp2 gLe ma mb)) := gt_cmp (op_le.or op_le_str) (says_cmp.or says_cmpS) (nomark _) ha hb
theorem ht_gt (ha : GE X W a ma) (hb : GE X W b mb) : GT X W (.Compare a [.Gt] [b] pos) (mBl (mOp2 gGt ma mb)) := gt_cmp (op_gt.or op_gt_str) (says_cmp.or says_cmpS) (nomark _) ha hb
theorem ht_ge (ha : GE X W a ma) (hb : GE X W b mb) : GT X W (.Compare a [.GtE] [b] pos) (mBl (mOp2 gGe ma mb)) := gt_cmp (op_ge.or op_ge_str) (says_cmp.or says_cmpS) (nomark _) ha hb
theorem ht_eq (B : BF P pw W base N sc k X) (ha : GE X W a ma) (hb : GE X W b mb) : GT X W (.Compare a [.Eq] [b] pos) (mBl (mOp2 gEq ma mb)) := gt_cmp (by rw [← B.K]; exact op_eqD B.room.units) says_eq (nomark _) ha hb
theorem ht_ne (B : BF P pw W base N sc k X) (ha : GE X W a ma) (hb : GE X W b mb) : GT X W (.Compare a [.NotEq] [b] pos) (mBl (mOp2 gNe ma mb)) := gt_cmp (by rw [← B.K]; exact op_neD B.room.units) says_ne (nomark _) ha hb
theorem ht_is (ha : GE X W a ma) (hb : GE X W b mb) : GT X W (.Compare a [.Is] [b] pos) (mBl (mOp2 (gIs false) ma mb)) := gt_cmp (op_isTy.or op_isN) says_is (nomark _) ha hb
theorem ht_isnot (ha : GE X W a ma) (hb : GE X W b mb) : GT X W (.Compare a [.IsNot] [b] pos) (mBl (mOp2 (gIs true) ma mb)) := gt_cmp (op_isNotTy.or op_notN) says_isnot (nomark _) ha hb
theorem ht_in (B : BF P pw W base N sc k X) (ha : GE X W a ma) (hb : GE X W b mb) (hm : behindInMarks .In b = false := by rfl) : GT X W (.Compare a [.In] [b] pos) (mBl (mOp2 gIn ma mb)) := gt_in B.K.symm (by have := B.room.un; omega) hm ha hb
theorem ht_notin (B : BF P pw W base N sc k X) (ha : GE X W a ma) (hb : GE X W b mb) (hm : behindInMarks .NotIn b = false := by rfl) : GT X W (.Compare a [.NotIn] [b] pos) (mBl (mOp2 gNotIn ma mb)) := gt_notin B.K.symm (by have := B.room.un; omega) hm ha hb
theorem rdT_op1' {w : WX} {σ : L2.St} {H : Hp} {Q : Bool → Hp → Prop} {neg : Bool} {q : Addr} {bs : List V} (hq : ∀ H, SqT W.K H q bs) (hf : bs.all flatV = true) (h : rdT W w (mBl (mOp1' (gInC neg bs) ma)) σ H Q) :
    rdE W w ma σ H fun v H1 => rIn W.K neg v (.ref q) H1 fun x H' => ∃ k, x = .bl k ∧ Q k H' := by
  have h := rdT_bl h
  refine rdE_mono (rd_first h) fun v H1 ⟨Z, Fs, Z2, env2, Fs2, x, Fx, p, h2⟩ => ?_
  cases eg : gInC neg bs x.2 with
  | none => rw [eg] at h2; exact h2.elim
  | some d =>
    rw [eg] at h2
    obtain ⟨a, ea, rfl⟩ := Option.map_eq_some_iff.mp eg
    obtain ⟨rfl, fa⟩ := p.own.inv1.flat ea
    exact ⟨q, bs, rfl, .inr (hq H1), fa, hf, p.fin h2 fun _ => .bl _⟩
theorem ht_inC (B : BF P pw W base N sc k X) {x : Str} {q : Addr} {bs : List V} {cp : Pos} (g : GlX X x) (hm : W.mg x = some (.ref q)) (hq : ∀ H, SqT W.K H q bs) (hf : bs.all flatV = true) (ha : GE X W a ma) : GT X W (.Compare a [.In] [.Name x cp] pos) (mBl (mOp1' (gInC false bs) ma)) := fun w tk =>
  pt_imp (pt_cmpR op_in_seq (ha w tk) (pe_glob (v := .ref q) g.gl (by rw [B.mg]; exact hm) rfl g.hd) rfl) fun σ H Q h => by rw [B.K]; exact rdT_op1' hq hf h
theorem ht_notinC (B : BF P pw W base N sc k X) {x : Str} {q : Addr} {bs : List V} {cp : Pos} (g : GlX X x) (hm : W.mg x = some (.ref q)) (hq : ∀ H, SqT W.K H q bs) (hf : bs.all flatV = true) (ha : GE X W a ma) : GT X W (.Compare a [.NotIn] [.Name x cp] pos) (mBl (mOp1' (gInC true bs) ma)) := fun w tk =>
  pt_imp (pt_cmpR op_notIn_seq (ha w tk) (pe_glob (v := .ref q) g.gl (by rw [B.mg]; exact hm) rfl g.hd) rfl) fun σ H Q h => by rw [B.K]; exact rdT_op1' hq hf h
/-- a < b < c and its like -/
theorem hc_ltle (ha : GE X W a ma) (hb : GE X W b mb) (hc : GE X W c mc) (hm : lastMarks [.Lt, .LtE] [b, c] = false := by rfl) : GT X W (.Compare a [.Lt, .LtE] [b, c] pos) (mBl (mChain gLt gLe ma mb mc)) := gt_chain (op_lt.or op_lt_str) (op_le.or op_le_str) (says_cmp.or says_cmpS) (says_cmp.or says_cmpS) hm ha hb hc
theorem hc_ltlt (ha : GE X W a ma) (hb : GE X W b mb) (hc : GE X W c mc) (hm : lastMarks [.Lt, .Lt] [b, c] = false := by rfl) : GT X W (.Compare a [.Lt, .Lt] [b, c] pos) (mBl (mChain gLt gLt ma mb mc)) := gt_chain (op_lt.or op_lt_str) (op_lt.or op_lt_str) (says_cmp.or says_cmpS) (says_cmp.or says_cmpS) hm ha hb hc
theorem hc_lele (ha : GE X W a ma) (hb : GE X W b mb) (hc : GE X W c mc) (hm : lastMarks [.LtE, .LtE] [b, c] = false := by rfl) : GT X W (.Compare a [.LtE, .LtE] [b, c] pos) (mBl (mChain gLe gLe ma mb mc)) := gt_chain (op_le.or op_le_str) (op_le.or op_le_str) (says_cmp.or says_cmpS) (says_cmp.or says_cmpS) hm ha hb hc
theorem hc_lelt (ha : GE X W a ma) (hb : GE X W b mb) (hc : GE X W c mc) (hm : lastMarks [.LtE, .Lt] [b, c] = false := by rfl) : GT X W (.Compare a [.LtE, .Lt] [b, c] pos) (mBl (mChain gLe gLt ma mb mc)) := gt_chain (op_le.or op_le_str) (op_lt.or op_lt_str) (says_cmp.or says_cmpS) (says_cmp.or says_cmpS) hm ha hb hc
/-- one more way a test may end -/
theorem ht_tru (ha : GE X W a ma) (he : ∀ whole, isTrue a X.env whole = (do let v ← whole; standAt a.pos; holding [v] (truthy v)) := by exact fun _ => rfl) : GT X W a (mTru ma) := gt_tru ha he
end
/-! ### what is never reached -/
theorem ge_bad {X : Cx} {W : Wd} {e : Expr} : GE X W e M.bad := fun w _ => ⟨fun _ _ _ _ _ _ h => by obtain ⟨_, _, _, _, h⟩ := h; exact h.elim⟩
theorem gt_bad {X : Cx} {W : Wd} {e : Expr} : GT X W e M.bad := fun w _ => ⟨fun _ _ _ _ _ _ h => by obtain ⟨_, _, _, _, h⟩ := h; exact h.elim⟩
theorem gs_bad {X : Cx} {W : Wd} {mp : List Nat} {st : Stmt} : GS X W mp st M.bad := fun w _ => ⟨fun _ _ _ _ _ _ h => by obtain ⟨_, _, _, _, h⟩ := h; exact h.elim⟩
theorem gb_bad {X : Cx} {W : Wd} {mp : List Nat} {st : List Stmt} : GB X W mp st M.bad := fun w _ => ⟨fun _ _ _ _ _ _ h => by obtain ⟨_, _, _, _, h⟩ := h; exact h.elim⟩
/-- the fuel of a while -/
def fuel : Nat := 2 ^ 40
end BV
set_option maxHeartbeats 2000000
/-! BV43: list(d.items()). -/
namespace BV
open PySem PySem.Spec PyProof.Rows L2 LamX

def itemD (kv : D × D) : D := .tup [kv.1, kv.2]
def mLItems (ma : M Val) : M Val := ma.bind fun x => match x.2 with
  | .dic false kvs => M.pure (newL (x.1 == .all) (kvs.map itemD))
  | _ => M.bad
section
variable {W : Wd} {H : Hp} {P : Addr → Prop}
theorem own_key {m : Mode} (k : Key) : Own W H P m (kV k) (kD k) [] := by
  cases k with
  | inl i => exact .int i
  | inr x => exact .str x
theorem owns_items {m : Mode} : ∀ {ts : List Addr} {kvs : List (Key × V)} {ds : List D} {F : List Addr}, Paired (fun (t : Addr) (q : Key × V) => H t = some (.tup [kV q.1, q.2])) ts kvs → Owns W H P m (kvs.map (·.2)) ds F → Owns W H P m (ts.map V.ref) (((kvs.map fun p => kD p.1).zip ds).map itemD) F
  | _, _, ds, F, .nil, o => by
    generalize e : ([] : List (Key × V)).map (·.2) = l at o
    cases o with
    | nil => exact .nil
    | cons _ _ => cases e
  | _, _, ds, F, .cons (a := t0) (b := q0) (l₁ := ts) (l₂ := kvs) h t, o => by
    generalize e : (q0 :: kvs).map (·.2) = l at o
    cases o with
    | nil => cases e
    | cons o1 o2 =>
      cases e
      refine .cons (.tup h ?_) (owns_items t o2)
      have := Owns.cons (m := m) (own_key (W := W) (H := H) (P := P) q0.1) (Owns.cons o1 .nil)
      simpa using this
theorem Own.dic_inv {m : Mode} {v : V} {kvs : List (D × D)} {F : List Addr} (o : Own W H P m v (.dic false kvs) F) : ∃ a ks ds G m', v = .ref a ∧ kvs = (ks.map fun p => kD p.1).zip ds ∧ H a = some (.dK ks) ∧ Owns W H P m' (ks.map (·.2)) ds G ∧ (m = .all → m' = .all) ∧ (∀ c ∈ G, c ∈ F) ∧ (F.Nodup → G.Nodup) := by
  cases o with
  | dKS p e h => exact ⟨_, _, _, _, _, rfl, rfl, e, h, (fun z => nomatch z), fun _ z => z, id⟩
  | dKO n k e h => exact ⟨_, _, _, _, _, rfl, rfl, e, h, (fun z => by rw [z]; rfl), fun c hc => List.mem_cons_of_mem _ hc, fun z => (List.nodup_cons.mp z).2⟩
end
section
variable {P : Program} {pw : World} {W : Wd} {base : Heap} {N : List Str} {sc : Scope} {k : Nat} {X : Cx} {e : Expr} {p pos apos cpos : Pos} {ma : M Val}
theorem ge_listItems (B : BF P pw W base N sc k X) (g : GlX X "list") (hm : W.mg "list" = none) (he : GE X W e ma) (hbase : attributeBase e "items" X.env (eval e X.env) = eval e X.env := by rfl) (hline : (apos.endLine == cpos.line) = true := by rfl)
    (hs : starEach [.Call (.Attribute e "items" apos) [] [] cpos] X.env = (false, eval (.Call (.Attribute e "items" apos) [] [] cpos) X.env) :: starEach [] X.env := by rfl) :
    GE X W (.Call (.Name "list" p) [.Call (.Attribute e "items" apos) [] [] cpos] [] pos) (mLItems ma) := fun w tk => by
  refine pe_imp (LiI.pe_listItems B.calm (he w tk) g.gl (by rw [B.mg]; exact hm) boot_list hbase hline hs) fun σ H Q h => ?_
  refine rdE_mono (rd_first h) fun v H1 ⟨Z, Fs, Z2, env2, Fs2, x, Fx, q, h2⟩ => ?_
  obtain ⟨m, d⟩ := x
  cases d with
  | dic t kvs =>
    cases t with
    | true => exact h2.elim
    | false =>
      obtain ⟨a, ks, ds, G, m', rfl, rfl, ha, ho, hmm, hG, hn⟩ := q.own.inv1.dic_inv
      refine ⟨a, ks, rfl, ha, fun H' l ts kp hl hts hlt hl' hp => ?_⟩
      let H2 : Hp := fun b => if b = l then none else H' b
      have e2 : upd H2 l (.lst (ts.map V.ref)) = H' := by
        funext b
        by_cases hb : b = l
        · rw [hb, upd_same, hl']
        · rw [upd_ne hb]; exact if_neg hb
      have f : Fr W (fun _ => False) H1 H2 := by
        have g : ∀ b o, H1 b = some o → H2 b = some o := fun b o hb => by
          have : b ≠ l := fun z => by rw [z, hl] at hb; cases hb
          show (if b = l then none else H' b) = some o
          rw [if_neg this]
          exact kp b o hb
        exact ⟨fun b o hb _ _ => g b o hb, fun T => Tabs.ext T g, fun b hb => by
          cases eb : H1 b with
          | none => exact absurd eb hb
          | some o => rw [g b o eb]; exact fun z => nomatch z⟩
      have q2 := q.grow f
      have o2 : Owns W H2 (fun a => ¬ Z2 a) m' (ts.map V.ref) (((ks.map fun p => kD p.1).zip ds).map itemD) G := by
        refine owns_items ?_ (Owns.frame f (fun _ _ z => z) ho fun _ _ z => z)
        have : ∀ {ts : List Addr} {ks : List (Key × V)}, l ∉ ts → Paired (fun (t : Addr) (q : Key × V) => H' t = some (.tup [kV q.1, q.2])) ts ks → Paired (fun (t : Addr) (q : Key × V) => H2 t = some (.tup [kV q.1, q.2])) ts ks := by
          intro ts ks hn hp
          induction hp with
          | nil => exact .nil
          | cons r _ ih =>
            refine .cons ?_ (ih fun z => hn (List.mem_cons_of_mem _ z))
            show (if _ = l then none else H' _) = _
            rw [if_neg fun z => hn (by rw [z]; exact List.mem_cons_self ..)]
            exact r
        exact this hlt hp
      have := q2.layL (k := (m == .all)) (m := m') (q := l) (Q := Q) (if_pos rfl) o2 (fun k => hmm (beq_all k)) hG (hn q.nd) h2
      rw [e2] at this
      exact this
  | _ => exact h2.elim
end
end BV
set_option maxHeartbeats 2000000
/-! BV44: assignments packaged; parts of the program's text by their places. -/
namespace BV
open PySem PySem.Spec PyProof.Rows L2 LamX

/-- an environment of a scope alone -/
def envS (sc : Scope) : PySem.Env := PySem.W.envX "" sc 0 0 .none []
theorem sw_env {v : Expr} {t : Option Expr} {l : Nat} {env : PySem.Env} {sc : Scope} (h : env.scope = sc) : swapsWith v t l env = swapsWith v t l (envS sc) := by
  subst h
  rfl
theorem sst_env {ts : List Expr} {v : Expr} {env : PySem.Env} {sc : Scope} (h : env.scope = sc) : swappedStores ts v env = swappedStores ts v (envS sc) := by
  subst h
  rfl
section
variable {cv : CV} {P : Program} {pw : World} {W : Wd} {base : Heap} {N : List Str} {sc : Scope} {k : Nat} {X : Cx} {mp : List Nat} {a b c e : Expr} {pos : Pos} {ma : M Val} {ml : M (List Val)}
theorem nm_loc {i : Nat} {x : Str} (h : nmLB N sc i x = true) : sc.names.lookup x = some .local := by
  unfold nmLB at h
  simp only [Bool.and_eq_true, decide_eq_true_eq] at h
  exact h.2
theorem gf_par2 {i j : Nat} {x y : Str} {px py pt : Pos} {kt k2 pt2} (hsc : X.env.scope = sc) (B : BF P pw W base N sc k X) (h1 : nmLB N sc i x = true) (h2 : nmLB N sc j y = true) (hij : i ≠ j) (ha : GA X W [a, b] ml)
    (hw : swappedStores [.Tuple [.Name x px, .Name y py] kt pt] (.Tuple [a, b] k2 pt2) (envS sc) = pure (some [x, y])) : GS X W mp (.Assign [.Tuple [.Name x px, .Name y py] kt pt] (.Tuple [a, b] k2 pt2) pos) (mPar mp [i, j] ml) := by
  have n1 := nmS_ofB B.N B.sc h1
  have n2 := nmS_ofB B.N B.sc h2
  exact gs_par2 B.calm n1.nd n1.hN n2.hN hij (by rw [hsc]; exact nm_loc h1) (by rw [hsc]; exact nm_loc h2) ha (by rw [sst_env hsc]; exact hw) rfl
theorem gf_par3 {i j l : Nat} {x y z : Str} {px py pz pt : Pos} {kt k2 pt2} (hsc : X.env.scope = sc) (B : BF P pw W base N sc k X) (h1 : nmLB N sc i x = true) (h2 : nmLB N sc j y = true) (h3 : nmLB N sc l z = true) (hij : i ≠ j) (hil : i ≠ l) (hjl : j ≠ l) (ha : GA X W [a, b, c] ml)
    (hw : swappedStores [.Tuple [.Name x px, .Name y py, .Name z pz] kt pt] (.Tuple [a, b, c] k2 pt2) (envS sc) = pure (some [x, y, z])) : GS X W mp (.Assign [.Tuple [.Name x px, .Name y py, .Name z pz] kt pt] (.Tuple [a, b, c] k2 pt2) pos) (mPar mp [i, j, l] ml) := by
  have n1 := nmS_ofB B.N B.sc h1
  have n2 := nmS_ofB B.N B.sc h2
  have n3 := nmS_ofB B.N B.sc h3
  exact gs_par3 B.calm n1.nd n1.hN n2.hN n3.hN hij hil hjl (by rw [hsc]; exact nm_loc h1) (by rw [hsc]; exact nm_loc h2) (by rw [hsc]; exact nm_loc h3) ha (by rw [sst_env hsc]; exact hw) rfl
theorem gf_asg {tg : Expr} {t : Tg} (hsc : X.env.scope = sc) (he : GE X W e ma) (hg : GG X W mp tg t) (hs : swapsWithSole [tg] e pos.line X.env = pure false := by rfl) (hw : swappedStores [tg] e (envS sc) = pure none) (h1 : (assignEach [tg] X.env).map (·.2) = [assign tg X.env] := by rfl) :
    GS X W mp (.Assign [tg] e pos) (mAsg mp t ma) := gs_asg he hg hs (by rw [sst_env hsc]; exact hw) h1
/-- name = comprehension, where nothing is exchanged -/
theorem gf_setLc {i : Nat} {x : Str} {pos' : Pos} (hsc : X.env.scope = sc) (n : NmS X i x) (he : GE X W e ma) (hs : swapsWith e (some (.Name x pos')) pos.line (envS sc) = pure false) : GS X W mp (.Assign [.Name x pos'] e pos) (mSet mp i ma) := gn_set n he (by rw [sw_env hsc]; exact hs)
end
/-! ### parts of the text -/
def exD : Expr := .Constant .none 0 ⟨0, 0, 0, 0⟩
def exKid : Expr → Nat → Expr
  | .Call f _ _ _, 0 => f
  | .Call _ as ks _, i + 1 => if i < as.length then as.getD i exD else (match ks[i - as.length]? with | some k => k.value | none => exD)
  | .BoolOp _ es _, i => es.getD i exD
  | .UnaryOp _ e _, _ => e
  | .BinOp a _ b _, i => if i = 0 then a else b
  | .Compare a _ bs _, i => if i = 0 then a else bs.getD (i - 1) exD
  | .Tuple es _ _, i => es.getD i exD
  | .List es _, i => es.getD i exD
  | .IfExp c a b _, i => if i = 0 then c else if i = 1 then a else b
  | .Subscript a b _, i => if i = 0 then a else b
  | .Attribute a _ _, _ => a
  | .ListComp e gs _ _, i => if i = 0 then e else (match gs[i - 1]? with | some g => g.iter | none => exD)
  | .Lambda _ b _ _, _ => b
  | _, _ => exD
def stEx : Stmt → Nat → Expr
  | .Assign _ e _, _ => e
  | .Return (some e) _, _ => e
  | .Expr e _, _ => e
  | .If c _ _ _, _ => c
  | .While c _ _ _, _ => c
  | .For _ it _ _ _, _ => it
  | .Raise (some e) _ _, _ => e
  | _, _ => exD
def stKid : Stmt → Nat → Nat → Stmt
  | .If _ a b _, w, i => (if w = 0 then a else b).getD i (.Pass ⟨0, 0, 0, 0⟩)
  | .While _ a _ _, _, i => a.getD i (.Pass ⟨0, 0, 0, 0⟩)
  | .For _ _ a _ _, _, i => a.getD i (.Pass ⟨0, 0, 0, 0⟩)
  | .Try a _ _ _ _, _, i => a.getD i (.Pass ⟨0, 0, 0, 0⟩)
  | s, _, i => (L2.defBody s).getD i (.Pass ⟨0, 0, 0, 0⟩)
def lmP : Expr → Arguments
  | .Lambda p _ _ _ => p
  | _ => ⟨[], [], none, [], [], none, []⟩
def lmB : Expr → Expr
  | .Lambda _ b _ _ => b
  | _ => exD
def lmS : Expr → Scope
  | .Lambda _ _ s _ => s
  | _ => ⟨.function, [], false, false, []⟩
/-! ### a def of which nothing is told -/
theorem cal_bad {cv : CV} {P : Program} {pw : World} {W : Wd} {base : Heap} {j n : Nat} {x : Str} {ps : List Str} {f : Addr} {fd : FuncData} (hm : W.mg x = some (.ref f)) (kp : PySem.W.keepIn W.K (.ref f) = true) (bd : Binds W.K fd ps []) (hn : ps.length = n) : Cal cv P pw W base j x ps n (fun _ => .bad) f fd :=
  ⟨⟨fun s fs vs H Q E ⟨_, _, _, _, _, _, h, _⟩ => by rw [h, hn], fun A outer s H args us vs Q E _ _ _ _ ⟨_, _, _, _, _, _, _, _, _, h⟩ => h.elim⟩, hm, kp, bd⟩
end BV
set_option maxHeartbeats 2000000
/-! BV45: own errors, packaged; the end over a head. -/
namespace BV
open PySem PySem.Spec PyProof.Rows L2 LamX

/-- the class at C is an error of ours, above ValueError -/
def oexB (K : PySem.W.Frag) (C : Addr) : Bool := (match K.lookup C with
  | some ⟨.type "type", _, .cls cd, sl⟩ => (match cd.mro, sl.toList with
    | .ref C' :: bm, [_, _, _, _, some (.builtin n), _] => (C' == C && n == "ValueError.__new__") && (!cd.hasDel && (cd.hasDict && PySem.HandSPX.refsVE bm))
    | _, _ => false)
  | _ => false) && (decide (PySem.W.findIn K (.ref C) "__setattr__" = some (some (.builtin "object.__setattr__"))) && (decide (PySem.W.subIn K (.ref C) (.type "BaseException") = some true) && (decide (PySem.W.typeIn K (.ref C) = some (.type "type")) && PySem.W.keepIn K (.ref C))))
theorem oexB_ok {K : PySem.W.Frag} {C : Addr} (h : oexB K C = true) : OexC K C := by
  unfold oexB at h
  obtain ⟨h1, h2⟩ := Bool.and_eq_true_iff.mp h
  obtain ⟨h3, h4⟩ := Bool.and_eq_true_iff.mp h2
  obtain ⟨h5, h6⟩ := Bool.and_eq_true_iff.mp h4
  obtain ⟨h7, h8⟩ := Bool.and_eq_true_iff.mp h6
  refine ⟨?_, of_decide_eq_true h3, of_decide_eq_true h5, of_decide_eq_true h7, h8⟩
  split at h1
  · rename_i dd cd sl ho
    split at h1
    · rename_i C' bm k0 k1 k2 k3 n k5 hm hs
      simp only [Bool.and_eq_true, beq_iff_eq, Bool.not_eq_true'] at h1
      obtain ⟨⟨rfl, rfl⟩, hdel, hd, ht⟩ := h1
      obtain ⟨nm, bs, mro, ns, qn, hd', sn, sub, ab, col, del⟩ := cd
      dsimp only at hm hdel hd
      subst hm hdel hd
      have hsl : sl = #[k0, k1, k2, k3, some (.builtin "ValueError.__new__"), k5] := by
        obtain ⟨l⟩ := sl
        simp only at hs
        rw [hs]
      subst hsl
      exact ⟨nm, qn, ns, bs, bm, sn, sub, ab, col, dd, k0, k1, k2, k3, k5, ho, ht⟩
    · cases h1
  · cases h1
/-- raise c(x): f the field -/
structure RaiseOk (P : Program) (pw : World) (W : Wd) (base : Heap) (c f : Str) (C fI : Addr) (fd : FuncData) (ps : List Str) : Prop where
  T : OexC W.K C
  iC : PySem.W.findIn W.K (.ref C) "__init__" = some (some (.ref fI))
  tI : PySem.W.typeIn W.K (.ref fI) = some (.type "function")
  F1 : FnOk P pw W.K W.mg base (L2.CX P pw) 1 fI fd ps (spI W.K f)
  hb : Binds W.K fd ps []
  hf : PySem.W.findIn W.K (.ref C) f = some none
  hm : W.mg c = some (.ref C)
/-- except C as e: which classes it catches -/
structure TryOk (W : Wd) (c f : Str) (C : Addr) (hx : Str → Option Bool) : Prop where
  T : XfC W.K C
  hno : PySem.W.findIn W.K (.ref C) f = some none
  hm : W.mg c = some (.ref C)
  hit : ∀ (c' : Str) (C' : Addr) (b : Bool), hx c' = some b → W.mg c' = some (.ref C') → PySem.W.exmOne W.K (.ref C') (.ref C) = some b ∧ (b = true → C' = C)
section
variable {cv : CV} {P : Program} {pw : World} {W0 W : Wd} {base : Heap} {N : List Str} {sc : Scope} {k : Nat} {X : Cx} {mp : List Nat} {e : Expr} {ma : M Val} {p pos pos' : Pos} {L : Nat → LamE} {ks : List Nat} {qual : Str} {fa : Addr}
theorem gf_raise {c f : Str} {C fI : Addr} {fd : FuncData} {ps : List Str} (hl : W0.Like W) (B : BF P pw W base N sc k X) (hk : 2 ≤ k) (x : RaiseOk P pw W0 base c f C fI fd ps) (g : GlX X c) (ha : GE X W e ma) (hs : starEach [e] X.env = [(false, eval e X.env)] := by rfl) :
    GS X W mp (.Raise (some (.Call (.Name c p) [e] [] pos)) none pos') (mRaise c f ma) :=
  gs_raise (k := 1) (ps := ps) B.K.symm B.mg.symm B.calm (by rw [B.K, hl.K]; exact x.T) (by rw [B.K, hl.K]; exact x.iC) (by rw [B.K, hl.K]; exact x.tI) (by rw [B.prog, B.w, B.K, B.mg, B.base, hl.K, hl.mg]; exact x.F1) (B.room.mono hk) (by rw [B.K, hl.K]; exact x.hb) (by rw [B.K, hl.K]; exact x.hf) g.gl (by rw [B.mg, hl.mg]; exact x.hm) ha g.hd hs
theorem MX.tr (D : MX cv P pw W base N sc k X) {pn xe} (h : PassesOwn (model X.prog X.w) X.A X.env xe) : MX cv P pw W base N sc k (X.tr pn xe) :=
  ⟨D.prog, D.w, D.K, D.mg, D.base, D.N, D.sc, D.calm, D.room, D.stk, D.frm, D.ex, h, D.cls⟩
theorem DX.tr (D : DX cv P pw W base N sc k L ks qual fa X) {pn xe} (h : PassesOwn (model X.prog X.w) X.A X.env xe) : DX cv P pw W base N sc k L ks qual fa (X.tr pn xe) :=
  ⟨D.toMX.tr h, D.fn, D.qual, D.code, D.lam⟩
theorem gf_try {C : Addr} {c f n s : Str} {i : Nat} {body : List Stmt} {mb : M Fl} {hx : Str → Option Bool} {np hp rp tp p1 p2 p3 : Pos} {k1 k2 : Nat} (hl : W0.Like W) (D : DX cv P pw W base N sc k L ks qual fa X) (x : TryOk W0 c f C hx) (nm : nmLB N sc i n = true) (g : glB sc c = true)
    (hb : ∀ pn xe, PassesOwn (model X.prog X.w) X.A X.env xe → GB (X.tr pn xe) W mp body mb) (hat : attributeBase (.Name n p2) f X.env (eval (.Name n p2) X.env) = eval (.Name n p2) X.env := by rfl) :
    GS X W mp (.Try body [.ExceptHandler (some (.Name c np)) (some n) [.Return (some (.Tuple [.Constant (.str s) k1 p1, .Attribute (.Name n p2) f p3] k2 tp)) rp] hp] [] [] pos) (mTryAs hx i s f mb) := by
  have B := D.toMX.bf
  have h1 := nmS_ofB B.N B.sc nm
  have h2 := B.gl g
  refine gs_try_as (C := C) D.K.symm D.mg.symm D.stk D.frm h1.nd h1.hN (by show X.env.scope.names.lookup n = _; rw [D.sc]; exact nm_loc nm) ⟨h2.gl, h2.hd, .inl (by rw [D.mg, hl.mg]; exact x.hm)⟩ h1.hv h1.hd h1.hcd (by rw [D.K, hl.K]; exact x.T) (by rw [D.K, hl.K]; exact x.hno) (fun c' C' b e1 e2 => ?_) hat hb
  rw [D.K, hl.K]
  rw [D.mg, hl.mg] at e2
  exact x.hit c' C' b e1 e2
end
end BV
set_option maxHeartbeats 2000000
/-! BV46: a loop over an owned list whose items are changed. -/
namespace BV
open PySem PySem.Spec PyProof.Rows L2 LamX

def lendGo (j : Nat) (mb : M Fl) : List D → List D → Env → Option (List D × Env)
  | [], acc, env => some (acc, env)
  | d :: ds, acc, env => match mb (env.set j (some (.all, d))) with
    | .ok .nx env' => (match env'[j]? with
      | some (some (.all, d')) => lendGo j mb ds (acc ++ [d']) (env'.set j none)
      | _ => none)
    | _ => none
/-- for x in y: body, the items lent one by one (x in slot j, y in slot i) -/
def mForLend (i j : Nat) (mb : M Fl) : M Fl := fun env => match env[i]? with
  | some (some (.all, .lst ds)) => if j < env.length then (match lendGo j mb ds [] ((env.set i none).set j none) with
    | some res => .ok .nx (res.2.set i (some (.all, .lst res.1)))
    | none => .bad) else .bad
  | some (some (.all, .tup ds)) => if j < env.length then (match lendGo j mb ds [] ((env.set i none).set j none) with
    | some res => .ok .nx (res.2.set i (some (.all, .tup res.1)))
    | none => .bad) else .bad
  | _ => .bad
section
variable {W : Wd} {w : WX} {mp : List Nat} {σ σ1 σ2 : L2.St} {H H1 H2 : Hp} {Z Z1 Z2 : Addr → Prop} {Fs Fs1 Fs2 : Nat → List Addr} {env env1 env2 : Env} {x : Val} {v : V} {F Fx : List Addr} {i j : Nat}
theorem OF_upF {a : Addr} (h : OF (upF Fs i F) a) : OF Fs a ∨ a ∈ F := by
  obtain ⟨j, h⟩ := h
  by_cases hj : j = i
  · rw [hj, upF_same] at h; exact .inr h
  · rw [upF_ne hj] at h; exact .inl ⟨j, h⟩
/-- a slot that holds nothing takes a value -/
theorem Sim.putF (S : Sim W H Z σ env Fs) (hl : i < env.length) (he : env[i]? = some none) (o : Own W H (fun a => ¬ Z a) x.1 v x.2 F) (nd : F.Nodup) (sub : ∀ a ∈ F, Z a) (dis : ∀ a ∈ F, ¬ OF Fs a) : Sim W H Z (σ.set i (some v)) (env.set i (some x)) (upF Fs i F) where
  rep := fun j y e => by
    by_cases hj : j = i
    · rw [hj] at e ⊢
      rw [List.getElem?_set_self hl] at e
      cases e
      exact ⟨v, List.getElem?_set_self (by rw [← S.len]; exact hl), by rw [upF_same]; exact o⟩
    · rw [List.getElem?_set_ne (Ne.symm hj)] at e
      obtain ⟨u, e1, o⟩ := S.rep j y e
      exact ⟨u, by rw [List.getElem?_set_ne (Ne.symm hj)]; exact e1, by rw [upF_ne hj]; exact o⟩
  off := fun j h => by
    by_cases hj : j = i
    · rw [hj] at h
      exact absurd (List.getElem?_set_self hl) (h x)
    · rw [upF_ne hj]
      exact S.off j fun y => by have := h y; rwa [List.getElem?_set_ne (Ne.symm hj)] at this
  dis := fun j k a h1 h2 => by
    by_cases hj : j = i
    · by_cases hk : k = i
      · rw [hj, hk]
      · rw [hj, upF_same] at h1
        rw [upF_ne hk] at h2
        exact absurd ⟨k, h2⟩ (dis a h1)
    · by_cases hk : k = i
      · rw [upF_ne hj] at h1
        rw [hk, upF_same] at h2
        exact absurd ⟨j, h1⟩ (dis a h2)
      · rw [upF_ne hj] at h1
        rw [upF_ne hk] at h2
        exact S.dis j k a h1 h2
  nd := fun j => by
    by_cases hj : j = i
    · rw [hj, upF_same]; exact nd
    · rw [upF_ne hj]; exact S.nd j
  sub := fun j a h => by
    by_cases hj : j = i
    · rw [hj, upF_same] at h; exact sub a h
    · rw [upF_ne hj] at h; exact S.sub j a h
  zdom := S.zdom
  len := by rw [List.length_set, List.length_set]; exact S.len
  tabs := S.tabs
theorem Owns.laterF {m : Mode} {vs : List V} {ds : List D} (so : ∀ a, OF Fs1 a → Z1 a) (p : Owns W H1 (fun a => ¬ Z1 a) m vs ds F) (hd : ∀ a ∈ F, ¬ OF Fs1 a) (b : Step W H1 Z1 Fs1 H2 Z2 Fs2 Fx) : Owns W H2 (fun a => ¬ Z2 a) m vs ds F := by
  have h1 := Owns.weak (P' := fun a => ¬ Z1 a ∧ ¬ Z2 a) (fun a n t => ⟨n, fun z => (b.zin a z).elim n t⟩) p
  have h2 := Owns.frame b.fr (fun a n z => n.1 (so a z)) h1 hd
  exact Owns.weak (fun a n _ => n.2) h2
/-- between two turns -/
structure LendI (W : Wd) (mp : List Nat) (i j : Nat) (a : Addr) (O : HO) (R : List Addr) (ws : List V) (ds : List D) (σ : L2.St) (H : Hp) (Z : Addr → Prop) (Fs : Nat → List Addr) (n : Nat) (σ' : L2.St) (H' : Hp) (Z' : Addr → Prop) (env' : Env) (Fs' : Nat → List Addr) (acc : List D) (G1 G2 : List Addr) : Prop where
  st : Step W H Z Fs H' Z' Fs' (R ++ (G1 ++ G2))
  sim : Sim W H' Z' σ' env' Fs'
  kp : ∀ q ∈ i :: mp, σ'[q]? = σ[q]?
  hd : H' a = some O
  o1 : Owns W H' (fun a => ¬ Z' a) .all (ws.take n) acc G1
  o2 : Owns W H' (fun a => ¬ Z' a) .all (ws.drop n) (ds.drop n) G2
  nd : (R ++ (G1 ++ G2)).Nodup
  sub : ∀ c ∈ R ++ (G1 ++ G2), Z' c
  dis : ∀ c ∈ R ++ (G1 ++ G2), ¬ OF Fs' c
  ej : env'[j]? = some none
  ei : i < env'.length
theorem LendI.turn {a : Addr} {O : HO} {R : List Addr} {ws : List V} {ds : List D} {n : Nat} {acc : List D} {G1 G2 : List Addr} {mb : M Fl} {D0 : Ends} {N : L2.St → Hp → Prop} (zd : ∀ c, Z c → H c ≠ none) (hO : ¬ Tbl O) (hR : a ∈ R ∨ Fixed O) (hij : i ≠ j) (hjm : j ∉ mp) (hRa : ∀ c ∈ R, c = a)
    (I : LendI W mp i j a O R ws ds σ H Z Fs n σ1 H1 Z1 env1 Fs1 acc G1 G2) (hlt : n < ds.length) {res : List D × Env} (hg : lendGo j mb (ds.drop n) acc env1 = some res) (hl : ws.length = ds.length)
    (hN : ∀ σ' H' Z' env' Fs' acc' G1' G2', LendI W mp i j a O R ws ds σ H Z Fs (n + 1) σ' H' Z' env' Fs' acc' G1' G2' → lendGo j mb (ds.drop (n + 1)) acc' env' = some res → N σ' H') {v : V} (hv : ws[n]? = some v) :
    rdS W w (j :: i :: mp) mb { D0 with nx := N, ct := N, bk := D0.nx } (σ1.set j (some v)) H1 := by
  have hn : n < ws.length := by omega
  have ev : ws[n] = v := by rw [List.getElem?_eq_getElem hn] at hv; exact Option.some.inj hv
  have o2 := I.o2
  rw [List.drop_eq_getElem_cons hlt, List.drop_eq_getElem_cons hn, ev] at o2
  rw [List.drop_eq_getElem_cons hlt] at hg
  unfold lendGo at hg
  generalize eG : G2 = G at o2
  cases o2 with
  | cons ov ot =>
    rename_i Gi Gt
    subst eG
    have hjl : j < env1.length := (List.getElem?_eq_some_iff.mp I.ej).1
    have ndA := I.nd
    have mem2 : ∀ c ∈ Gi, c ∈ R ++ (G1 ++ (Gi ++ Gt)) := fun c hc => List.mem_append_right _ (List.mem_append_right _ (List.mem_append_left _ hc))
    have rest : ∀ c ∈ R ++ (G1 ++ Gt), c ∈ R ++ (G1 ++ (Gi ++ Gt)) := fun c hc => by
      rcases List.mem_append.mp hc with hc | hc
      · exact List.mem_append_left _ hc
      · refine List.mem_append_right _ ?_
        rcases List.mem_append.mp hc with hc | hc
        · exact List.mem_append_left _ hc
        · exact List.mem_append_right _ (List.mem_append_right _ hc)
    obtain ⟨nR, nG, dRG⟩ := List.nodup_append.mp ndA
    obtain ⟨nG1, nG2, dG⟩ := List.nodup_append.mp nG
    obtain ⟨nGi, nGt, dit⟩ := List.nodup_append.mp nG2
    have apart : ∀ c ∈ R ++ (G1 ++ Gt), c ∉ Gi := fun c hc z => by
      rcases List.mem_append.mp hc with hc | hc
      · exact dRG c hc c (List.mem_append_right _ (List.mem_append_left _ z)) rfl
      · rcases List.mem_append.mp hc with hc | hc
        · exact dG c hc c (List.mem_append_left _ z) rfl
        · exact dit c z c hc rfl
    have S2 := I.sim.putF (x := (.all, ds[n])) hjl I.ej ov nGi (fun c hc => I.sub c (mem2 c hc)) fun c hc => I.dis c (mem2 c hc)
    refine ⟨Z1, _, _, S2, ?_⟩
    cases em : mb (env1.set j (some (.all, ds[n]))) with
    | bad => rw [em] at hg; cases hg
    | exc c fs e => rw [em] at hg; cases hg
    | ok fl e2 =>
      rw [em] at hg
      cases fl with
      | bk => cases hg
      | ct => cases hg
      | rt x => cases hg
      | nx =>
        dsimp only at hg
        cases ej : e2[j]? with
        | none => rw [ej] at hg; cases hg
        | some o =>
          rw [ej] at hg
          cases o with
          | none => cases hg
          | some y =>
            obtain ⟨m, d'⟩ := y
            cases m with
            | shr => cases hg
            | top => cases hg
            | all =>
              dsimp only at hg
              intro σ' H' Z' Fs' q
              -- what is held beside the slots stays
              have hdis : ∀ c ∈ R ++ (G1 ++ Gt), ¬ OF (upF Fs1 j Gi) c := fun c hc z => (OF_upF z).elim (I.dis c (rest c hc)) (apart c hc)
              have so : ∀ c, OF (upF Fs1 j Gi) c → Z1 c := fun c h => S2.subO h
              obtain ⟨v', e1, oj⟩ := q.sim.rep j _ ej
              have ejv : σ'[j]? = (σ1.set j (some v))[j]? := q.kp j (List.mem_cons_self ..)
              rw [List.getElem?_set_self (by rw [← I.sim.len]; exact hjl)] at ejv
              rw [ejv] at e1
              cases e1
              have dom1 : ∀ c ∈ R ++ (G1 ++ Gt), H1 c ≠ none := fun c hc => I.sim.zdom c (I.sub c (rest c hc))
              have nO' : ∀ c ∈ R ++ (G1 ++ Gt), ¬ OF Fs' c := fun c hc z => (q.st.own c (.inl z)).elim (hdis c hc) (dom1 c hc)
              have take_of : ∀ {c}, OF (fun q => if q = j then [] else Fs' q) c → OF Fs' c ∧ c ∉ Fs' j := fun {c} ⟨k, hk⟩ => by
                dsimp only at hk
                split at hk
                · cases hk
                · rename_i hkj
                  exact ⟨⟨k, hk⟩, fun z => hkj (q.sim.dis k j c hk z)⟩
              have memN : ∀ {c}, c ∈ R ++ ((G1 ++ Fs' j) ++ Gt) → c ∈ R ++ (G1 ++ Gt) ∨ c ∈ Fs' j := fun {c} hc => by
                rcases List.mem_append.mp hc with hc | hc
                · exact .inl (List.mem_append_left _ hc)
                · rcases List.mem_append.mp hc with hc | hc
                  · rcases List.mem_append.mp hc with hc | hc
                    · exact .inl (List.mem_append_right _ (List.mem_append_left _ hc))
                    · exact .inr hc
                  · exact .inl (List.mem_append_right _ (List.mem_append_right _ hc))
              have stA : Step W H Z Fs H1 Z1 (upF Fs1 j Gi) (R ++ (G1 ++ Gt)) := ⟨I.st.fr, I.st.zin, I.st.zkeep, fun c h => by
                rcases h with h | h
                · rcases OF_upF h with h | h
                  · exact I.st.own c (.inl h)
                  · exact I.st.own c (.inr (mem2 c h))
                · exact I.st.own c (.inr (rest c h))⟩
              have stB := stA.seq zd q.st
              have oJ : Owns W H' (fun a => ¬ Z' a) .all [v] [d'] (Fs' j) := by
                have := Owns.cons oj (.nil (m := .all))
                simpa using this
              have o1' := Owns.app oJ (Owns.laterF so I.o1 (fun c hc => hdis c (List.mem_append_right _ (List.mem_append_left _ hc))) q.st)
              rw [← ev, ← List.take_succ_eq_append_getElem hn] at o1'
              refine hN σ' H' Z' (e2.set j none) _ (acc ++ [d']) (G1 ++ Fs' j) Gt ⟨⟨stB.fr, stB.zin, stB.zkeep, fun c h => ?_⟩, q.sim.take j, fun k hk => ?_, ?_, o1', Owns.laterF so ot (fun c hc => hdis c (List.mem_append_right _ (List.mem_append_right _ hc))) q.st, ?_, fun c hc => ?_, fun c hc z => ?_, ?_, ?_⟩ hg
              · rcases h with h | h
                · exact stB.own c (.inl (take_of h).1)
                · rcases memN h with h | h
                  · exact stB.own c (.inr (by rw [List.append_nil]; exact h))
                  · exact stB.own c (.inl ⟨j, h⟩)
              · have hkj : k ≠ j := fun z => by
                  rw [z] at hk
                  rcases List.mem_cons.mp hk with h | h
                  · exact hij h.symm
                  · exact hjm h
                rw [q.kp k (List.mem_cons_of_mem _ hk), List.getElem?_set_ne (Ne.symm hkj)]
                exact I.kp k hk
              · exact q.st.fr.keep a O I.hd (hR.imp (fun h => hdis a (List.mem_append_left _ h)) id) hO
              · refine List.nodup_append.mpr ⟨nR, List.nodup_append.mpr ⟨List.nodup_append.mpr ⟨nG1, q.sim.nd j, fun x hx y hy e => ?_⟩, nGt, fun x hx y hy e => ?_⟩, fun x hx y hy e => ?_⟩
                · exact nO' x (List.mem_append_right _ (List.mem_append_left _ hx)) ⟨j, e ▸ hy⟩
                · rcases List.mem_append.mp hx with hx | hx
                  · exact dG x hx y (List.mem_append_right _ hy) e
                  · exact nO' y (List.mem_append_right _ (List.mem_append_right _ hy)) ⟨j, e ▸ hx⟩
                · rcases List.mem_append.mp hy with hy | hy
                  · rcases List.mem_append.mp hy with hy | hy
                    · exact dRG x hx y (List.mem_append_left _ hy) e
                    · exact nO' x (List.mem_append_left _ hx) ⟨j, e ▸ hy⟩
                  · exact dRG x hx y (List.mem_append_right _ (List.mem_append_right _ hy)) e
              · rcases memN hc with h | h
                · exact q.st.zkeep c (I.sub c (rest c h)) (hdis c h)
                · exact q.sim.sub j c h
              · obtain ⟨z1, z2⟩ := take_of z
                rcases memN hc with h | h
                · exact nO' c h z1
                · exact z2 h
              · exact List.getElem?_set_self (by rw [q.sim.len]; exact (List.getElem?_eq_some_iff.mp ejv).1)
              · have h1 : σ'.length = e2.length := q.sim.len.symm
                have h2 : i < σ.length ∨ True := .inr trivial
                rw [List.length_set, q.sim.len]
                have := q.kp i (List.mem_cons_of_mem _ (List.mem_cons_self ..))
                rw [List.getElem?_set_ne (Ne.symm hij)] at this
                have hi1 : i < σ1.length := by rw [← I.sim.len]; exact I.ei
                rw [List.getElem?_eq_getElem hi1] at this
                exact (List.getElem?_eq_some_iff.mp this).1
end
end BV
set_option maxHeartbeats 2000000
/-! BV47: the rule of such a loop. -/
namespace BV
open PySem PySem.Spec PyProof.Rows L2 LamX

section
variable {W : Wd} {w : WX} {mp : List Nat} {σ : L2.St} {H : Hp} {Z : Addr → Prop} {Fs : Nat → List Addr} {env : Env} {i j : Nat} {v : V}
theorem Own.tupA_inv {P : Addr → Prop} {F : List Addr} {ds : List D} (o : Own W H P .all v (.tup ds) F) : ∃ a ws, v = .ref a ∧ H a = some (.tup ws) ∧ Owns W H P .all ws ds F := by
  cases o with
  | tup e h => exact ⟨_, _, rfl, e, h⟩
/-- ahead of the first turn -/
theorem LendI.start {a : Addr} {O : HO} {R : List Addr} {ws : List V} {ds : List D} {G : List Addr} (S : Sim W H Z σ env Fs) (hi : i < env.length) (hj : j < env.length) (hij : i ≠ j) (hd : H a = some O) (hF : Fs i = R ++ G) (o : Owns W H (fun a => ¬ Z a) .all ws ds G) :
    LendI W mp i j a O R ws ds σ H Z Fs 0 σ H Z ((env.set i none).set j none) (fun q => if q = j then [] else if q = i then [] else Fs q) [] [] G := by
  have S1 := (S.take i).take j
  have ni := S.nd i
  rw [hF] at ni
  have own : ∀ {c}, OF (fun q => if q = j then [] else if q = i then [] else Fs q) c → OF Fs c ∧ c ∉ Fs i := fun {c} ⟨q, hq⟩ => by
    dsimp only at hq
    split at hq
    · cases hq
    · split at hq
      · cases hq
      · rename_i hqi
        exact ⟨⟨q, hq⟩, fun z => hqi (S.dis q i c hq z)⟩
  have inF : ∀ {c}, c ∈ R ++ ([] ++ G) → c ∈ Fs i := fun {c} hc => by rw [hF]; simpa using hc
  refine ⟨⟨Fr.refl, fun _ z => .inl z, fun _ z _ => z, fun c h => .inl (h.elim (fun z => (own z).1) fun z => ⟨i, inF z⟩)⟩, S1, fun _ _ => rfl, hd, .nil, by simpa using o, by simpa using ni, fun c hc => S.sub i c (inF hc), fun c hc z => (own z).2 (inF hc), ?_, ?_⟩
  · exact List.getElem?_set_self (by rw [List.length_set]; exact hj)
  · rw [List.length_set, List.length_set]; exact hi
/-- behind the last one -/
theorem LendI.stop {a : Addr} {O : HO} {R : List Addr} {ws : List V} {ds : List D} {σ' : L2.St} {H' : Hp} {Z' : Addr → Prop} {env' : Env} {Fs' : Nat → List Addr} {acc : List D} {G1 G2 : List Addr} {n : Nat} {x : Val} (zd : ∀ c, Z c → H c ≠ none)
    (I : LendI W mp i j a O R ws ds σ H Z Fs n σ' H' Z' env' Fs' acc G1 G2) (hn : ws.length ≤ n) (hσ : σ[i]? = some (some (.ref a))) (hx : Own W H' (fun a => ¬ Z' a) .all (.ref a) x.2 (R ++ G1)) (hm : x.1 = .all) : ∃ Fs2, PostS W mp σ H Z Fs σ' H' Z' (env'.set i (some x)) Fs2 := by
  have S1 := I.sim.take i
  have hi' : σ'[i]? = some (some (.ref a)) := by rw [I.kp i (List.mem_cons_self ..)]; exact hσ
  have mem : ∀ {c}, c ∈ R ++ G1 → c ∈ R ++ (G1 ++ G2) := fun {c} hc => by
    rcases List.mem_append.mp hc with h | h
    · exact List.mem_append_left _ h
    · exact List.mem_append_right _ (List.mem_append_left _ h)
  have nd : (R ++ G1).Nodup := by
    have := I.nd
    rw [← List.append_assoc] at this
    exact (List.nodup_append.mp this).1
  have tk : ∀ {c}, OF (fun q => if q = i then [] else Fs' q) c → OF Fs' c := fun {c} ⟨q, hq⟩ => by
    dsimp only at hq
    split at hq
    · cases hq
    · exact ⟨q, hq⟩
  have S2 := S1.putF (i := i) (x := x) (v := .ref a) (F := R ++ G1) (by rw [List.length_set]; exact I.ei) (List.getElem?_set_self I.ei) (by rw [hm]; exact hx) nd (fun c hc => I.sub c (mem hc)) fun c hc z => I.dis c (mem hc) (tk z)
  have e1 : σ'.set i (some (.ref a)) = σ' := by
    apply List.ext_getElem?
    intro q
    by_cases hq : q = i
    · rw [hq, List.getElem?_set_self (List.getElem?_eq_some_iff.mp hi').1, hi']
    · rw [List.getElem?_set_ne (Ne.symm hq)]
  rw [e1, List.set_set] at S2
  refine ⟨_, ⟨I.st.fr, I.st.zin, I.st.zkeep, fun c h => ?_⟩, S2, zd, fun q hq => I.kp q (List.mem_cons_of_mem _ hq)⟩
  rcases h with h | h
  · rcases OF_upF h with h | h
    · exact I.st.own c (.inl (tk h))
    · exact I.st.own c (.inr (mem h))
  · cases h
end
section
variable {X : Cx} {W : Wd} {mp : List Nat} {i j : Nat} {x y : Str} {p1 p2 pos : Pos} {body : List Stmt} {mb : M Fl}
theorem gs_forLend (hp : PassesOwn (model X.prog X.w) X.A X.env X.xe) (hc : X.calm = true) (ny : Nm X i y) (nx : NmS X j x) (hij : i ≠ j) (hjm : j ∉ mp) (hb : GB X W (j :: i :: mp) body mb) (hs : ∀ v, foldedSetIterable (.Name y p2) X.env v = pure v) : GS X W mp (.For (.Name x p1) (.Name y p2) body [] pos) (mForLend i j mb) := fun w tk => by
  refine ps_imp (ps_for hp hc (pi_seq (pe_var ny.hN ny.hv ny.hd ny.hcd)) (pg_name nx.nd nx.hN nx.loc nx.fn) (hb w tk) hs) fun D σ H h => ?_
  obtain ⟨Z, env, Fs, S, h⟩ := h
  unfold mForLend at h
  cases ei : env[i]? with
  | none => rw [ei] at h; exact h.elim
  | some o =>
    rw [ei] at h
    cases o with
    | none => exact h.elim
    | some yv =>
      obtain ⟨m, d⟩ := yv
      have hi : i < env.length := (List.getElem?_eq_some_iff.mp ei).1
      obtain ⟨v, hσ, o⟩ := S.rep i _ ei
      cases m <;> cases d <;> try exact h.elim
      · rename_i ds
        dsimp only at h
        by_cases hj : j < env.length
        case neg => rw [if_neg hj] at h; exact h.elim
        rw [if_pos hj] at h
        obtain ⟨a, ws, rfl, ha, ow⟩ := o.tupA_inv
        cases eg : lendGo j mb ds [] ((env.set i none).set j none) with
        | none => rw [eg] at h; exact h.elim
        | some res =>
          rw [eg] at h
          have I0 := LendI.start (mp := mp) (R := []) S hi hj hij ha rfl ow
          have hl := ow.length
          refine ⟨.ref a, hσ, .inr (.inl ⟨a, ws, rfl, ha, ⟨fun n m σ' H' => m = ds.length - n ∧ n ≤ ds.length ∧ ∃ Z' env' Fs' acc G1 G2, LendI W mp i j a (.tup ws) [] ws ds σ H Z Fs n σ' H' Z' env' Fs' acc G1 G2 ∧ lendGo j mb (ds.drop n) acc env' = some res, ⟨ds.length, by simp, Nat.zero_le _, _, _, _, _, _, _, I0, eg⟩, ?_⟩⟩)⟩
          rintro n m σ' H' ⟨rfl, hle, Z', env', Fs', acc, G1, G2, I, hg⟩
          by_cases hlt : n < ds.length
          · refine .inr ⟨⟨ws, ws[n], I.hd, List.getElem?_eq_getElem (by omega)⟩, fun σ2 H2 => ∃ Z' env' Fs' acc G1 G2, LendI W mp i j a (.tup ws) [] ws ds σ H Z Fs (n + 1) σ2 H2 Z' env' Fs' acc G1 G2 ∧ lendGo j mb (ds.drop (n + 1)) acc env' = some res, fun σ2 H2 k => ⟨ds.length - (n + 1), by omega, rfl, hlt, k⟩, fun xv H3 yl => ?_⟩
            obtain ⟨rfl, yv⟩ := yl
            exact LendI.turn (O := .tup ws) (R := []) S.zdom (fun z => z) (.inr trivial) hij hjm (fun c hc => by cases hc) I hlt hg hl (fun σ2 H2 Z2 env2 Fs2 acc2 g1 g2 I2 hg2 => ⟨_, _, _, _, _, _, I2, hg2⟩) (yv ws I.hd)
          · have e : n = ds.length := by omega
            subst e
            rw [List.drop_length] at hg
            simp only [lendGo, Option.some.injEq] at hg
            subst hg
            have o1 := I.o1
            rw [List.take_of_length_le (by omega)] at o1
            obtain ⟨Fs2, q⟩ := I.stop (x := (.all, .tup acc)) S.zdom (by omega) hσ (.tup I.hd o1) rfl
            exact .inl ⟨⟨ws, I.hd, by omega⟩, h _ _ _ _ q⟩
      · rename_i ds
        dsimp only at h
        by_cases hj : j < env.length
        case neg => rw [if_neg hj] at h; exact h.elim
        rw [if_pos hj] at h
        obtain ⟨a, ws, G, rfl, hF, ha, ow⟩ := o.lstA_inv
        cases eg : lendGo j mb ds [] ((env.set i none).set j none) with
        | none => rw [eg] at h; exact h.elim
        | some res =>
          rw [eg] at h
          have I0 := LendI.start (mp := mp) (R := [a]) S hi hj hij ha hF ow
          have hl := ow.length
          refine ⟨.ref a, hσ, .inl ⟨a, ws, rfl, ha, ⟨fun n m σ' H' => m = ds.length - n ∧ n ≤ ds.length ∧ ∃ Z' env' Fs' acc G1 G2, LendI W mp i j a (.lst ws) [a] ws ds σ H Z Fs n σ' H' Z' env' Fs' acc G1 G2 ∧ lendGo j mb (ds.drop n) acc env' = some res, ⟨ds.length, by simp, Nat.zero_le _, _, _, _, _, _, _, I0, eg⟩, ?_⟩⟩⟩
          rintro n m σ' H' ⟨rfl, hle, Z', env', Fs', acc, G1, G2, I, hg⟩
          by_cases hlt : n < ds.length
          · refine .inr ⟨⟨ws, ws[n], I.hd, List.getElem?_eq_getElem (by omega)⟩, fun σ2 H2 => ∃ Z' env' Fs' acc G1 G2, LendI W mp i j a (.lst ws) [a] ws ds σ H Z Fs (n + 1) σ2 H2 Z' env' Fs' acc G1 G2 ∧ lendGo j mb (ds.drop (n + 1)) acc env' = some res, fun σ2 H2 k => ⟨ds.length - (n + 1), by omega, rfl, hlt, k⟩, fun xv H3 yl => ?_⟩
            obtain ⟨rfl, yv⟩ := yl
            exact LendI.turn (O := .lst ws) (R := [a]) S.zdom (fun z => z) (.inl (List.mem_cons_self ..)) hij hjm (fun c hc => by simpa using hc) I hlt hg hl (fun σ2 H2 Z2 env2 Fs2 acc2 g1 g2 I2 hg2 => ⟨_, _, _, _, _, _, I2, hg2⟩) (yv ws I.hd)
          · have e : n = ds.length := by omega
            subst e
            rw [List.drop_length] at hg
            simp only [lendGo, Option.some.injEq] at hg
            subst hg
            have o1 := I.o1
            rw [List.take_of_length_le (by omega)] at o1
            obtain ⟨Fs2, q⟩ := I.stop (x := (.all, .lst acc)) S.zdom (by omega) hσ (.lstO (fun z => nomatch z) I.hd o1) rfl
            exact .inl ⟨⟨ws, I.hd, by omega⟩, h _ _ _ _ q⟩
end
section
variable {P : Program} {pw : World} {W : Wd} {base : Heap} {N : List Str} {sc : Scope} {k : Nat} {X : Cx} {mp : List Nat} {i j : Nat} {x y : Str} {p1 p2 pos : Pos} {body : List Stmt} {mb : M Fl}
theorem gf_forLend (B : BF P pw W base N sc k X) (ny : Nm X i y) (nx : NmS X j x) (hij : i ≠ j) (hjm : j ∉ mp) (hb : GB X W (j :: i :: mp) body mb) (hs : ∀ v, foldedSetIterable (.Name y p2) X.env v = pure v := by exact fun _ => rfl) : GS X W mp (.For (.Name x p1) (.Name y p2) body [] pos) (mForLend i j mb) := gs_forLend B.po B.calm ny nx hij hjm hb hs
end
end BV
set_option maxHeartbeats 2000000
/-! BV48: a def called by a name that holds it; the refusal with the very object. -/
namespace BV
open PySem PySem.Spec PyProof.Rows L2 LamX

abbrev GloT := Str → Option (Nat × (List Val → CO))
def gloAt (env : Env) (i : Nat) : Option Str := match env[i]? with
  | some (some (_, .glo x)) => some x
  | _ => none
theorem gloAt_some {env : Env} {i : Nat} {x : Str} (h : gloAt env i = some x) : ∃ m, env[i]? = some (some (m, .glo x)) := by
  unfold gloAt at h
  split at h
  · rename_i m y e
    cases h
    exact ⟨m, e⟩
  · cases h
/-- the def in slot i is called -/
def mCallGlo (tbl : GloT) (i : Nat) (ma : M (List Val)) : M Val := fun env => match (gloAt env i).bind tbl with
  | some ng => (ma env).bind fun xs => mCallNF [] ng.1 ng.2 (xs.map AV.v)
  | none => .bad
section
variable {W : Wd} {H : Hp} {P : Addr → Prop} {σ : L2.St}
theorem Own.glo_inv {m : Mode} {v : V} {x : Str} {F : List Addr} (o : Own W H P m v (.glo x) F) : ∃ f, W.mg x = some (.ref f) ∧ v = .ref f := by
  cases o with
  | glo h => exact ⟨_, h, rfl⟩
theorem Own.pin_inv {m : Mode} {v : V} {F : List Addr} (o : Own W H P m v .pin F) : ∃ a, W.pin = some a ∧ v = .ref a := by
  cases o with
  | pin _ e _ => exact ⟨_, e, rfl⟩
theorem Owns.nil_inv {m : Mode} {vs : List V} {F : List Addr} (o : Owns W H P m vs [] F) : vs = [] ∧ F = [] := by
  cases o
  exact ⟨rfl, rfl⟩
theorem OwnL.toA : ∀ {xs : List Val} {vs : List V} {F : List Addr}, OwnL W H P xs vs F → OwnA W H P σ (xs.map AV.v) vs F
  | _, _, _, .nil => .nil
  | _, _, _, .cons h t => .val h (OwnL.toA t)
end
section
variable {P : Program} {pw : World} {W0 W : Wd} {base : Heap} {N : List Str} {sc : Scope} {k : Nat} {X : Cx} {tbl : GloT} {i : Nat} {a : Str} {p1 p2 : Pos} {e : Expr} {es : List Expr} {ma : M (List Val)}
theorem ge_callGlo (hl : W0.Like W) (B : BF P pw W base N sc k X) (hT : ∀ x n g, tbl x = some (n, g) → ∃ j f fd ps, Cal cvF P pw W0 base j x ps n g f fd ∧ j ≤ k) (n : Nm X i a) (ha : GA X W (e :: es) ma)
    (he : starEach (e :: es) X.env = (false, eval e X.env) :: starEach es X.env := by rfl) (hpl : (backTo p2 (starEach es X.env)).any (·.1) = false := by rfl) : GE X W (.Call (.Name a p1) (e :: es) [] p2) (mCallGlo tbl i ma) := fun w tk => by
  refine ⟨fun pins s σ H Q I h => ?_⟩
  obtain ⟨Z, env, Fs, S, h⟩ := h
  unfold mCallGlo at h
  cases eg : gloAt env i with
  | none => rw [eg] at h; exact h.elim
  | some x =>
    rw [eg] at h
    cases et : tbl x with
    | none => rw [Option.bind, et] at h; exact h.elim
    | some ng =>
      rw [Option.bind, et] at h
      obtain ⟨nn, g⟩ := ng
      obtain ⟨m, e0⟩ := gloAt_some eg
      obtain ⟨v, e1, o⟩ := S.rep i _ e0
      obtain ⟨j, f, fd, ps, C, hj⟩ := hT x nn g et
      have ev : v = .ref f := by
        obtain ⟨f', hm, rfl⟩ := Own.glo_inv o
        rw [hl.mg, C.mg] at hm
        cases hm
        rfl
      subst ev
      refine wpAny_Call_Name_kw (thn ((pe_var (pos := p1) (i := i) n.hN n.hv n.hd n.hcd).run pins s σ H (fun v H1 => v = .ref f ∧ H1 = H) I ⟨.ref f, e1, rfl, rfl⟩) fun u s1 ⟨v, H1, I1, r1, q1⟩ => ?_)
      obtain ⟨ev, eH⟩ := q1
      subst ev
      rw [eH] at I1
      obtain rfl : u = Value.ref f := r1
      have hv : rdA W w ma σ H fun vs H1 => spD W.noCl nn g vs H1 Q (WE w σ) := by
        refine ⟨Z, env, Fs, S, ?_⟩
        have h : Fin W w σ H Z Fs ((ma env).bind fun xs => mCallNF [] nn g (xs.map AV.v)) Q := h
        cases ea : ma env with
        | ok xs env1 =>
          rw [ea] at h
          exact fun H1 Z1 Fs1 vs F p => PostA.promiseN ⟨p.st, p.sim, p.own.toA, p.nd, p.sub, p.dis, p.zd⟩ h
        | exc c fs e1 => rw [ea] at h; exact h
        | bad => rw [ea] at h; exact h
      refine PySem.W.callWith_K (h₀ := X.base) I1.ok.mod.kin (by rw [B.K, hl.K]; exact C.kp) (thn ((ha w tk).run p2 pins s1 σ H _ I1 hv) fun us s2 ⟨vs, H2, I2, r, q⟩ => ⟨I2.kIn, ?_⟩) he hpl
      exact run_fnS (E := WE w) (B.fn hl C.F) (B.room.mono hj) (by rw [B.K, hl.K]; exact C.bd) .nil (passAt tk σ) I2 r ⟨W.noCl, hl.trans Wd.noCl_like, fun _ _ _ _ z => z.elim, by rw [List.append_nil]; exact q⟩
end

/-! ### the very object -/
def unpin1 (l : D) : D → Option D
  | .pin => some l
  | d => if d.imm then some d else none
def unpins (l : D) : List D → Option (List D)
  | [] => some []
  | d :: ds => match unpin1 l d, unpins l ds with
    | some e, some es => some (e :: es)
    | _, _ => none
/-- slots: 0 a word, 1 a def, 2 the list, 3 what is told -/
def mVery (z : Str) (m2 m4 : M Fl) : M Fl := fun env => match env with
  | [some x0, some x1, some (.all, .lst [.str a]), none] => if x0.2.imm = true ∧ x1.2.imm = true then (match m2 [some x0, some x1, some (.shr, .pin), none] with
    | .ok .nx [some y0, some y1, some (.shr, .pin), some (_, .tup ds)] => if y0.2.imm = true ∧ y1.2.imm = true then (match unpins (.lst [.str a, .str z]) ds with
      | some es => m4 [some (.all, y0.2), some (.all, y1.2), some (.shr, .lst [.str a, .str z]), some (.shr, .tup es)]
      | none => .bad) else .bad
    | _ => .bad) else .bad
  | _ => .bad
def Wd.withPin (W : Wd) (a : Addr) : Wd := { W with pin := some a }
theorem Wd.withPin_like {W : Wd} {a : Addr} : W.Like (W.withPin a) := ⟨rfl, rfl, rfl⟩
section
variable {W : Wd} {H H' : Hp} {P P' : Addr → Prop}
mutual
/-- a plain value in whatever world of the program -/
theorem Own.immW {W' : Wd} (l : W.Like W') : ∀ {m v d F}, Own W H P m v d F → d.imm = true → (∀ a o, H a = some o → Fixed o → H' a = some o) → ∀ m', Own W' H' P' m' v d []
  | _, _, _, _, .non, _, _, _ => .non
  | _, _, _, _, .bl b, _, _, _ => .bl b
  | _, _, _, _, .int i, _, _, _ => .int i
  | _, _, _, _, .str x, _, _, _ => .str x
  | _, _, _, _, .ty n, _, _, _ => .ty n
  | _, _, _, _, .glo e, _, _, _ => .glo (by rw [l.mg]; exact e)
  | _, _, _, _, .tup e h, i, k, _ => .tup (k _ _ e trivial) (Owns.immW l h (by simpa only [D.imm] using i) k _)
  | _, _, _, _, .lstS .., i, _, _ => by simp [D.imm] at i
  | _, _, _, _, .lstO .., i, _, _ => by simp [D.imm] at i
  | _, _, _, _, .dKS .., i, _, _ => by simp [D.imm] at i
  | _, _, _, _, .dKO .., i, _, _ => by simp [D.imm] at i
  | _, _, _, _, .dTS .., i, _, _ => by simp [D.imm] at i
  | _, _, _, _, .dTO .., i, _, _ => by simp [D.imm] at i
  | _, _, _, _, .insS .., i, _, _ => by simp [D.imm] at i
  | _, _, _, _, .insO .., i, _, _ => by simp [D.imm] at i
  | _, _, _, _, .scr e, _, k, _ => .scr (ScrAt.world l.K (e.elim (fun ⟨o, e⟩ => .inl ⟨o, k _ _ e trivial⟩) .inr))
  | _, _, _, _, .pin .., i, _, _ => by simp [D.imm] at i
  | _, _, _, _, .clo .., i, _, _ => by simp [D.imm] at i
theorem Owns.immW {W' : Wd} (l : W.Like W') : ∀ {m vs ds F}, Owns W H P m vs ds F → immAll ds = true → (∀ a o, H a = some o → Fixed o → H' a = some o) → ∀ m', Owns W' H' P' m' vs ds []
  | _, _, _, _, .nil, _, _, _ => .nil
  | _, _, _, _, .cons h t, i, k, m' => by
    simp only [immAll, Bool.and_eq_true] at i
    exact .cons (F := []) (Own.immW l h i.1 k m') (Owns.immW l t i.2 k m')
end
theorem owns_unpin {W1 : Wd} {a : Addr} {l : D} (hl : W1.Like W) (hp : W1.pin = some a) (k : ∀ b o, H b = some o → Fixed o → H' b = some o) (hlist : Own W H' P' .shr (.ref a) l []) : ∀ {ds es : List D} {m : Mode} {vs : List V} {F : List Addr}, unpins l ds = some es → Owns W1 H P m vs ds F → Owns W H' P' .shr vs es []
  | [], es, m, vs, F, e, o => by
    simp only [unpins, Option.some.injEq] at e
    subst e
    obtain ⟨rfl, rfl⟩ := o.nil_inv
    exact .nil
  | d :: ds, es, m, vs, F, e, o => by
    simp only [unpins] at e
    split at e
    · rename_i e1 er h1 hr
      cases e
      obtain ⟨v, vr, F1, F2, rfl, rfl, oo, t⟩ := o.consD
      refine .cons (F := []) ?_ (owns_unpin hl hp k hlist hr t)
      by_cases hd : d = .pin
      · subst hd
        simp only [unpin1, Option.some.injEq] at h1
        subst h1
        obtain ⟨b, e, rfl⟩ := oo.pin_inv
        rw [hp] at e
        cases e
        exact hlist
      · have : (if d.imm then some d else none) = some e1 := by
          cases d <;> first | exact absurd rfl hd | exact h1
        split at this
        · rename_i im
          cases this
          exact oo.immW hl im k _
        · cases this
    · cases e
end
section
variable {cv : CV} {P : Program} {pw : World} {W : Wd} {base : Heap} {N : List Str} {sc : Scope} {k : Nat} {X : Cx} {mp : List Nat} {x : Str} {z : Str} {p1 p2 p3 p4 apos cpos epos : Pos} {k1 : Nat} {st2 : Stmt} {rest : List Stmt} {m2 m4 : M Fl}
theorem gb_very (B : BF P pw W base N sc k X) (n2 : Nm X 2 x) (hmp : mp = []) (h2 : ∀ W1, W.Like W1 → (∀ k f ws H, W1.cl k f ws H ↔ W.cl k f ws H) → (∀ k is f H, W1.lm k is f H ↔ W.lm k is f H) → GS X W1 [2] st2 m2) (h4 : GB X W mp rest m4)
    (hbase : attributeBase (.Name x p1) "append" X.env (eval (.Name x p1) X.env) = eval (.Name x p1) X.env := by rfl) (hline : (apos.endLine == cpos.line) = true := by rfl) (hsw : swapsWith (.Call (.Attribute (.Name x p1) "append" apos) [.Constant (.str z) k1 p3] [] cpos) none epos.line X.env = pure false := by rfl) :
    GB X W mp (st2 :: .Expr (.Call (.Attribute (.Name x p1) "append" apos) [.Constant (.str z) k1 p3] [] cpos) epos :: rest) (mVery z m2 m4) := fun w tk => by
  have p2 : PS X st2 (fun E σ H => ∃ W1, (W.Like W1 ∧ (∀ k f ws H, W1.cl k f ws H ↔ W.cl k f ws H) ∧ (∀ k is f H, W1.lm k is f H ↔ W.lm k is f H)) ∧ rdS W1 w [2] m2 E σ H) := ⟨fun pins s σ H E I ⟨W1, ⟨g1, g2, g3⟩, h⟩ => (h2 W1 g1 g2 g3 w tk).run pins s σ H E I h⟩
  have p3 := ps_expr (pos := epos) (pe_bm PySem.F.plainAttrs_list PySem.F.slot_list_append PySem.F.type_list_append mt_append (pe_var (pos := p1) n2.hN n2.hv n2.hd n2.hcd) (pa_cons (pe_str (x := z) (j := k1) (pos := p3)) pa_nil) hbase rfl hline rfl rfl) hsw
  refine pss_imp (pss_cons p2 (pss_cons p3 (h4 w tk))) fun E σ H h => ?_
  obtain ⟨Z, env, Fs, S, h⟩ := h
  unfold mVery at h
  split at h
  case h_2 => exact h.elim
  rename_i x0 x1 av
  by_cases c1 : x0.2.imm = true ∧ x1.2.imm = true
  case neg => rw [if_neg c1] at h; exact h.elim
  rw [if_pos c1] at h
  obtain ⟨v, hσ, o⟩ := S.rep 2 _ rfl
  obtain ⟨a, ws, G, rfl, hF, ha, ow⟩ := o.lstA_inv
  have ews : ws = [V.str av] ∧ G = [] := by
    obtain ⟨v0, vr, F1, F2, rfl, rfl, o1, o2⟩ := ow.consD
    have e1 := o1.str_inv
    obtain ⟨e3, _⟩ := o1.of_imm rfl
    obtain ⟨rfl, rfl⟩ := o2.nil_inv
    exact ⟨by rw [e1], by rw [e3]; rfl⟩
  obtain ⟨rfl, rfl⟩ := ews
  have aF : a ∈ Fs 2 := by rw [hF]; exact List.mem_cons_self ..
  have Za : Z a := S.sub 2 a aF
  -- the pinned world
  have S1 : Sim (W.withPin a) H (fun c => Z c ∧ c ≠ a) σ [some x0, some x1, some (.shr, .pin), none] (fun q => if q = 2 then [] else Fs q) := by
    have T := S.take 2
    refine ⟨fun q y e => ?_, fun q hq => ?_, T.dis, T.nd, fun q c hc => ⟨T.sub q c hc, fun z => ?_⟩, fun c hc => S.zdom c hc.1, S.len, S.tabs⟩
    · match q, e with
      | 0, e =>
        cases e
        obtain ⟨v, e1, o⟩ := S.rep 0 _ rfl
        refine ⟨v, e1, ?_⟩
        have e0 := (o.of_imm c1.1).1
        show Own _ _ _ _ _ _ (Fs 0)
        rw [e0]
        exact o.immW (W' := W.withPin a) (H' := H) Wd.withPin_like c1.1 (fun _ _ h _ => h) _
      | 1, e =>
        cases e
        obtain ⟨v, e1, o⟩ := S.rep 1 _ rfl
        refine ⟨v, e1, ?_⟩
        have e0 := (o.of_imm c1.2).1
        show Own _ _ _ _ _ _ (Fs 1)
        rw [e0]
        exact o.immW (W' := W.withPin a) (H' := H) Wd.withPin_like c1.2 (fun _ _ h _ => h) _
      | 2, e =>
        cases e
        exact ⟨_, hσ, .pin (fun z => z.2 rfl) rfl ha⟩
      | 3, e => cases e
      | q + 4, e => simp at e
    · by_cases hq2 : q = 2
      · rw [if_pos hq2]
      · rw [if_neg hq2]
        refine S.off q fun y e => hq y ?_
        match q, e with
        | 0, e => exact e
        | 1, e => exact e
        | 2, _ => exact absurd rfl hq2
        | 3, e => cases e
        | q + 4, e => simp at e
    · subst z
      split at hc
      · cases hc
      · rename_i hq2
        exact hq2 (S.dis q 2 c hc aF)
  refine ⟨W.withPin a, ⟨Wd.withPin_like, fun _ _ _ _ => Iff.rfl, fun _ _ _ _ => Iff.rfl⟩, _, _, _, S1, ?_⟩
  have noA : ¬ OF (fun q => if q = 2 then [] else Fs q) a := fun ⟨q, hq⟩ => by
    dsimp only at hq
    split at hq
    · cases hq
    · rename_i hq2
      exact hq2 (S.dis q 2 a hq aF)
  split at h
  case h_2 => exact h.elim
  rename_i y0 y1 md ds em
  by_cases c2 : y0.2.imm = true ∧ y1.2.imm = true
  case neg => rw [if_neg c2] at h; exact h.elim
  rw [if_pos c2] at h
  cases eu : unpins (.lst [.str av, .str z]) ds with
  | none => rw [eu] at h; exact h.elim
  | some es =>
    rw [eu] at h
    dsimp only at h
    rw [em]
    intro σ2 H2 Z2 Fs2 q
    have hσ2 : σ2[2]? = some (some (.ref a)) := by rw [q.kp 2 (List.mem_cons_self ..)]; exact hσ
    have ha2 : H2 a = some (.lst [V.str av]) := q.st.fr.keep a _ ha (.inl noA) (fun z => z)
    have nZ2 : ¬ Z2 a := fun z => (q.st.zin a z).elim (fun z => z.2 rfl) fun n => by rw [ha] at n; cases n
    refine ⟨_, hσ2, .inl ⟨rfl, _, SqL.of ha2⟩, a, [V.str av], V.str z, rfl, rfl, ha2, small1000 (show 1 ≤ 1000 by decide), ?_⟩
    -- the list is longer now
    have f := Fr.wr (W := W) (o := .lst [V.str av]) (o' := .lst ([V.str av] ++ [V.str z])) ha2 (fun z => z) (fun z => z)
    have kF : ∀ b o, H2 b = some o → Fixed o → (upd H2 a (.lst ([V.str av] ++ [V.str z]))) b = some o := fun b o hb hf => by
      have : b ≠ a := fun e => by rw [e, ha2] at hb; cases hb; exact hf
      rw [upd_ne this]; exact hb
    have hlist : Own W (upd H2 a (.lst ([V.str av] ++ [V.str z]))) (fun c => ¬ Z2 c) .shr (.ref a) (.lst [.str av, .str z]) [] :=
      .lstS nZ2 upd_same (.cons (F := []) (.str av) (.cons (F := []) (.str z) .nil))
    have ofq : ∀ {c}, OF (fun q => if q = 2 then [] else Fs q) c → OF Fs c := fun {c} ⟨q, hq⟩ => by
      dsimp only at hq
      split at hq
      · cases hq
      · exact ⟨q, hq⟩
    have st : Step W H Z Fs (upd H2 a (.lst ([V.str av] ++ [V.str z]))) Z2 (fun _ => []) [] := by
      refine ⟨⟨fun c u h k t => ?_, fun t => f.tabs (q.st.fr.tabs t), fun c h => f.there c (q.st.fr.there c h)⟩, fun c z => (q.st.zin c z).imp (·.1) id, fun c zc n => ?_, fun c h => (h.elim (fun ⟨_, z⟩ => nomatch z) fun z => nomatch z)⟩
      · have hca : c ≠ a := fun e => by
          subst e
          rcases k with k | k
          · exact k ⟨2, aF⟩
          · rw [ha] at h; cases h; exact k
        rw [upd_ne hca]
        exact q.st.fr.keep c u h (k.imp (fun n z => n (ofq z)) id) t
      · exact q.st.zkeep c ⟨zc, fun e => n (e ▸ ⟨2, aF⟩)⟩ fun z => n (ofq z)
    have sim : Sim W (upd H2 a (.lst ([V.str av] ++ [V.str z]))) Z2 σ2 [some (.all, y0.2), some (.all, y1.2), some (.shr, .lst [.str av, .str z]), some (.shr, .tup es)] (fun _ => []) := by
      refine ⟨fun i y e => ?_, fun _ _ => rfl, fun _ _ _ h => (nomatch h), fun _ => List.nodup_nil, fun _ _ h => (nomatch h), fun c zc => f.there c (q.sim.zdom c zc), q.sim.len, f.tabs q.sim.tabs⟩
      match i, e with
      | 0, e =>
        cases e
        obtain ⟨v, e1, o⟩ := q.sim.rep 0 _ rfl
        exact ⟨v, e1, o.immW (Wd.withPin_like (W := W) (a := a)).symm c2.1 kF _⟩
      | 1, e =>
        cases e
        obtain ⟨v, e1, o⟩ := q.sim.rep 1 _ rfl
        exact ⟨v, e1, o.immW (Wd.withPin_like (W := W) (a := a)).symm c2.2 kF _⟩
      | 2, e =>
        cases e
        exact ⟨_, hσ2, hlist⟩
      | 3, e =>
        cases e
        obtain ⟨v, e1, o⟩ := q.sim.rep 3 _ rfl
        refine ⟨v, e1, ?_⟩
        obtain ⟨b, us, rfl, hb, hu⟩ := Own.tup_inv o
        exact .tup (kF _ _ hb trivial) (owns_unpin (Wd.withPin_like (W := W) (a := a)).symm rfl kF hlist eu hu)
      | i + 4, e => simp at e
    have pS : PostS W mp σ H Z Fs σ2 (upd H2 a (.lst ([V.str av] ++ [V.str z]))) Z2 _ (fun _ => []) := ⟨st, sim, S.zdom, fun i hi => by rw [hmp] at hi; cases hi⟩
    exact ⟨Z2, _, _, sim, FinS.go pS h⟩
end
end BV
set_option maxHeartbeats 2000000
/-! BV49: another world of the same body; the law's end. -/
namespace BV
open PySem PySem.Spec PyProof.Rows L2 LamX

theorem DX.world {P : Program} {pw : World} {W W1 : Wd} {base : Heap} {N : List Str} {sc : Scope} {k : Nat} {L : Nat → LamE} {ks : List Nat} {qual : Str} {fa : Addr} {X : Cx} (D : DX cvF P pw W base N sc k L ks qual fa X) (l : W.Like W1) (hc : ∀ k f ws H, W1.cl k f ws H ↔ W.cl k f ws H) (hm : ∀ k is f H, W1.lm k is f H ↔ W.lm k is f H) : DX cvF P pw W1 base N sc k L ks qual fa X :=
  ⟨⟨D.prog, D.w, D.K.trans l.K.symm, D.mg.trans l.mg.symm, D.base, D.N, D.sc, D.calm, D.room, D.stk, D.frm, D.ex, D.po, fun k f ws H' h => D.cls k f ws H' ((hc _ _ _ _).mp h)⟩, D.fn, D.qual, by rw [l.K]; exact D.code, fun k is f H => (hm k is f H).trans (D.lam k is f H)⟩
/-- a world by its written part, its names, its code tables: no closures, nothing pinned -/
def Wd.mk0 (K : PySem.W.Frag) (mg : Str → Option Value) (T : List (Addr × Str)) : Wd where
  K := K
  mg := mg
  cl := fun _ _ _ _ => False
  T := T
  pin := none
  lm := fun _ _ _ _ => False
  lmS := fun _ _ _ _ _ h _ => h
  clS := fun _ _ _ _ _ h _ => h
theorem cal_fnOk {P : Program} {pw : World} {W : Wd} {base : Heap} {j n : Nat} {x : Str} {ps : List Str} {g : List Val → CO} {f : Addr} {fd : FuncData} (hn : ps.length = n) (hno : ∀ k f ws H', ¬ W.cl k f ws H') (C : Cal cvF P pw W base j x ps n g f fd) : FnOk P pw W.K W.mg base (L2.CX P pw) j f fd ps (spD W n g) :=
  ⟨fun vs H Q E ⟨_, _, _, h, _⟩ => by rw [h, hn], fun A outer s H args us vs Q E hr e0 hb r h => C.F.run A outer s H args us vs Q E hr e0 hb r ⟨W, .refl, fun k f ws H' z => hno k f ws H' z, h⟩⟩
/-- the law's script as it comes in: read, or a list -/
def scrArgs (ns : List Int) (x : Val) : Prop := x = (.all, .scr ns) ∨ x = (.shr, .lst (ns.map .int))
theorem law_sp {W : Wd} {g : List Val → CO} {H : Hp} {a : Addr} {ns : List Int} (hT : Tabs W.T H) (hS : SqL W.K H a (ns.map V.int)) (hg : ∀ x, scrArgs ns x → ∃ m back, g [x] = .ok (m, .bl true) back) : spD W 1 g [.ref a] H (fun v _ => v = .bl true) (fun _ _ _ => False) := by
  have key : ∀ x : Val, scrArgs ns x → Own W H (fun _ => True) x.1 (.ref a) x.2 [] → spD W 1 g [.ref a] H (fun v _ => v = .bl true) (fun _ _ _ => False) := fun x hx o => by
    refine ⟨fun _ => False, [x], fun _ => [], rfl, rfl, ⟨fun i y e => ?_, fun _ _ => rfl, fun _ _ _ h => (nomatch h), fun _ => List.nodup_nil, fun _ _ h => (nomatch h), fun _ h => h.elim, rfl, hT⟩, ?_⟩
    · match i, e with
      | 0, e => cases e; exact ⟨_, rfl, Own.weak (fun _ _ _ z => z) o⟩
      | i + 1, e => simp at e
    · obtain ⟨m, back, e⟩ := hg x hx
      rw [e]
      intro H' Z' Fp' v Fx q
      exact q.pd.own.bl_inv
  have lst : H a = some (.lst (ns.map V.int)) → spD W 1 g [.ref a] H (fun v _ => v = .bl true) (fun _ _ _ => False) := fun h =>
    key (.shr, .lst (ns.map .int)) (.inr rfl) (.lstS trivial h (by
      have : ∀ l : List Int, Owns W H (fun _ => True) .shr (l.map V.int) (l.map D.int) [] := fun l => by
        induction l with
        | nil => exact .nil
        | cons i l ih => exact .cons (F := []) (.int i) ih
      exact this ns))
  rcases hS with (h | h) | h
  · exact lst h
  · exact key (.all, .scr ns) (.inl rfl) (.scr (.inl h))
  · exact key (.all, .scr ns) (.inl rfl) (.scr (.inr fun _ => .inr h))
end BV
set_option maxHeartbeats 2000000
/-! BV50: how keywords bind; the law's end out of the head's facts. -/
namespace BV
open PySem PySem.Spec PyProof.Rows L2 LamX

theorem kb_of {K : PySem.W.Frag} {x qual : Str} {params : Arguments} {body : List Stmt} {scope : Scope} {kws : List (Str × V)} {f : Addr} {fd : FuncData} {ps ks : List Str} {n1 : Nat} {is : List Nat}
    (F : FunD K x qual params body scope [] kws f fd)
    (h : ∀ (kV doc pm : Value) (an : Option Addr) (cdv ct : Value) (us ws : List Value), us.length = n1 → ws.length = ks.length → bindArgs (PySem.W.fnOf x qual params body scope .none kV doc pm an cdv ct) ⟨us, ks.zip ws⟩ = pure (ps.zip (permL is (us ++ ws)))) : KB K fd ps ks n1 is := by
  obtain ⟨oc, od, dV, kV, doc, pm, an, cdv, ct, osl, rfl, lk, hcd, hD, hK⟩ := F.ex
  rcases hD with ⟨_, rfl⟩ | ⟨e, _⟩
  · exact ⟨fun s us ws _ l1 l2 => .of_eq (h kV doc pm an cdv ct us ws l1 l2)⟩
  · exact absurd rfl e
theorem tab_one {l : List (Addr × Str)} (hn : (l.map (·.1)).Nodup) {q : Addr × Str} (hq : q ∈ l) : ∀ p ∈ l, p.1 = q.1 → p.2 = q.2 := by
  induction l with
  | nil => cases hq
  | cons y l ih =>
    rw [List.map_cons, List.nodup_cons] at hn
    intro p hp e
    rcases List.mem_cons.mp hq with rfl | hq1
    · rcases List.mem_cons.mp hp with rfl | hp1
      · rfl
      · exact absurd (List.mem_map.mpr ⟨p, hp1, e⟩) hn.1
    · rcases List.mem_cons.mp hp with rfl | hp1
      · exact absurd (List.mem_map.mpr ⟨q, hq1, e.symm⟩) hn.1
      · exact ih hn.2 hq1 p hp1 e
theorem tabs_nil {l : List (Addr × Str)} {H : Hp} (h : ∀ p ∈ l, H p.1 = some (.tbl #[])) : Tabs l H := fun p hp => TabS.nil (h p hp)
theorem cx_none (P : Program) (w : World) (H : Hp) (s : Shared) (e : Value) (s' : Shared) (h : L2.CX P w [] H s (fun _ _ _ => False) e s') : False := by
  obtain ⟨_, _, _, _, _, _, _, _, _, _, _, _, hE⟩ := h
  exact hE
end BV
set_option maxHeartbeats 4000000

namespace BV
open PySem PySem.Spec PyProof.Rows L2 LamX
def top (i : Nat) : Stmt := PySem.Challenge.pw_onethread_k01_whole_marks.main.body.getD i (.Pass ⟨0, 0, 0, 0⟩)
def lam0 : LamE := ⟨lmP exD, exD, lmS exD, [], lmS exD, (Str.ofString ""), [], [], [], []⟩
def HX_BadText : Str → Option Bool := fun c => if c = (Str.ofString "BadText") then some true else none
def V_WORDS : List V := [.str (Str.ofString "word"), .str (Str.ofString "thread"), .str (Str.ofString "outer"), .str (Str.ofString "left"), .str (Str.ofString "right"), .str (Str.ofString "points")]
def V_SIGNS : List V := [.str (Str.ofString "<"), .str (Str.ofString ">"), .str (Str.ofString ","), .str (Str.ofString "-")]
def m_is_name : M Fl :=
    (mThen (mCond (mOrT (mBl (mOp2 (gIs true) (mFn gType (mCons (mVar 0) mNil)) (mC (.ty "str")))) (mOrT (mNotT (mBl (mChain gLt gLe (mC (.int 0)) (mFn gLen (mCons (mVar 0) mNil)) (mC (.int 8))))) (mOrT (mBl (mOp1' (gInC false V_WORDS) (mVar 0))) (mBl (mOp2 gNotIn (mOpV gIx (mVar 0) (mC (.int 0))) (mC (.str (Str.ofString "abcdefghijklmnopqrstuvwxyz")))))))) (mRet (mC (.bl false))) (M.pure .nx))
    (mRet (mFn gAll (mCons (mLc 2 [1] (mItems (mVar 0)) (.nm 1) (M.pure true) (mOr (mOp2 gIn (mVar 1) (mC (.str (Str.ofString "abcdefghijklmnopqrstuvwxyz")))) (mOp2 gIn (mVar 1) (mC (.str (Str.ofString "0123456789")))))) mNil))))
def g_is_name : List Val → CO := callM [] 1 2 (m_is_name)

def m_is_plain : M Fl :=
    (mRet (mOr (mOp2 gIn (mVar 0) (mC (.str (Str.ofString "abcdefghijklmnopqrstuvwxyz")))) (mOp2 gIn (mVar 0) (mC (.str (Str.ofString "0123456789"))))))
def g_is_plain : List Val → CO := callM [] 1 1 (m_is_plain)

def m_is_numeral : M Fl :=
    (mThen (mCond (mOrT (mBl (mOp2 gGt (mFn gLen (mCons (mVar 0) mNil)) (mC (.int 10)))) (mNotT (mTru (mFn gAll (mCons (mLc 2 [1] (mItems (mVar 0)) (.nm 1) (M.pure true) (mOp2 gIn (mVar 1) (mC (.str (Str.ofString "0123456789"))))) mNil))))) (mRet (mC (.bl false))) (M.pure .nx))
    (mRet (mAnd (mOr (mOp2 gEq (mVar 0) (mC (.str (Str.ofString "0")))) (mOp2 gNe (mOpV gIx (mVar 0) (mC (.int 0))) (mC (.str (Str.ofString "0"))))) (mOp2 gLe (mFn gInt (mCons (mVar 0) mNil)) (mC (.int 2147483647))))))
def g_is_numeral : List Val → CO := callM [] 1 2 (m_is_numeral)

def m_kind_of : M Fl :=
    (mThen (mCond (mOrT (mBl (mOp1' (gInC false V_WORDS) (mVar 0))) (mBl (mOp1' (gInC false V_SIGNS) (mVar 0)))) (mRet (mVar 0)) (M.pure .nx))
    (mThen (mCond (mTru (mCall [] 1 (g_is_name) (mACons (mVar 0) mANil))) (mRet (mC (.str (Str.ofString "name")))) (M.pure .nx))
    (mRet (mIf (mTru (mCall [] 1 (g_is_numeral) (mACons (mVar 0) mANil))) (mC (.str (Str.ofString "number"))) (mC (.str (Str.ofString "wrong")))))))
def g_kind_of : List Val → CO := callM [] 1 1 (m_kind_of)

def m_end_of : M Fl :=
    (mThen (mSet [] 2 (mOpVV gCat (mVar 1) (mC (.int 1))))
    (mThen (mWhile (mAndT (mTru (mCall [] 1 (g_is_plain) (mACons (mOpV gIx (mVar 0) (mVar 1)) mANil))) (mAndT (mBl (mOp2 gLt (mVar 2) (mFn gLen (mCons (mVar 0) mNil)))) (mTru (mCall [] 1 (g_is_plain) (mACons (mOpV gIx (mVar 0) (mVar 2)) mANil))))) (mSet [] 2 (mOpVV gCat (mVar 2) (mC (.int 1)))) fuel)
    (mRet (mVar 2))))
def g_end_of : List Val → CO := callM [] 2 3 (m_end_of)

def m_marks_of : M Fl :=
    (mThen (mCond (mBl (mOp2 (gIs true) (mFn gType (mCons (mVar 0) mNil)) (mC (.ty "str")))) (mRaise (Str.ofString "BadText") (Str.ofString "text") (mVar 0)) (M.pure .nx))
    (mThen (mAsg [] (.tp [(.nm 1), (.nm 2), (.nm 3), (.nm 4), (.nm 5)]) (mTup (mCons (mLst mNil) (mCons (mC (.int 0)) (mCons (mC (.int 1)) (mCons (mC (.int 0)) (mCons (mC (.bl false)) mNil)))))))
    (mThen (mWhile (mBl (mOp2 gLt (mVar 2) (mFn gLen (mCons (mVar 0) mNil)))) (mThen (mSet [] 6 (mOpV gIx (mVar 0) (mVar 2)))
    (mThen (mSet [] 7 (mOpVV gCat (mVar 2) (mC (.int 1))))
    (mThen (mCond (mBl (mOp2 gEq (mVar 6) (mC (.str (Str.ofString "\n"))))) (mPar [] [3, 4, 5] (mCons (mOpVV gCat (mVar 3) (mC (.int 1))) (mCons (mVar 7) (mCons (mC (.bl false)) mNil)))) (mCond (mOrT (mTru (mVar 5)) (mBl (mOp2 gEq (mVar 6) (mC (.str (Str.ofString "#")))))) (mSet [] 5 (mC (.bl true))) (mCond (mBl (mOp2 gNe (mVar 6) (mC (.str (Str.ofString " "))))) (mThen (mSet [] 7 (mCall [] 2 (g_end_of) (mACons (mVar 0) (mACons (mVar 2) mANil))))
    (mExpr (mMeth 1 D.isLst (gAppend 1) (mCons (mTup (mCons (mCall [] 1 (g_kind_of) (mACons (mSlice (mVar 0) (mPart (mVar 2)) (mPart (mVar 7))) mANil)) (mCons (mSlice (mVar 0) (mPart (mVar 2)) (mPart (mVar 7))) (mCons (mTup (mCons (mVar 3) (mCons (mOpVV gCat (mOp2 gSub (mVar 2) (mVar 4)) (mC (.int 1))) mNil))) mNil)))) mNil)))) (M.pure .nx))))
    (mSet [] 2 (mVar 7))))) fuel)
    (mThen (mExpr (mMeth 1 D.isLst (gAppend 1) (mCons (mTup (mCons (mC (.str (Str.ofString "end"))) (mCons (mC (.str (Str.ofString ""))) (mCons (mTup (mCons (mVar 3) (mCons (mOpVV gCat (mOp2 gSub (mFn gLen (mCons (mVar 0) mNil)) (mVar 4)) (mC (.int 1))) mNil))) mNil)))) mNil)))
    (mRet (mVar 1))))))
def g_marks_of : List Val → CO := callM [] 1 8 (m_marks_of)

def m__law_stream : M Fl :=
    (mRet (mLst (mCons (mFn (gOrL gList gListTxt) (mCons (mVar 0) mNil)) (mCons (mC (.int 0)) (mCons (mC (.int 0)) (mCons (mC (.int 17)) mNil))))))
def g__law_stream : List Val → CO := callM [] 1 1 (m__law_stream)

def m__law_draw : M Fl :=
    (mThen (mStore 0 (mPeekX [] (mOpVV gCat (mOpV gIx (mVar 0) (mC (.int 2))) (mC (.int 1)))) (mC (.int 2)))
    (mThen (mWhile (mPeekXT [] (mAndT (mBl (mOp2 gEq (mOpV gIx (mVar 0) (mC (.int 1))) (mC (.int 0)))) (mBl (mOp2 gNe (mOpV gIx (mVar 0) (mC (.int 0))) (mLst mNil))))) (mThen (mSet [0] 2 (mFn gAbs (mCons (mPopN 0 0) mNil)))
    (mThen (mStore 0 (mPeekX [] (mOp2 gMod (mFn gInt (mCons (mOpVV gCat (mOpVV gCat (mOpVV gTimes (mOpV gIx (mVar 0) (mC (.int 3))) (mC (.int 8191))) (mVar 2)) (mC (.int 3))) mNil)) (mC (.int 2147483647)))) (mC (.int 3)))
    (mStore 0 (mIf (mBl (mOp2 gGe (mVar 2) (mOp2 gPow (mC (.int 10)) (mC (.int 18))))) (mVar 2) (mC (.int 0))) (mC (.int 1))))) fuel)
    (mThen (mCond (mPeekXT [] (mBl (mOp2 gGt (mOpV gIx (mVar 0) (mC (.int 1))) (mC (.int 0))))) (mThen (mSet [0] 3 (mPeekX [] (mOp2 gMod (mFn gInt (mCons (mOpV gIx (mVar 0) (mC (.int 1))) mNil)) (mVar 1))))
    (mThen (mStore 0 (mPeekX [] (mOp2 gDiv (mOpV gIx (mVar 0) (mC (.int 1))) (mVar 1))) (mC (.int 1)))
    (mRet (mVar 3)))) (M.pure .nx))
    (mThen (mSet [0] 4 (mPeekX [] (mOp2 gMod (mFn gInt (mCons (mOp2 gPow (mOpVV gCat (mOpVV gCat (mOpV gIx (mVar 0) (mC (.int 3))) (mOpVV gTimes (mC (.int 7919)) (mOpV gIx (mVar 0) (mC (.int 2))))) (mC (.int 104729))) (mC (.int 5))) mNil)) (mC (.int 2147483629)))))
    (mRet (mPeekX [] (mOp2 gMod (mOp2 gMod (mFn gInt (mCons (mOp2 gPow (mOpVV gCat (mOpVV gCat (mOpVV gTimes (mVar 4) (mC (.int 48271))) (mOpVV gTimes (mC (.int 30011)) (mOpV gIx (mVar 0) (mC (.int 2))))) (mC (.int 29))) (mC (.int 3))) mNil)) (mC (.int 1000000007))) (mVar 1))))))))
def g__law_draw : List Val → CO := callM [0] 2 5 (m__law_draw)

def m__law_pick : M Fl :=
    (mRet (mOpV gIx (mVar 1) (mCall [0] 2 (g__law_draw) (mAMut 0 (mACons (mFn gLen (mCons (mVar 1) mNil)) mANil)))))
def g__law_pick : List Val → CO := callM [0] 2 2 (m__law_pick)

def m__law_same (self : List Val → CO) : M Fl :=
    (mThen (mCond (mTru (mFn gIsi (mCons (mVar 1) (mCons (mTup (mCons (mC (.ty "list")) (mCons (mC (.ty "tuple")) mNil))) mNil)))) (mThen (mCond (mOrT (mBl (mOp2 gNe (mFn gIsi (mCons (mVar 0) (mCons (mC (.ty "list")) mNil))) (mFn gIsi (mCons (mVar 1) (mCons (mC (.ty "list")) mNil))))) (mBl (mOp2 gNe (mFn gIsi (mCons (mVar 0) (mCons (mC (.ty "tuple")) mNil))) (mFn gIsi (mCons (mVar 1) (mCons (mC (.ty "tuple")) mNil)))))) (mRet (mC (.bl false))) (M.pure .nx))
    (mRet (mAnd (mOp2 gEq (mFn gLen (mCons (mVar 0) mNil)) (mFn gLen (mCons (mVar 1) mNil))) (mFn gAll (mCons (mLc 4 [2, 3] (mWalk gZip (mCons (mVar 0) (mCons (mVar 1) mNil))) (.tp [(.nm 2), (.nm 3)]) (M.pure true) (mCall [] 2 (self) (mACons (mVar 2) (mACons (mVar 3) mANil)))) mNil))))) (M.pure .nx))
    (mThen (mCond (mTru (mFn gIsi (mCons (mVar 1) (mCons (mC (.ty "dict")) mNil)))) (mRet (mAnd (mFn gIsi (mCons (mVar 0) (mCons (mC (.ty "dict")) mNil))) (mCall [] 2 (self) (mACons (mLItems (mVar 0)) (mACons (mLItems (mVar 1)) mANil))))) (M.pure .nx))
    (mThen (mCond (mOrT (mTru (mFn gIsi (mCons (mVar 1) (mCons (mC (.ty "bool")) mNil)))) (mTru (mFn gIsi (mCons (mVar 0) (mCons (mC (.ty "bool")) mNil))))) (mRet (mAnd (mFn gIsi (mCons (mVar 1) (mCons (mC (.ty "bool")) mNil))) (mAnd (mFn gIsi (mCons (mVar 0) (mCons (mC (.ty "bool")) mNil))) (mOp2 gEq (mVar 0) (mVar 1))))) (M.pure .nx))
    (mThen (mCond (mOrT (mBl (mOp2 (gIs false) (mVar 1) (mC .non))) (mBl (mOp2 (gIs false) (mVar 0) (mC .non)))) (mRet (mAnd (mOp2 (gIs false) (mVar 1) (mC .non)) (mOp2 (gIs false) (mVar 0) (mC .non)))) (M.pure .nx))
    (mThen (mCond (mOrT (mBl (mOp2 gNe (mFn gIsi (mCons (mVar 1) (mCons (mC (.ty "int")) mNil))) (mFn gIsi (mCons (mVar 0) (mCons (mC (.ty "int")) mNil))))) (mBl (mOp2 gNe (mFn gIsi (mCons (mVar 1) (mCons (mC (.ty "str")) mNil))) (mFn gIsi (mCons (mVar 0) (mCons (mC (.ty "str")) mNil)))))) (mRet (mC (.bl false))) (M.pure .nx))
    (mRet (mAnd (mNot (mFn gIsi (mCons (mVar 0) (mCons (mTup (mCons (mC (.ty "list")) (mCons (mC (.ty "tuple")) (mCons (mC (.ty "dict")) mNil)))) mNil)))) (mOp2 gEq (mVar 0) (mVar 1)))))))))
def g__law_same : Nat → List Val → CO
  | 0 => fun _ => .bad
  | q + 1 => callM [] 2 4 (m__law_same (g__law_same q))

def m__law_spoilt (self : List Val → CO) : M Fl :=
    (mThen (mCond (mPeekXT [] (mTru (mPeekX [] (mFn gIsi (mCons (mVar 0) (mCons (mTup (mCons (mC (.ty "list")) (mCons (mC (.ty "tuple")) mNil))) mNil)))))) (mForLend 0 1 (mExpr (mCall [0] 1 (self) (mAMut 1 mANil)))) (M.pure .nx))
    (mCond (mPeekXT [] (mTru (mPeekX [] (mFn gIsi (mCons (mVar 0) (mCons (mC (.ty "list")) mNil)))))) (mExpr (mMeth 0 D.isLst (gAppend 0) (mCons (mC (.str (Str.ofString "late"))) mNil))) (M.pure .nx)))
def g__law_spoilt : Nat → List Val → CO
  | 0 => fun _ => .bad
  | q + 1 => callM [0] 1 2 (m__law_spoilt (g__law_spoilt q))

def m__law_copied (self : List Val → CO) : M Fl :=
    (mThen (mCond (mTru (mFn gIsi (mCons (mVar 0) (mCons (mC (.ty "dict")) mNil)))) (mRet M.bad) (M.pure .nx))
    (mThen (mSet [] 2 (mIf (mTru (mFn gIsi (mCons (mVar 0) (mCons (mTup (mCons (mC (.ty "list")) (mCons (mC (.ty "tuple")) mNil))) mNil)))) (mLc 4 [3] (mItems (mVar 0)) (.nm 3) (M.pure true) (mCall [] 1 (self) (mACons (mVar 3) mANil))) (mVar 0)))
    (mRet (mIf (mTru (mFn gIsi (mCons (mVar 0) (mCons (mC (.ty "tuple")) mNil)))) (mFn gTuple (mCons (mVar 2) mNil)) (mVar 2)))))
def g__law_copied : Nat → List Val → CO
  | 0 => fun _ => .bad
  | q + 1 => callM [] 1 4 (m__law_copied (g__law_copied q))

def m__law_a_mark : M Fl :=
    (mThen (mPar [0] [1, 2] (mCons (mLst (mCons (mC (.str (Str.ofString "word"))) (mCons (mC (.str (Str.ofString "thread"))) (mCons (mC (.str (Str.ofString "outer"))) (mCons (mC (.str (Str.ofString "left"))) (mCons (mC (.str (Str.ofString "right"))) (mCons (mC (.str (Str.ofString "points"))) mNil))))))) (mCons (mCall [0] 2 (g__law_draw) (mAMut 0 (mACons (mC (.int 8)) mANil))) mNil)))
    (mThen (mCond (mBl (mOp2 gLt (mVar 2) (mC (.int 2)))) (mThen (mSet [0] 3 (mCall [0] 2 (g__law_pick) (mAMut 0 (mACons (mVar 1) mANil))))
    (mRet (mTup (mCons (mVar 3) (mCons (mVar 3) mNil))))) (M.pure .nx))
    (mThen (mCond (mBl (mOp2 gLt (mVar 2) (mC (.int 4)))) (mThen (mSet [0] 4 (mCall [0] 2 (g__law_pick) (mAMut 0 (mACons (mFn (gOrL gList gListTxt) (mCons (mC (.str (Str.ofString "<>,-"))) mNil)) mANil))))
    (mRet (mTup (mCons (mVar 4) (mCons (mVar 4) mNil))))) (M.pure .nx))
    (mThen (mCond (mBl (mOp2 gEq (mVar 2) (mC (.int 4)))) (mRet (mTup (mCons (mC (.str (Str.ofString "number"))) (mCons (mFn gStr (mCons (mCall [0] 2 (g__law_pick) (mAMut 0 (mACons (mLst (mCons (mC (.int 0)) (mCons (mC (.int 7)) (mCons (mC (.int 10)) (mCons (mC (.int 2147483647)) (mCons (mCall [0] 2 (g__law_draw) (mAMut 0 (mACons (mOp2 gPow (mC (.int 10)) (mC (.int 9))) mANil))) (mCons (mOp2 gSub (mC (.int 2147483647)) (mCall [0] 2 (g__law_draw) (mAMut 0 (mACons (mOp2 gPow (mC (.int 10)) (mC (.int 9))) mANil)))) mNil))))))) mANil))) mNil)) mNil)))) (M.pure .nx))
    (mThen (mSet [0] 5 (mFn (gOrL gList gListTxt) (mCons (mC (.str (Str.ofString "abzqz019inou"))) mNil)))
    (mThen (mCond (mBl (mOp2 gEq (mVar 2) (mC (.int 5)))) (mThen (mSet [0] 6 (mPeekX [0] (mOpVV gCat (mCall [0] 2 (g__law_pick) (mAMut 0 (mACons (mLst (mCons (mC (.str (Str.ofString "a"))) (mCons (mC (.str (Str.ofString "z"))) mNil))) mANil))) (mM1 gJoin (mC (.str (Str.ofString ""))) (mLc 10 [7] (mWalk gRange1 (mCons (mOpVV gCat (mC (.int 8)) (mCall [0] 2 (g__law_draw) (mAMut 0 (mACons (mC (.int 6)) mANil)))) mNil)) (.nm 7) (M.pure true) (mCall [0] 2 (g__law_pick) (mAMut 0 (mACons (mVar 5) mANil))))))))
    (mThen (mSet [0] 8 (mLst (mCons (mVar 6) (mCons (mC (.str (Str.ofString "2147483648"))) (mCons (mOpVV gTimes (mC (.str (Str.ofString "9"))) (mCall [0] 2 (g__law_pick) (mAMut 0 (mACons (mLst (mCons (mC (.int 10)) (mCons (mC (.int 11)) (mCons (mC (.int 40)) (mCons (mC (.int 5000)) mNil))))) mANil)))) (mCons (mC (.str (Str.ofString "007"))) (mCons (mC (.str (Str.ofString "1a"))) (mCons (mC (.str (Str.ofString "0x"))) (mCons (mCall [0] 2 (g__law_pick) (mAMut 0 (mACons (mFn (gOrL gList gListTxt) (mCons (mC (.str (Str.ofString "[]@!&?/|^~_$'AZ+=;:.()"))) mNil)) mANil))) mNil)))))))))
    (mRet (mTup (mCons (mC (.str (Str.ofString "wrong"))) (mCons (mCall [0] 2 (g__law_pick) (mAMut 0 (mACons (mVar 8) mANil))) mNil)))))) (M.pure .nx))
    (mThen (mSet [0] 9 (mPeekX [0] (mOpVV gCat (mCall [0] 2 (g__law_pick) (mAMut 0 (mACons (mLst (mCons (mC (.str (Str.ofString "a"))) (mCons (mC (.str (Str.ofString "m"))) (mCons (mC (.str (Str.ofString "z"))) mNil)))) mANil))) (mM1 gJoin (mC (.str (Str.ofString ""))) (mLc 10 [7] (mWalk gRange1 (mCons (mCall [0] 2 (g__law_draw) (mAMut 0 (mACons (mC (.int 8)) mANil))) mNil)) (.nm 7) (M.pure true) (mCall [0] 2 (g__law_pick) (mAMut 0 (mACons (mVar 5) mANil))))))))
    (mRet (mTup (mCons (mIf (mBl (mOp2 gIn (mVar 9) (mVar 1))) (mVar 9) (mC (.str (Str.ofString "name")))) (mCons (mVar 9) mNil)))))))))))
def g__law_a_mark : List Val → CO := callM [0] 1 10 (m__law_a_mark)

def tbl : GloT := fun x => if x = (Str.ofString "marks_of") then some (1, g_marks_of) else none
def lam_0 : LamE := ⟨lmP (exKid (stEx (stKid (top 23) 0 1) 0) 1), lmB (exKid (stEx (stKid (top 23) 0 1) 0) 1), lmS (exKid (stEx (stKid (top 23) 0 1) 0) 1), ([Str.ofString "word", Str.ofString "ask", Str.ofString "odd", Str.ofString "found"] : List Str), defScope (top 23), (Str.ofString "_law_is_very") ++ ".<locals>." ++ "<lambda>", [], [Str.ofString "ask", Str.ofString "odd"], [1, 2], []⟩
def gm_0 : M Val := (mCallGlo tbl 0 (mCons (mVar 1) mNil))
def lam_1 : LamE := ⟨lmP (exKid (exKid (stEx (stKid (stKid (top 27) 0 1) 0 7) 0) 0) 2), lmB (exKid (exKid (stEx (stKid (stKid (top 27) 0 1) 0 7) 0) 0) 2), lmS (exKid (exKid (stEx (stKid (stKid (top 27) 0 1) 0 7) 0) 0) 2), ([Str.ofString "script", Str.ofString "stream", Str.ofString "turn", Str.ofString "some", Str.ofString "k", Str.ofString "one", Str.ofString "text", Str.ofString "places", Str.ofString "kind", Str.ofString "sign", Str.ofString "plain", Str.ofString "gap", Str.ofString "due", Str.ofString "place", Str.ofString "glued", Str.ofString "kinds", Str.ofString "told", Str.ofString "odd"] : List Str), defScope (top 27), (Str.ofString "law") ++ ".<locals>." ++ "<lambda>", [], [Str.ofString "text"], [6], []⟩
def gm_1 : M Val := (mCallN [] 1 (g_marks_of) (mACons (mVar 0) mANil))
def lam_2 : LamE := ⟨lmP (exKid (exKid (stEx (stKid (stKid (top 27) 0 1) 0 7) 0) 0) 3), lmB (exKid (exKid (stEx (stKid (stKid (top 27) 0 1) 0 7) 0) 0) 3), lmS (exKid (exKid (stEx (stKid (stKid (top 27) 0 1) 0 7) 0) 0) 3), ([Str.ofString "script", Str.ofString "stream", Str.ofString "turn", Str.ofString "some", Str.ofString "k", Str.ofString "one", Str.ofString "text", Str.ofString "places", Str.ofString "kind", Str.ofString "sign", Str.ofString "plain", Str.ofString "gap", Str.ofString "due", Str.ofString "place", Str.ofString "glued", Str.ofString "kinds", Str.ofString "told", Str.ofString "odd"] : List Str), defScope (top 27), (Str.ofString "law") ++ ".<locals>." ++ "<lambda>", [], [Str.ofString "text"], [6], []⟩
def gm_2 : M Val := (mCallK 1 (g_marks_of) [0] mNil (mCons (mVar 0) mNil))
def lam_3 : LamE := ⟨lmP (exKid (exKid (exKid (stEx (stKid (stKid (top 27) 0 6) 0 0) 0) 0) 1) 1), lmB (exKid (exKid (exKid (stEx (stKid (stKid (top 27) 0 6) 0 0) 0) 0) 1) 1), lmS (exKid (exKid (exKid (stEx (stKid (stKid (top 27) 0 6) 0 0) 0) 0) 1) 1), ([Str.ofString "script", Str.ofString "stream", Str.ofString "turn", Str.ofString "some", Str.ofString "k", Str.ofString "one", Str.ofString "text", Str.ofString "places", Str.ofString "kind", Str.ofString "sign", Str.ofString "plain", Str.ofString "gap", Str.ofString "due", Str.ofString "place", Str.ofString "glued", Str.ofString "kinds", Str.ofString "told", Str.ofString "odd"] : List Str), defScope (top 27), (Str.ofString "law") ++ ".<locals>." ++ "<lambda>", [], [Str.ofString "odd"], [17], []⟩
def gm_3 : M Val := (mCallN [] 1 (g_marks_of) (mACons (mVar 0) mANil))
def L : Nat → LamE
  | 0 => lam_0
  | 1 => lam_1
  | 2 => lam_2
  | 3 => lam_3
  | _ => lam0
def gm : Nat → M Val
  | 0 => gm_0
  | 1 => gm_1
  | 2 => gm_2
  | 3 => gm_3
  | _ => M.bad
abbrev GK : LamG := gkOf L gm
def m__law_met (gk : LamG) : M Fl :=
    (mTryAs HX_BadText 1 (Str.ofString "text") (Str.ofString "text") (mRet (mTup (mCons (mC (.str (Str.ofString "told"))) (mCons (mCallClo gk 0 mNil) mNil)))))
def g__law_met (gk : LamG) : List Val → CO := callM [] 1 2 (m__law_met gk)

def m__law_is_very : M Fl :=
    (mThen (mSet [] 2 (mLst (mCons (mC (.str (Str.ofString "odd"))) mNil))) (mVery (Str.ofString "late") (mSet [2] 3 (mCallL [] 1 (g__law_met GK) (mALam 0 [1, 2] mANil))) (mRet (mCall [] 2 (g__law_same 40) (mACons (mVar 3) (mACons (mTup (mCons (mVar 0) (mCons (mVar 2) mNil))) mANil))))))
def g__law_is_very : List Val → CO := callM [] 2 4 m__law_is_very

def m__law_twice (gk : LamG) : M Fl :=
    (mThen (mPar [] [3, 4] (mCons (mCallClo gk 1 mNil) (mCons (mCallN [] 1 (g__law_copied 40) (mACons (mVar 0) mANil)) mNil)))
    (mThen (mCond (mPeekXT [] (mNotT (mTru (mCallN [] 2 (g__law_same 40) (mACons (mVar 3) (mACons (mVar 0) mANil)))))) (mRet (mC (.bl false))) (M.pure .nx))
    (mThen (mExpr (mCallN [0] 1 (g__law_spoilt 40) (mAMut 3 mANil)))
    (mThen (mExpr (mCallN [0] 1 (g__law_spoilt 40) (mAMut 4 mANil)))
    (mRet (mCallN [] 2 (g__law_same 40) (mACons (mLst (mCons (mVar 3) (mCons (mCallClo gk 2 mNil) (mCons (mCallClo gk 1 mNil) mNil)))) (mACons (mLst (mCons (mVar 4) (mCons (mVar 0) (mCons (mVar 0) mNil)))) mANil))))))))
def g__law_twice (gk : LamG) : List Val → CO := callM [] 3 5 (m__law_twice gk)

def m_law : M Fl :=
    (mThen (mSet [] 1 (mCall [] 1 (g__law_stream) (mACons (mVar 0) mANil)))
    (mThen (M.bind (mWalk gRange1 (mCons (mC (.int 7)) mNil)) fun ds => mFor [] (.nm 2) (mThen (mSet [] 3 (mLc 18 [4] (mWalk gRange1 (mCons (mCall [0] 2 (g__law_draw) (mAMut 1 (mACons (mC (.int 16)) mANil))) mNil)) (.nm 4) (M.pure true) (mCall [0] 1 (g__law_a_mark) (mAMut 1 mANil))))
    (mThen (mCond (mBl (mOp2 gGt (mCall [0] 2 (g__law_draw) (mAMut 1 (mACons (mC (.int 3)) mANil))) (mC (.int 0)))) (mSet [] 3 (mLc 18 [5] (mItems (mVar 3)) (.nm 5) (mBl (mOp2 gNe (mOpV gIx (mVar 5) (mC (.int 0))) (mC (.str (Str.ofString "wrong"))))) (mVar 5))) (M.pure .nx))
    (mThen (mAsg [] (.tp [(.nm 6), (.nm 7)]) (mTup (mCons (mC (.str (Str.ofString ""))) (mCons (mLst mNil) mNil))))
    (mThen (M.bind (mItems (mVarF 3)) fun ds => mFor [] (.tp [(.nm 8), (.nm 9)]) (mThen (mSet [] 10 (mC (.str (Str.ofString "abcdefghijklmnopqrstuvwxyz0123456789"))))
    (mThen (mSet [] 11 (mCall [0] 2 (g__law_pick) (mAMut 1 (mACons (mLst (mCons (mC (.str (Str.ofString ""))) (mCons (mC (.str (Str.ofString " "))) (mCons (mC (.str (Str.ofString "\n"))) (mCons (mC (.str (Str.ofString "  "))) (mCons (mC (.str (Str.ofString "\n\n "))) (mCons (mC (.str (Str.ofString " # word < 5\n"))) (mCons (mC (.str (Str.ofString "#\n"))) (mCons (mC (.str (Str.ofString "  \n  # x, y\n "))) mNil))))))))) mANil))))
    (mThen (mSet [] 6 (mOpVV gCat (mVar 6) (mIf (mAndT (mBl (mOp2 gEq (mVar 11) (mC (.str (Str.ofString ""))))) (mAndT (mBl (mOp2 gNe (mVar 6) (mC (.str (Str.ofString ""))))) (mAndT (mBl (mOp2 gIn (mOpV gIx (mVar 6) (mOp1 gNeg (mC (.int 1)))) (mVar 10))) (mBl (mOp2 gIn (mOpV gIx (mVar 9) (mC (.int 0))) (mVar 10)))))) (mC (.str (Str.ofString " "))) (mVar 11))))
    (mThen (mExpr (mMeth 7 D.isLst (gAppend 7) (mCons (mTup (mCons (mOpVV gCat (mM1 gCount (mVar 6) (mC (.str (Str.ofString "\n")))) (mC (.int 1))) (mCons (mOp2 gSub (mFn gLen (mCons (mVar 6) mNil)) (mM1 gRfind (mVar 6) (mC (.str (Str.ofString "\n"))))) mNil))) mNil)))
    (mSet [] 6 (mOpVV gCat (mVar 6) (mVar 9))))))) ds)
    (mThen (mSet [] 6 (mOpVV gCat (mVar 6) (mCall [0] 2 (g__law_pick) (mAMut 1 (mACons (mLst (mCons (mC (.str (Str.ofString ""))) (mCons (mC (.str (Str.ofString " "))) (mCons (mC (.str (Str.ofString "\n"))) (mCons (mC (.str (Str.ofString " #"))) (mCons (mC (.str (Str.ofString " # thread\n "))) (mCons (mC (.str (Str.ofString "\n\n"))) mNil))))))) mANil)))))
    (mThen (mSet [] 12 (mLc 18 [13, 8, 9] (mWalk gZip (mCons (mVar 3) (mCons (mVar 7) mNil))) (.tp [(.tp [(.nm 8), (.nm 9)]), (.nm 13)]) (M.pure true) (mTup (mCons (mVar 8) (mCons (mVar 9) (mCons (mVar 13) mNil))))))
    (mThen (mExpr (mMeth 12 D.isLst (gAppend 12) (mCons (mTup (mCons (mC (.str (Str.ofString "end"))) (mCons (mC (.str (Str.ofString ""))) (mCons (mTup (mCons (mOpVV gCat (mM1 gCount (mVar 6) (mC (.str (Str.ofString "\n")))) (mC (.int 1))) (mCons (mOp2 gSub (mFn gLen (mCons (mVar 6) mNil)) (mM1 gRfind (mVar 6) (mC (.str (Str.ofString "\n"))))) mNil))) mNil)))) mNil)))
    (mCond (mNotT (mTru (mCallL [] 3 (g__law_twice GK) (mACons (mVar 12) (mALam 1 [6] (mALam 2 [6] mANil)))))) (mRet (mC (.bl false))) (M.pure .nx))))))))) ds)
    (mThen (mSet [] 14 (mLst (mCons (mTup (mCons (mC (.str (Str.ofString "a<b>,c"))) (mCons (mLst (mCons (mC (.str (Str.ofString "name"))) (mCons (mC (.str (Str.ofString "<"))) (mCons (mC (.str (Str.ofString "name"))) (mCons (mC (.str (Str.ofString ">"))) (mCons (mC (.str (Str.ofString ","))) (mCons (mC (.str (Str.ofString "name"))) (mCons (mC (.str (Str.ofString "end"))) mNil)))))))) mNil))) (mCons (mTup (mCons (mC (.str (Str.ofString "wordx word"))) (mCons (mLst (mCons (mC (.str (Str.ofString "name"))) (mCons (mC (.str (Str.ofString "word"))) (mCons (mC (.str (Str.ofString "end"))) mNil)))) mNil))) (mCons (mTup (mCons (mC (.str (Str.ofString "5,-7"))) (mCons (mLst (mCons (mC (.str (Str.ofString "number"))) (mCons (mC (.str (Str.ofString ","))) (mCons (mC (.str (Str.ofString "-"))) (mCons (mC (.str (Str.ofString "number"))) (mCons (mC (.str (Str.ofString "end"))) mNil)))))) mNil))) mNil)))))
    (mThen (mExpr (mMeth 14 D.isLst (gExtend 14) (mCons (mLst (mCons (mTup (mCons (mC (.str (Str.ofString "abcdefgh abcdefghi"))) (mCons (mLst (mCons (mC (.str (Str.ofString "name"))) (mCons (mC (.str (Str.ofString "wrong"))) (mCons (mC (.str (Str.ofString "end"))) mNil)))) mNil))) (mCons (mTup (mCons (mC (.str (Str.ofString "00"))) (mCons (mLst (mCons (mC (.str (Str.ofString "wrong"))) (mCons (mC (.str (Str.ofString "end"))) mNil))) mNil))) (mCons (mTup (mCons (mC (.str (Str.ofString "1a"))) (mCons (mLst (mCons (mC (.str (Str.ofString "wrong"))) (mCons (mC (.str (Str.ofString "end"))) mNil))) mNil))) (mCons (mTup (mCons (mC (.str (Str.ofString "aB"))) (mCons (mLst (mCons (mC (.str (Str.ofString "name"))) (mCons (mC (.str (Str.ofString "wrong"))) (mCons (mC (.str (Str.ofString "end"))) mNil)))) mNil))) mNil))))) mNil)))
    (mThen (mExpr (mMeth 14 D.isLst (gExtend 14) (mCons (mLst (mCons (mTup (mCons (mC (.str (Str.ofString "a_b"))) (mCons (mLst (mCons (mC (.str (Str.ofString "name"))) (mCons (mC (.str (Str.ofString "wrong"))) (mCons (mC (.str (Str.ofString "name"))) (mCons (mC (.str (Str.ofString "end"))) mNil))))) mNil))) (mCons (mTup (mCons (mC (.str (Str.ofString "outer1"))) (mCons (mLst (mCons (mC (.str (Str.ofString "name"))) (mCons (mC (.str (Str.ofString "end"))) mNil))) mNil))) (mCons (mTup (mCons (mC (.str (Str.ofString "1outer"))) (mCons (mLst (mCons (mC (.str (Str.ofString "wrong"))) (mCons (mC (.str (Str.ofString "end"))) mNil))) mNil))) mNil)))) mNil)))
    (mThen (M.bind (mItems (mVar 14)) fun ds => mFor [] (.tp [(.nm 6), (.nm 15)]) (mThen (mSet [] 16 (mCall [] 1 (g_marks_of) (mACons (mVar 6) mANil)))
    (mCond (mPeekXT [] (mOrT (mBl (mOp2 gNe (mLc 18 [8, 9, 13] (mItems (mVar 16)) (.tp [(.nm 8), (.nm 9), (.nm 13)]) (M.pure true) (mVar 8)) (mVar 15))) (mNotT (mTru (mFn gAll (mCons (mLc 18 [8, 9, 13] (mItems (mVar 16)) (.tp [(.nm 8), (.nm 9), (.nm 13)]) (M.pure true) (mOp2 gEq (mSlice (mVar 6) (mPart (mOp2 gSub (mOpV gIx (mVar 13) (mC (.int 1))) (mC (.int 1)))) (mPart (mOpVV gCat (mOp2 gSub (mOpV gIx (mVar 13) (mC (.int 1))) (mC (.int 1))) (mFn gLen (mCons (mVar 9) mNil))))) (mVar 9))) mNil)))))) (mRet (mC (.bl false))) (M.pure .nx))) ds)
    (mThen (M.bind (mItems (mTup (mCons (mC .non) (mCons (mC (.int 5)) (mCons (mLst mNil) (mCons (mLst (mCons (mC (.str (Str.ofString "word"))) mNil)) (mCons (mC (.bl true)) (mCons (mDNew false) (mCons (mTup (mCons (mC (.str (Str.ofString "a"))) mNil)) mNil))))))))) fun ds => mFor [] (.nm 17) (mCond (mNotT (mTru (mCall [] 2 (g__law_same 40) (mACons (mCallL [] 1 (g__law_met GK) (mALam 3 [17] mANil)) (mACons (mTup (mCons (mC (.str (Str.ofString "text"))) (mCons (mVar 17) mNil))) mANil))))) (mRet (mC (.bl false))) (M.pure .nx)) ds)
    (mRet (mAnd (mCall [] 2 (g__law_same 40) (mACons (mCall [] 1 (g_marks_of) (mACons (mC (.str (Str.ofString ""))) mANil)) (mACons (mLst (mCons (mTup (mCons (mC (.str (Str.ofString "end"))) (mCons (mC (.str (Str.ofString ""))) (mCons (mTup (mCons (mC (.int 1)) (mCons (mC (.int 1)) mNil))) mNil)))) mNil)) mANil))) (mCall [] 2 (g__law_is_very) (mACons (mC (.str (Str.ofString "text"))) (mACons (mC (.glo (Str.ofString "marks_of"))) mANil))))))))))))
def g_law : List Val → CO := callM [] 1 18 (m_law)

end BV
set_option maxHeartbeats 4000000

namespace BV
open PySem PySem.Spec PyProof.Rows L2 LamX
set_option maxHeartbeats 8000000 in
theorem ok_is_name {P : Program} {pw : World} {base : Heap} {W : Wd} {fa : Addr} {fd : FuncData} (F : FunD W.K (Str.ofString "is_name") (Str.ofString "is_name") (defArgs (top 4)) (defBody (top 4)) (defScope (top 4)) [] [] fa fd) (hm : W.mg (Str.ofString "is_name") = some (.ref fa)) (kk_FIGURES : ∃ u, W.mg (Str.ofString "FIGURES") = some u ∧ RelV (.str (Str.ofString "0123456789")) u) (kk_LETTERS : ∃ u, W.mg (Str.ofString "LETTERS") = some u ∧ RelV (.str (Str.ofString "abcdefghijklmnopqrstuvwxyz")) u) (hh_all : W.mg (Str.ofString "all") = none) (hh_len : W.mg (Str.ofString "len") = none) (hh_str : W.mg (Str.ofString "str") = none) (hh_type : W.mg (Str.ofString "type") = none) {qq_WORDS : Addr} (tt_WORDS : W.mg (Str.ofString "WORDS") = some (.ref qq_WORDS) ∧ ∀ H, SqT W.K H qq_WORDS V_WORDS) : Cal cvF P pw W base 1 (Str.ofString "is_name") ([Str.ofString "thing"] : List Str) 1 (g_is_name) fa fd := by
  refine ⟨fn_def (L := (fun _ => lam0)) (ks := []) F (C8.fnScope_by (N := ([Str.ofString "thing", Str.ofString "sign"] : List Str)) (by kernel_rfl)) rfl (fun W' X hl D => ?_), hm, F.kp, F.bindsN fun _ _ _ _ _ _ us h => match us, h with | [_], _ => rfl⟩
  · have B := D.toMX.bf
    have hno : ∀ k f ws H', ¬ W'.cl k f ws H' := D.cls
    have k_FIGURES : ∃ u, W'.mg (Str.ofString "FIGURES") = some u ∧ RelV (.str (Str.ofString "0123456789")) u := by rw [hl.mg]; exact kk_FIGURES
    have k_LETTERS : ∃ u, W'.mg (Str.ofString "LETTERS") = some u ∧ RelV (.str (Str.ofString "abcdefghijklmnopqrstuvwxyz")) u := by rw [hl.mg]; exact kk_LETTERS
    have h_all : W'.mg (Str.ofString "all") = none := by rw [hl.mg]; exact hh_all
    have h_len : W'.mg (Str.ofString "len") = none := by rw [hl.mg]; exact hh_len
    have h_str : W'.mg (Str.ofString "str") = none := by rw [hl.mg]; exact hh_str
    have h_type : W'.mg (Str.ofString "type") = none := by rw [hl.mg]; exact hh_type
    have t_WORDS : W'.mg (Str.ofString "WORDS") = some (.ref qq_WORDS) ∧ ∀ H, SqT W'.K H qq_WORDS V_WORDS := by rw [hl.mg, hl.K]; exact tt_WORDS
    show GB X W' _ (defBody (top 4)) (m_is_name)
    unfold m_is_name
    exact (gb_cons (gs_if (GW.gt (gw_or (ht_isnot (gf_type B (B.gl (by kernel_rfl)) h_type (ga_cons (gn_var (B.nm (by kernel_rfl))) ga_nil rfl)) (gf_ty B (B.gl (by kernel_rfl)) h_str boot_str (by decide))) (gw_or (gt_not (hc_ltle ge_int (gf_len B (B.gl (by kernel_rfl)) h_len (ga_cons (gn_var (B.nm (by kernel_rfl))) ga_nil rfl)) ge_int)) (gw_or (ht_inC B (B.gl (by kernel_rfl)) t_WORDS.1 t_WORDS.2 (by kernel_rfl) (gn_var (B.nm (by kernel_rfl)))) (gw_or1 (ht_notin B (gf_ix B (gn_var (B.nm (by kernel_rfl))) ge_int) (gf_gcon B (B.gl (by kernel_rfl)) k_LETTERS))))))) (gb_one (gs_ret ge_bl)) gb_nil)
    (gb_one (gs_ret (gf_all B (B.gl (by kernel_rfl)) h_all (ga_cons (gf_lc [(Str.ofString "sign", 1)] B (by decide) (gi_seq (gn_var (B.nm (by kernel_rfl)))) (by kernel_rfl) (fun X1 B1 => (gn_name (nmS_ofB B1.N B1.sc (by kernel_rfl)))) (fun X1 B1 => gts_nil) (fun X1 B1 => (ge_or (gf_in B1 (gn_var (B1.nm (by kernel_rfl))) (gf_gcon B1 (B1.gl (by kernel_rfl)) k_LETTERS)) (ge_one (gf_in B1 (gn_var (B1.nm (by kernel_rfl))) (gf_gcon B1 (B1.gl (by kernel_rfl)) k_FIGURES)))))) ga_nil rfl)))))

set_option maxHeartbeats 8000000 in
theorem ok_is_plain {P : Program} {pw : World} {base : Heap} {W : Wd} {fa : Addr} {fd : FuncData} (F : FunD W.K (Str.ofString "is_plain") (Str.ofString "is_plain") (defArgs (top 11)) (defBody (top 11)) (defScope (top 11)) [] [] fa fd) (hm : W.mg (Str.ofString "is_plain") = some (.ref fa)) (kk_FIGURES : ∃ u, W.mg (Str.ofString "FIGURES") = some u ∧ RelV (.str (Str.ofString "0123456789")) u) (kk_LETTERS : ∃ u, W.mg (Str.ofString "LETTERS") = some u ∧ RelV (.str (Str.ofString "abcdefghijklmnopqrstuvwxyz")) u) : Cal cvF P pw W base 1 (Str.ofString "is_plain") ([Str.ofString "sign"] : List Str) 1 (g_is_plain) fa fd := by
  refine ⟨fn_def (L := (fun _ => lam0)) (ks := []) F (C8.fnScope_by (N := ([Str.ofString "sign"] : List Str)) (by kernel_rfl)) rfl (fun W' X hl D => ?_), hm, F.kp, F.bindsN fun _ _ _ _ _ _ us h => match us, h with | [_], _ => rfl⟩
  · have B := D.toMX.bf
    have hno : ∀ k f ws H', ¬ W'.cl k f ws H' := D.cls
    have k_FIGURES : ∃ u, W'.mg (Str.ofString "FIGURES") = some u ∧ RelV (.str (Str.ofString "0123456789")) u := by rw [hl.mg]; exact kk_FIGURES
    have k_LETTERS : ∃ u, W'.mg (Str.ofString "LETTERS") = some u ∧ RelV (.str (Str.ofString "abcdefghijklmnopqrstuvwxyz")) u := by rw [hl.mg]; exact kk_LETTERS
    show GB X W' _ (defBody (top 11)) (m_is_plain)
    unfold m_is_plain
    exact (gb_one (gs_ret (ge_or (gf_in B (gn_var (B.nm (by kernel_rfl))) (gf_gcon B (B.gl (by kernel_rfl)) k_LETTERS)) (ge_one (gf_in B (gn_var (B.nm (by kernel_rfl))) (gf_gcon B (B.gl (by kernel_rfl)) k_FIGURES))))))

set_option maxHeartbeats 8000000 in
theorem ok_is_numeral {P : Program} {pw : World} {base : Heap} {W : Wd} {fa : Addr} {fd : FuncData} (F : FunD W.K (Str.ofString "is_numeral") (Str.ofString "is_numeral") (defArgs (top 12)) (defBody (top 12)) (defScope (top 12)) [] [] fa fd) (hm : W.mg (Str.ofString "is_numeral") = some (.ref fa)) (kk_FIGURES : ∃ u, W.mg (Str.ofString "FIGURES") = some u ∧ RelV (.str (Str.ofString "0123456789")) u) (kk_MOST : ∃ u, W.mg (Str.ofString "MOST") = some u ∧ RelV (.int 2147483647) u) (hh_all : W.mg (Str.ofString "all") = none) (hh_int : W.mg (Str.ofString "int") = none) (hh_len : W.mg (Str.ofString "len") = none) : Cal cvF P pw W base 1 (Str.ofString "is_numeral") ([Str.ofString "sign"] : List Str) 1 (g_is_numeral) fa fd := by
  refine ⟨fn_def (L := (fun _ => lam0)) (ks := []) F (C8.fnScope_by (N := ([Str.ofString "sign", Str.ofString "one"] : List Str)) (by kernel_rfl)) rfl (fun W' X hl D => ?_), hm, F.kp, F.bindsN fun _ _ _ _ _ _ us h => match us, h with | [_], _ => rfl⟩
  · have B := D.toMX.bf
    have hno : ∀ k f ws H', ¬ W'.cl k f ws H' := D.cls
    have k_FIGURES : ∃ u, W'.mg (Str.ofString "FIGURES") = some u ∧ RelV (.str (Str.ofString "0123456789")) u := by rw [hl.mg]; exact kk_FIGURES
    have k_MOST : ∃ u, W'.mg (Str.ofString "MOST") = some u ∧ RelV (.int 2147483647) u := by rw [hl.mg]; exact kk_MOST
    have h_all : W'.mg (Str.ofString "all") = none := by rw [hl.mg]; exact hh_all
    have h_int : W'.mg (Str.ofString "int") = none := by rw [hl.mg]; exact hh_int
    have h_len : W'.mg (Str.ofString "len") = none := by rw [hl.mg]; exact hh_len
    show GB X W' _ (defBody (top 12)) (m_is_numeral)
    unfold m_is_numeral
    exact (gb_cons (gs_if (GW.gt (gw_or (ht_gt (gf_len B (B.gl (by kernel_rfl)) h_len (ga_cons (gn_var (B.nm (by kernel_rfl))) ga_nil rfl)) ge_int) (gw_or1 (gt_not (ht_tru (gf_all B (B.gl (by kernel_rfl)) h_all (ga_cons (gf_lc [(Str.ofString "one", 1)] B (by decide) (gi_seq (gn_var (B.nm (by kernel_rfl)))) (by kernel_rfl) (fun X1 B1 => (gn_name (nmS_ofB B1.N B1.sc (by kernel_rfl)))) (fun X1 B1 => gts_nil) (fun X1 B1 => (gf_in B1 (gn_var (B1.nm (by kernel_rfl))) (gf_gcon B1 (B1.gl (by kernel_rfl)) k_FIGURES)))) ga_nil rfl))))))) (gb_one (gs_ret ge_bl)) gb_nil)
    (gb_one (gs_ret (ge_and (ge_or (gf_eq B (gn_var (B.nm (by kernel_rfl))) ge_str) (ge_one (gf_ne B (gf_ix B (gn_var (B.nm (by kernel_rfl))) ge_int) ge_str))) (ge_one (ge_le (gf_int B (B.gl (by kernel_rfl)) h_int (ga_cons (gn_var (B.nm (by kernel_rfl))) ga_nil rfl)) (gf_gcon B (B.gl (by kernel_rfl)) k_MOST)))))))

set_option maxHeartbeats 8000000 in
theorem ok_kind_of {P : Program} {pw : World} {base : Heap} {W : Wd} {fa : Addr} {fd : FuncData} (F : FunD W.K (Str.ofString "kind_of") (Str.ofString "kind_of") (defArgs (top 13)) (defBody (top 13)) (defScope (top 13)) [] [] fa fd) (hm : W.mg (Str.ofString "kind_of") = some (.ref fa)) {qq_SIGNS : Addr} (tt_SIGNS : W.mg (Str.ofString "SIGNS") = some (.ref qq_SIGNS) ∧ ∀ H, SqT W.K H qq_SIGNS V_SIGNS) {qq_WORDS : Addr} (tt_WORDS : W.mg (Str.ofString "WORDS") = some (.ref qq_WORDS) ∧ ∀ H, SqT W.K H qq_WORDS V_WORDS) {a_is_name : Addr} {fd_is_name : FuncData} (c_is_name : Cal cvF P pw W base 1 (Str.ofString "is_name") ([Str.ofString "thing"] : List Str) 1 (g_is_name) a_is_name fd_is_name) {a_is_numeral : Addr} {fd_is_numeral : FuncData} (c_is_numeral : Cal cvF P pw W base 1 (Str.ofString "is_numeral") ([Str.ofString "sign"] : List Str) 1 (g_is_numeral) a_is_numeral fd_is_numeral) : Cal cvF P pw W base 2 (Str.ofString "kind_of") ([Str.ofString "sign"] : List Str) 1 (g_kind_of) fa fd := by
  refine ⟨fn_def (L := (fun _ => lam0)) (ks := []) F (C8.fnScope_by (N := ([Str.ofString "sign"] : List Str)) (by kernel_rfl)) rfl (fun W' X hl D => ?_), hm, F.kp, F.bindsN fun _ _ _ _ _ _ us h => match us, h with | [_], _ => rfl⟩
  · have B := D.toMX.bf
    have hno : ∀ k f ws H', ¬ W'.cl k f ws H' := D.cls
    have t_SIGNS : W'.mg (Str.ofString "SIGNS") = some (.ref qq_SIGNS) ∧ ∀ H, SqT W'.K H qq_SIGNS V_SIGNS := by rw [hl.mg, hl.K]; exact tt_SIGNS
    have t_WORDS : W'.mg (Str.ofString "WORDS") = some (.ref qq_WORDS) ∧ ∀ H, SqT W'.K H qq_WORDS V_WORDS := by rw [hl.mg, hl.K]; exact tt_WORDS
    show GB X W' _ (defBody (top 13)) (m_kind_of)
    unfold m_kind_of
    exact (gb_cons (gs_if (GW.gt (gw_or (ht_inC B (B.gl (by kernel_rfl)) t_WORDS.1 t_WORDS.2 (by kernel_rfl) (gn_var (B.nm (by kernel_rfl)))) (gw_or1 (ht_inC B (B.gl (by kernel_rfl)) t_SIGNS.1 t_SIGNS.2 (by kernel_rfl) (gn_var (B.nm (by kernel_rfl))))))) (gb_one (gs_ret (gn_var (B.nm (by kernel_rfl))))) gb_nil)
    (gb_cons (gs_if (ht_tru (gc_call hl hno B c_is_name (by omega) (B.gl (by kernel_rfl)) (gav_cons (gn_var (B.nm (by kernel_rfl))) gav_nil rfl))) (gb_one (gs_ret ge_str)) gb_nil)
    (gb_one (gs_ret (ge_if (ht_tru (gc_call hl hno B c_is_numeral (by omega) (B.gl (by kernel_rfl)) (gav_cons (gn_var (B.nm (by kernel_rfl))) gav_nil rfl))) ge_str ge_str)))))

set_option maxHeartbeats 8000000 in
theorem ok_end_of {P : Program} {pw : World} {base : Heap} {W : Wd} {fa : Addr} {fd : FuncData} (F : FunD W.K (Str.ofString "end_of") (Str.ofString "end_of") (defArgs (top 14)) (defBody (top 14)) (defScope (top 14)) [] [] fa fd) (hm : W.mg (Str.ofString "end_of") = some (.ref fa)) (hh_len : W.mg (Str.ofString "len") = none) {a_is_plain : Addr} {fd_is_plain : FuncData} (c_is_plain : Cal cvF P pw W base 1 (Str.ofString "is_plain") ([Str.ofString "sign"] : List Str) 1 (g_is_plain) a_is_plain fd_is_plain) : Cal cvF P pw W base 2 (Str.ofString "end_of") ([Str.ofString "text", Str.ofString "begin"] : List Str) 2 (g_end_of) fa fd := by
  refine ⟨fn_def (L := (fun _ => lam0)) (ks := []) F (C8.fnScope_by (N := ([Str.ofString "text", Str.ofString "begin", Str.ofString "end"] : List Str)) (by kernel_rfl)) rfl (fun W' X hl D => ?_), hm, F.kp, F.bindsN fun _ _ _ _ _ _ us h => match us, h with | [_, _], _ => rfl⟩
  · have B := D.toMX.bf
    have hno : ∀ k f ws H', ¬ W'.cl k f ws H' := D.cls
    have h_len : W'.mg (Str.ofString "len") = none := by rw [hl.mg]; exact hh_len
    show GB X W' _ (defBody (top 14)) (m_end_of)
    unfold m_end_of
    exact (gb_cons (gn_set (D.nmS (by kernel_rfl)) (gf_add B (gn_var (B.nm (by kernel_rfl))) ge_int) rfl)
    (gb_cons (gf_while fuel B (GW.gt (gw_and (ht_tru (gc_call hl hno B c_is_plain (by omega) (B.gl (by kernel_rfl)) (gav_cons (gf_ix B (gn_var (B.nm (by kernel_rfl))) (gn_var (B.nm (by kernel_rfl)))) gav_nil rfl))) (gw_and (ht_lt (gn_var (B.nm (by kernel_rfl))) (gf_len B (B.gl (by kernel_rfl)) h_len (ga_cons (gn_var (B.nm (by kernel_rfl))) ga_nil rfl))) (gw_and1 (ht_tru (gc_call hl hno B c_is_plain (by omega) (B.gl (by kernel_rfl)) (gav_cons (gf_ix B (gn_var (B.nm (by kernel_rfl))) (gn_var (B.nm (by kernel_rfl)))) gav_nil rfl))))))) (gb_one (gn_set (D.nmS (by kernel_rfl)) (gf_add B (gn_var (B.nm (by kernel_rfl))) ge_int) rfl)))
    (gb_one (gs_ret (gn_var (B.nm (by kernel_rfl)))))))

set_option maxHeartbeats 8000000 in
theorem ok_marks_of {P : Program} {pw : World} {base : Heap} {W : Wd} {fa : Addr} {fd : FuncData} (F : FunD W.K (Str.ofString "marks_of") (Str.ofString "marks_of") (defArgs (top 15)) (defBody (top 15)) (defScope (top 15)) [] [] fa fd) (hm : W.mg (Str.ofString "marks_of") = some (.ref fa)) {C_BadText I_BadText : Addr} {fd_BadText : FuncData} {ps_BadText : List Str} (x_BadText : RaiseOk P pw W base (Str.ofString "BadText") (Str.ofString "text") C_BadText I_BadText fd_BadText ps_BadText) (hh_len : W.mg (Str.ofString "len") = none) (hh_str : W.mg (Str.ofString "str") = none) (hh_type : W.mg (Str.ofString "type") = none) {a_end_of : Addr} {fd_end_of : FuncData} (c_end_of : Cal cvF P pw W base 2 (Str.ofString "end_of") ([Str.ofString "text", Str.ofString "begin"] : List Str) 2 (g_end_of) a_end_of fd_end_of) {a_kind_of : Addr} {fd_kind_of : FuncData} (c_kind_of : Cal cvF P pw W base 2 (Str.ofString "kind_of") ([Str.ofString "sign"] : List Str) 1 (g_kind_of) a_kind_of fd_kind_of) : Cal cvF P pw W base 3 (Str.ofString "marks_of") ([Str.ofString "text"] : List Str) 1 (g_marks_of) fa fd := by
  refine ⟨fn_def (L := (fun _ => lam0)) (ks := []) F (C8.fnScope_by (N := ([Str.ofString "text", Str.ofString "found", Str.ofString "at", Str.ofString "line", Str.ofString "begin", Str.ofString "is_remark", Str.ofString "sign", Str.ofString "end"] : List Str)) (by kernel_rfl)) rfl (fun W' X hl D => ?_), hm, F.kp, F.bindsN fun _ _ _ _ _ _ us h => match us, h with | [_], _ => rfl⟩
  · have B := D.toMX.bf
    have hno : ∀ k f ws H', ¬ W'.cl k f ws H' := D.cls
    have h_len : W'.mg (Str.ofString "len") = none := by rw [hl.mg]; exact hh_len
    have h_str : W'.mg (Str.ofString "str") = none := by rw [hl.mg]; exact hh_str
    have h_type : W'.mg (Str.ofString "type") = none := by rw [hl.mg]; exact hh_type
    show GB X W' _ (defBody (top 15)) (m_marks_of)
    unfold m_marks_of
    exact (gb_cons (gs_if (ht_isnot (gf_type B (B.gl (by kernel_rfl)) h_type (ga_cons (gn_var (B.nm (by kernel_rfl))) ga_nil rfl)) (gf_ty B (B.gl (by kernel_rfl)) h_str boot_str (by decide))) (gb_one (gf_raise hl B (by omega) x_BadText (B.gl (by kernel_rfl)) (gn_var (B.nm (by kernel_rfl))))) gb_nil)
    (gb_cons (gf_asg D.sc (ge_tup (x1 := 0) (ga_cons (ge_lst ga_nil) (ga_cons ge_int (ga_cons ge_int (ga_cons ge_int (ga_cons ge_bl ga_nil rfl) rfl) rfl) rfl) rfl)) (gf_tgt B (ggs_cons (gn_name (D.nmS (by kernel_rfl))) (ggs_cons (gn_name (D.nmS (by kernel_rfl))) (ggs_cons (gn_name (D.nmS (by kernel_rfl))) (ggs_cons (gn_name (D.nmS (by kernel_rfl))) (ggs_cons (gn_name (D.nmS (by kernel_rfl))) ggs_nil rfl) rfl) rfl) rfl) rfl)) (hw := (by kernel_rfl)))
    (gb_cons (gf_while fuel B (ht_lt (gn_var (B.nm (by kernel_rfl))) (gf_len B (B.gl (by kernel_rfl)) h_len (ga_cons (gn_var (B.nm (by kernel_rfl))) ga_nil rfl))) (gb_cons (gn_set (D.nmS (by kernel_rfl)) (gf_ix B (gn_var (B.nm (by kernel_rfl))) (gn_var (B.nm (by kernel_rfl)))) rfl)
    (gb_cons (gn_set (D.nmS (by kernel_rfl)) (gf_add B (gn_var (B.nm (by kernel_rfl))) ge_int) rfl)
    (gb_cons (gs_if (ht_eq B (gn_var (B.nm (by kernel_rfl))) ge_str) (gb_one (gf_par3 D.sc B (by kernel_rfl) (by kernel_rfl) (by kernel_rfl) (by decide) (by decide) (by decide) (ga_cons (gf_add B (gn_var (B.nm (by kernel_rfl))) ge_int) (ga_cons (gn_var (B.nm (by kernel_rfl))) (ga_cons ge_bl ga_nil rfl) rfl) rfl) (by kernel_rfl))) (gb_one (gs_if (GW.gt (gw_or (ht_tru (gn_var (B.nm (by kernel_rfl)))) (gw_or1 (ht_eq B (gn_var (B.nm (by kernel_rfl))) ge_str)))) (gb_one (gn_set (D.nmS (by kernel_rfl)) ge_bl rfl)) (gb_one (gs_if (ht_ne B (gn_var (B.nm (by kernel_rfl))) ge_str) (gb_cons (gn_set (D.nmS (by kernel_rfl)) (gc_call hl hno B c_end_of (by omega) (B.gl (by kernel_rfl)) (gav_cons (gn_var (B.nm (by kernel_rfl))) (gav_cons (gn_var (B.nm (by kernel_rfl))) gav_nil rfl) rfl)) rfl)
    (gb_one (gs_expr (gm_append (B.nm (by kernel_rfl)) (ga_cons (ge_tup (x1 := 0) (ga_cons (gc_call hl hno B c_kind_of (by omega) (B.gl (by kernel_rfl)) (gav_cons (gf_slice B (gn_var (B.nm (by kernel_rfl))) (go_some (gn_var (B.nm (by kernel_rfl)))) (go_some (gn_var (B.nm (by kernel_rfl))))) gav_nil rfl)) (ga_cons (gf_slice B (gn_var (B.nm (by kernel_rfl))) (go_some (gn_var (B.nm (by kernel_rfl)))) (go_some (gn_var (B.nm (by kernel_rfl))))) (ga_cons (ge_tup (x1 := 0) (ga_cons (gn_var (B.nm (by kernel_rfl))) (ga_cons (gf_add B (ge_sub (gn_var (B.nm (by kernel_rfl))) (gn_var (B.nm (by kernel_rfl)))) ge_int) ga_nil rfl) rfl)) ga_nil rfl) rfl) rfl)) ga_nil rfl) rfl rfl rfl rfl rfl) rfl))) gb_nil)))))
    (gb_one (gn_set (D.nmS (by kernel_rfl)) (gn_var (B.nm (by kernel_rfl))) rfl))))))
    (gb_cons (gs_expr (gm_append (B.nm (by kernel_rfl)) (ga_cons (ge_tup (x1 := 0) (ga_cons ge_str (ga_cons ge_str (ga_cons (ge_tup (x1 := 0) (ga_cons (gn_var (B.nm (by kernel_rfl))) (ga_cons (gf_add B (ge_sub (gf_len B (B.gl (by kernel_rfl)) h_len (ga_cons (gn_var (B.nm (by kernel_rfl))) ga_nil rfl)) (gn_var (B.nm (by kernel_rfl)))) ge_int) ga_nil rfl) rfl)) ga_nil rfl) rfl) rfl)) ga_nil rfl) rfl rfl rfl rfl rfl) rfl)
    (gb_one (gs_ret (gn_var (B.nm (by kernel_rfl)))))))))

set_option maxHeartbeats 8000000 in
theorem ok__law_stream {P : Program} {pw : World} {base : Heap} {W : Wd} {fa : Addr} {fd : FuncData} (F : FunD W.K (Str.ofString "_law_stream") (Str.ofString "_law_stream") (defArgs (top 17)) (defBody (top 17)) (defScope (top 17)) [] [] fa fd) (hm : W.mg (Str.ofString "_law_stream") = some (.ref fa)) (hh_list : W.mg (Str.ofString "list") = none) : Cal cvF P pw W base 1 (Str.ofString "_law_stream") ([Str.ofString "script"] : List Str) 1 (g__law_stream) fa fd := by
  refine ⟨fn_def (L := (fun _ => lam0)) (ks := []) F (C8.fnScope_by (N := ([Str.ofString "script"] : List Str)) (by kernel_rfl)) rfl (fun W' X hl D => ?_), hm, F.kp, F.bindsN fun _ _ _ _ _ _ us h => match us, h with | [_], _ => rfl⟩
  · have B := D.toMX.bf
    have hno : ∀ k f ws H', ¬ W'.cl k f ws H' := D.cls
    have h_list : W'.mg (Str.ofString "list") = none := by rw [hl.mg]; exact hh_list
    show GB X W' _ (defBody (top 17)) (m__law_stream)
    unfold m__law_stream
    exact (gb_one (gs_ret (ge_lst (ga_cons (gf_list B (B.gl (by kernel_rfl)) h_list (ga_cons (gn_var (B.nm (by kernel_rfl))) ga_nil rfl)) (ga_cons ge_int (ga_cons ge_int (ga_cons ge_int ga_nil rfl) rfl) rfl) rfl))))

set_option maxHeartbeats 8000000 in
theorem ok__law_draw {P : Program} {pw : World} {base : Heap} {W : Wd} {fa : Addr} {fd : FuncData} (F : FunD W.K (Str.ofString "_law_draw") (Str.ofString "_law_draw") (defArgs (top 18)) (defBody (top 18)) (defScope (top 18)) [] [] fa fd) (hm : W.mg (Str.ofString "_law_draw") = some (.ref fa)) (hh_abs : W.mg (Str.ofString "abs") = none) (hh_int : W.mg (Str.ofString "int") = none) : Cal cvF P pw W base 1 (Str.ofString "_law_draw") ([Str.ofString "stream", Str.ofString "many"] : List Str) 2 (g__law_draw) fa fd := by
  refine ⟨fn_def (L := (fun _ => lam0)) (ks := []) F (C8.fnScope_by (N := ([Str.ofString "stream", Str.ofString "many", Str.ofString "cell", Str.ofString "digit", Str.ofString "mixed"] : List Str)) (by kernel_rfl)) rfl (fun W' X hl D => ?_), hm, F.kp, F.bindsN fun _ _ _ _ _ _ us h => match us, h with | [_, _], _ => rfl⟩
  · have B := D.toMX.bf
    have hno : ∀ k f ws H', ¬ W'.cl k f ws H' := D.cls
    have h_abs : W'.mg (Str.ofString "abs") = none := by rw [hl.mg]; exact hh_abs
    have h_int : W'.mg (Str.ofString "int") = none := by rw [hl.mg]; exact hh_int
    show GB X W' _ (defBody (top 18)) (m__law_draw)
    unfold m__law_draw
    exact (gb_cons (gf_store B (B.nm (by kernel_rfl)) (ge_peekX (ls := []) (gf_add B (gf_ix B (gn_var (B.nm (by kernel_rfl))) ge_int) ge_int)) ge_int)
    (gb_cons (gf_while fuel B (gt_peekX (ls := []) (GW.gt (gw_and (ht_eq B (gf_ix B (gn_var (B.nm (by kernel_rfl))) ge_int) ge_int) (gw_and1 (ht_ne B (gf_ix B (gn_var (B.nm (by kernel_rfl))) ge_int) (ge_lst ga_nil)))))) (gb_cons (gn_set (D.nmS (by kernel_rfl)) (gf_abs B (B.gl (by kernel_rfl)) h_abs (ga_cons (ge_popN (j := 0) (B.nm (by kernel_rfl)) B.K.symm rfl rfl) ga_nil rfl)) rfl)
    (gb_cons (gf_store B (B.nm (by kernel_rfl)) (ge_peekX (ls := []) (ge_mod (gf_int B (B.gl (by kernel_rfl)) h_int (ga_cons (gf_add B (gf_add B (gf_mul (gf_ix B (gn_var (B.nm (by kernel_rfl))) ge_int) ge_int) (gn_var (B.nm (by kernel_rfl)))) ge_int) ga_nil rfl)) ge_int)) ge_int)
    (gb_one (gf_store B (B.nm (by kernel_rfl)) (ge_if (ht_ge (gn_var (B.nm (by kernel_rfl))) (ge_pow ge_int ge_int)) (gn_var (B.nm (by kernel_rfl))) ge_int) ge_int)))))
    (gb_cons (gs_if (gt_peekX (ls := []) (ht_gt (gf_ix B (gn_var (B.nm (by kernel_rfl))) ge_int) ge_int)) (gb_cons (gn_set (D.nmS (by kernel_rfl)) (ge_peekX (ls := []) (ge_mod (gf_int B (B.gl (by kernel_rfl)) h_int (ga_cons (gf_ix B (gn_var (B.nm (by kernel_rfl))) ge_int) ga_nil rfl)) (gn_var (B.nm (by kernel_rfl))))) rfl)
    (gb_cons (gf_store B (B.nm (by kernel_rfl)) (ge_peekX (ls := []) (ge_div (gf_ix B (gn_var (B.nm (by kernel_rfl))) ge_int) (gn_var (B.nm (by kernel_rfl))))) ge_int)
    (gb_one (gs_ret (gn_var (B.nm (by kernel_rfl))))))) gb_nil)
    (gb_cons (gn_set (D.nmS (by kernel_rfl)) (ge_peekX (ls := []) (ge_mod (gf_int B (B.gl (by kernel_rfl)) h_int (ga_cons (ge_pow (gf_add B (gf_add B (gf_ix B (gn_var (B.nm (by kernel_rfl))) ge_int) (gf_mul ge_int (gf_ix B (gn_var (B.nm (by kernel_rfl))) ge_int))) ge_int) ge_int) ga_nil rfl)) ge_int)) rfl)
    (gb_one (gs_ret (ge_peekX (ls := []) (ge_mod (ge_mod (gf_int B (B.gl (by kernel_rfl)) h_int (ga_cons (ge_pow (gf_add B (gf_add B (gf_mul (gn_var (B.nm (by kernel_rfl))) ge_int) (gf_mul ge_int (gf_ix B (gn_var (B.nm (by kernel_rfl))) ge_int))) ge_int) ge_int) ga_nil rfl)) ge_int) (gn_var (B.nm (by kernel_rfl)))))))))))

set_option maxHeartbeats 8000000 in
theorem ok__law_pick {P : Program} {pw : World} {base : Heap} {W : Wd} {fa : Addr} {fd : FuncData} (F : FunD W.K (Str.ofString "_law_pick") (Str.ofString "_law_pick") (defArgs (top 19)) (defBody (top 19)) (defScope (top 19)) [] [] fa fd) (hm : W.mg (Str.ofString "_law_pick") = some (.ref fa)) (hh_len : W.mg (Str.ofString "len") = none) {a__law_draw : Addr} {fd__law_draw : FuncData} (c__law_draw : Cal cvF P pw W base 1 (Str.ofString "_law_draw") ([Str.ofString "stream", Str.ofString "many"] : List Str) 2 (g__law_draw) a__law_draw fd__law_draw) : Cal cvF P pw W base 2 (Str.ofString "_law_pick") ([Str.ofString "stream", Str.ofString "things"] : List Str) 2 (g__law_pick) fa fd := by
  refine ⟨fn_def (L := (fun _ => lam0)) (ks := []) F (C8.fnScope_by (N := ([Str.ofString "stream", Str.ofString "things"] : List Str)) (by kernel_rfl)) rfl (fun W' X hl D => ?_), hm, F.kp, F.bindsN fun _ _ _ _ _ _ us h => match us, h with | [_, _], _ => rfl⟩
  · have B := D.toMX.bf
    have hno : ∀ k f ws H', ¬ W'.cl k f ws H' := D.cls
    have h_len : W'.mg (Str.ofString "len") = none := by rw [hl.mg]; exact hh_len
    show GB X W' _ (defBody (top 19)) (m__law_pick)
    unfold m__law_pick
    exact (gb_one (gs_ret (gf_ix B (gn_var (B.nm (by kernel_rfl))) (gc_call hl hno B c__law_draw (by omega) (B.gl (by kernel_rfl)) (gn_mut (B.nm (by kernel_rfl)) (gav_cons (gf_len B (B.gl (by kernel_rfl)) h_len (ga_cons (gn_var (B.nm (by kernel_rfl))) ga_nil rfl)) gav_nil rfl) rfl)))))

set_option maxHeartbeats 8000000 in
theorem ok__law_same {P : Program} {pw : World} {base : Heap} {W : Wd} {fa : Addr} {fd : FuncData} (F : FunD W.K (Str.ofString "_law_same") (Str.ofString "_law_same") (defArgs (top 20)) (defBody (top 20)) (defScope (top 20)) [] [] fa fd) (hm : W.mg (Str.ofString "_law_same") = some (.ref fa)) (hh_all : W.mg (Str.ofString "all") = none) (hh_bool : W.mg (Str.ofString "bool") = none) (hh_dict : W.mg (Str.ofString "dict") = none) (hh_int : W.mg (Str.ofString "int") = none) (hh_isinstance : W.mg (Str.ofString "isinstance") = none) (hh_len : W.mg (Str.ofString "len") = none) (hh_list : W.mg (Str.ofString "list") = none) (hh_str : W.mg (Str.ofString "str") = none) (hh_tuple : W.mg (Str.ofString "tuple") = none) (hh_zip : W.mg (Str.ofString "zip") = none) (bd : Binds W.K fd ([Str.ofString "found", Str.ofString "due"] : List Str) []) : ∀ q, Cal cvF P pw W base (1 + q) (Str.ofString "_law_same") ([Str.ofString "found", Str.ofString "due"] : List Str) 2 (g__law_same q) fa fd
  | 0 => cal_bad hm F.kp bd rfl
  | q + 1 => by
    have c_self := ok__law_same (P := P) (pw := pw) (base := base) F hm hh_all hh_bool hh_dict hh_int hh_isinstance hh_len hh_list hh_str hh_tuple hh_zip bd q
    refine ⟨fn_def (L := (fun _ => lam0)) (ks := []) F (C8.fnScope_by (N := ([Str.ofString "found", Str.ofString "due", Str.ofString "mine", Str.ofString "theirs"] : List Str)) (by kernel_rfl)) rfl (fun W' X hl D => ?_), hm, F.kp, bd⟩
    have B := D.toMX.bf
    have hno : ∀ k f ws H', ¬ W'.cl k f ws H' := D.cls
    have h_all : W'.mg (Str.ofString "all") = none := by rw [hl.mg]; exact hh_all
    have h_bool : W'.mg (Str.ofString "bool") = none := by rw [hl.mg]; exact hh_bool
    have h_dict : W'.mg (Str.ofString "dict") = none := by rw [hl.mg]; exact hh_dict
    have h_int : W'.mg (Str.ofString "int") = none := by rw [hl.mg]; exact hh_int
    have h_isinstance : W'.mg (Str.ofString "isinstance") = none := by rw [hl.mg]; exact hh_isinstance
    have h_len : W'.mg (Str.ofString "len") = none := by rw [hl.mg]; exact hh_len
    have h_list : W'.mg (Str.ofString "list") = none := by rw [hl.mg]; exact hh_list
    have h_str : W'.mg (Str.ofString "str") = none := by rw [hl.mg]; exact hh_str
    have h_tuple : W'.mg (Str.ofString "tuple") = none := by rw [hl.mg]; exact hh_tuple
    have h_zip : W'.mg (Str.ofString "zip") = none := by rw [hl.mg]; exact hh_zip
    show GB X W' _ (defBody (top 20)) (m__law_same (g__law_same q))
    unfold m__law_same
    exact (gb_cons (gs_if (ht_tru (gf_isinstance B (B.gl (by kernel_rfl)) h_isinstance (ga_cons (gn_var (B.nm (by kernel_rfl))) (ga_cons (ge_tup (x1 := 0) (ga_cons (gf_ty B (B.gl (by kernel_rfl)) h_list boot_list (by decide)) (ga_cons (gf_ty B (B.gl (by kernel_rfl)) h_tuple boot_tuple (by decide)) ga_nil rfl) rfl)) ga_nil rfl) rfl))) (gb_cons (gs_if (GW.gt (gw_or (ht_ne B (gf_isinstance B (B.gl (by kernel_rfl)) h_isinstance (ga_cons (gn_var (B.nm (by kernel_rfl))) (ga_cons (gf_ty B (B.gl (by kernel_rfl)) h_list boot_list (by decide)) ga_nil rfl) rfl)) (gf_isinstance B (B.gl (by kernel_rfl)) h_isinstance (ga_cons (gn_var (B.nm (by kernel_rfl))) (ga_cons (gf_ty B (B.gl (by kernel_rfl)) h_list boot_list (by decide)) ga_nil rfl) rfl))) (gw_or1 (ht_ne B (gf_isinstance B (B.gl (by kernel_rfl)) h_isinstance (ga_cons (gn_var (B.nm (by kernel_rfl))) (ga_cons (gf_ty B (B.gl (by kernel_rfl)) h_tuple boot_tuple (by decide)) ga_nil rfl) rfl)) (gf_isinstance B (B.gl (by kernel_rfl)) h_isinstance (ga_cons (gn_var (B.nm (by kernel_rfl))) (ga_cons (gf_ty B (B.gl (by kernel_rfl)) h_tuple boot_tuple (by decide)) ga_nil rfl) rfl)))))) (gb_one (gs_ret ge_bl)) gb_nil)
    (gb_one (gs_ret (ge_and (gf_eq B (gf_len B (B.gl (by kernel_rfl)) h_len (ga_cons (gn_var (B.nm (by kernel_rfl))) ga_nil rfl)) (gf_len B (B.gl (by kernel_rfl)) h_len (ga_cons (gn_var (B.nm (by kernel_rfl))) ga_nil rfl))) (ge_one (gf_all B (B.gl (by kernel_rfl)) h_all (ga_cons (gf_lc [(Str.ofString "mine", 2), (Str.ofString "theirs", 3)] B (by decide) (gf_zip B (B.gl (by kernel_rfl)) h_zip (ga_cons (gn_var (B.nm (by kernel_rfl))) (ga_cons (gn_var (B.nm (by kernel_rfl))) ga_nil rfl) rfl)) (by kernel_rfl) (fun X1 B1 => (gf_tgt B1 (ggs_cons (gn_name (nmS_ofB B1.N B1.sc (by kernel_rfl))) (ggs_cons (gn_name (nmS_ofB B1.N B1.sc (by kernel_rfl))) ggs_nil rfl) rfl))) (fun X1 B1 => gts_nil) (fun X1 B1 => (gc_call hl hno B1 c_self (Nat.le_refl _) (B1.gl (by kernel_rfl)) (gav_cons (gn_var (B1.nm (by kernel_rfl))) (gav_cons (gn_var (B1.nm (by kernel_rfl))) gav_nil rfl) rfl)))) ga_nil rfl))))))) gb_nil)
    (gb_cons (gs_if (ht_tru (gf_isinstance B (B.gl (by kernel_rfl)) h_isinstance (ga_cons (gn_var (B.nm (by kernel_rfl))) (ga_cons (gf_ty B (B.gl (by kernel_rfl)) h_dict boot_dict (by decide)) ga_nil rfl) rfl))) (gb_one (gs_ret (ge_and (gf_isinstance B (B.gl (by kernel_rfl)) h_isinstance (ga_cons (gn_var (B.nm (by kernel_rfl))) (ga_cons (gf_ty B (B.gl (by kernel_rfl)) h_dict boot_dict (by decide)) ga_nil rfl) rfl)) (ge_one (gc_call hl hno B c_self (Nat.le_refl _) (B.gl (by kernel_rfl)) (gav_cons (ge_listItems B (B.gl (by kernel_rfl)) h_list (gn_var (B.nm (by kernel_rfl)))) (gav_cons (ge_listItems B (B.gl (by kernel_rfl)) h_list (gn_var (B.nm (by kernel_rfl)))) gav_nil rfl) rfl)))))) gb_nil)
    (gb_cons (gs_if (GW.gt (gw_or (ht_tru (gf_isinstance B (B.gl (by kernel_rfl)) h_isinstance (ga_cons (gn_var (B.nm (by kernel_rfl))) (ga_cons (gf_ty B (B.gl (by kernel_rfl)) h_bool boot_bool (by decide)) ga_nil rfl) rfl))) (gw_or1 (ht_tru (gf_isinstance B (B.gl (by kernel_rfl)) h_isinstance (ga_cons (gn_var (B.nm (by kernel_rfl))) (ga_cons (gf_ty B (B.gl (by kernel_rfl)) h_bool boot_bool (by decide)) ga_nil rfl) rfl)))))) (gb_one (gs_ret (ge_and (gf_isinstance B (B.gl (by kernel_rfl)) h_isinstance (ga_cons (gn_var (B.nm (by kernel_rfl))) (ga_cons (gf_ty B (B.gl (by kernel_rfl)) h_bool boot_bool (by decide)) ga_nil rfl) rfl)) (ge_and (gf_isinstance B (B.gl (by kernel_rfl)) h_isinstance (ga_cons (gn_var (B.nm (by kernel_rfl))) (ga_cons (gf_ty B (B.gl (by kernel_rfl)) h_bool boot_bool (by decide)) ga_nil rfl) rfl)) (ge_one (gf_eq B (gn_var (B.nm (by kernel_rfl))) (gn_var (B.nm (by kernel_rfl))))))))) gb_nil)
    (gb_cons (gs_if (GW.gt (gw_or (ht_is (gn_var (B.nm (by kernel_rfl))) ge_non) (gw_or1 (ht_is (gn_var (B.nm (by kernel_rfl))) ge_non)))) (gb_one (gs_ret (ge_and (ge_is (gn_var (B.nm (by kernel_rfl))) ge_non) (ge_one (ge_is (gn_var (B.nm (by kernel_rfl))) ge_non))))) gb_nil)
    (gb_cons (gs_if (GW.gt (gw_or (ht_ne B (gf_isinstance B (B.gl (by kernel_rfl)) h_isinstance (ga_cons (gn_var (B.nm (by kernel_rfl))) (ga_cons (gf_ty B (B.gl (by kernel_rfl)) h_int boot_int (by decide)) ga_nil rfl) rfl)) (gf_isinstance B (B.gl (by kernel_rfl)) h_isinstance (ga_cons (gn_var (B.nm (by kernel_rfl))) (ga_cons (gf_ty B (B.gl (by kernel_rfl)) h_int boot_int (by decide)) ga_nil rfl) rfl))) (gw_or1 (ht_ne B (gf_isinstance B (B.gl (by kernel_rfl)) h_isinstance (ga_cons (gn_var (B.nm (by kernel_rfl))) (ga_cons (gf_ty B (B.gl (by kernel_rfl)) h_str boot_str (by decide)) ga_nil rfl) rfl)) (gf_isinstance B (B.gl (by kernel_rfl)) h_isinstance (ga_cons (gn_var (B.nm (by kernel_rfl))) (ga_cons (gf_ty B (B.gl (by kernel_rfl)) h_str boot_str (by decide)) ga_nil rfl) rfl)))))) (gb_one (gs_ret ge_bl)) gb_nil)
    (gb_one (gs_ret (ge_and (ge_not (gf_isinstance B (B.gl (by kernel_rfl)) h_isinstance (ga_cons (gn_var (B.nm (by kernel_rfl))) (ga_cons (ge_tup (x1 := 0) (ga_cons (gf_ty B (B.gl (by kernel_rfl)) h_list boot_list (by decide)) (ga_cons (gf_ty B (B.gl (by kernel_rfl)) h_tuple boot_tuple (by decide)) (ga_cons (gf_ty B (B.gl (by kernel_rfl)) h_dict boot_dict (by decide)) ga_nil rfl) rfl) rfl)) ga_nil rfl) rfl))) (ge_one (gf_eq B (gn_var (B.nm (by kernel_rfl))) (gn_var (B.nm (by kernel_rfl)))))))))))))

set_option maxHeartbeats 8000000 in
theorem ok__law_spoilt {P : Program} {pw : World} {base : Heap} {W : Wd} {fa : Addr} {fd : FuncData} (F : FunD W.K (Str.ofString "_law_spoilt") (Str.ofString "_law_spoilt") (defArgs (top 21)) (defBody (top 21)) (defScope (top 21)) [] [] fa fd) (hm : W.mg (Str.ofString "_law_spoilt") = some (.ref fa)) (hh_isinstance : W.mg (Str.ofString "isinstance") = none) (hh_list : W.mg (Str.ofString "list") = none) (hh_tuple : W.mg (Str.ofString "tuple") = none) (bd : Binds W.K fd ([Str.ofString "thing"] : List Str) []) : ∀ q, Cal cvF P pw W base (1 + q) (Str.ofString "_law_spoilt") ([Str.ofString "thing"] : List Str) 1 (g__law_spoilt q) fa fd
  | 0 => cal_bad hm F.kp bd rfl
  | q + 1 => by
    have c_self := ok__law_spoilt (P := P) (pw := pw) (base := base) F hm hh_isinstance hh_list hh_tuple bd q
    refine ⟨fn_def (L := (fun _ => lam0)) (ks := []) F (C8.fnScope_by (N := ([Str.ofString "thing", Str.ofString "part"] : List Str)) (by kernel_rfl)) rfl (fun W' X hl D => ?_), hm, F.kp, bd⟩
    have B := D.toMX.bf
    have hno : ∀ k f ws H', ¬ W'.cl k f ws H' := D.cls
    have h_isinstance : W'.mg (Str.ofString "isinstance") = none := by rw [hl.mg]; exact hh_isinstance
    have h_list : W'.mg (Str.ofString "list") = none := by rw [hl.mg]; exact hh_list
    have h_tuple : W'.mg (Str.ofString "tuple") = none := by rw [hl.mg]; exact hh_tuple
    show GB X W' _ (defBody (top 21)) (m__law_spoilt (g__law_spoilt q))
    unfold m__law_spoilt
    exact (gb_cons (gs_if (gt_peekX (ls := []) (ht_tru (ge_peekX (ls := []) (gf_isinstance B (B.gl (by kernel_rfl)) h_isinstance (ga_cons (gn_var (B.nm (by kernel_rfl))) (ga_cons (ge_tup (x1 := 0) (ga_cons (gf_ty B (B.gl (by kernel_rfl)) h_list boot_list (by decide)) (ga_cons (gf_ty B (B.gl (by kernel_rfl)) h_tuple boot_tuple (by decide)) ga_nil rfl) rfl)) ga_nil rfl) rfl))))) (gb_one (gf_forLend B (B.nm (by kernel_rfl)) (D.nmS (by kernel_rfl)) (by decide) (by decide) (gb_one (gs_expr (gc_call hl hno B c_self (Nat.le_refl _) (B.gl (by kernel_rfl)) (gn_mut (B.nm (by kernel_rfl)) gav_nil rfl)) rfl)))) gb_nil)
    (gb_one (gs_if (gt_peekX (ls := []) (ht_tru (ge_peekX (ls := []) (gf_isinstance B (B.gl (by kernel_rfl)) h_isinstance (ga_cons (gn_var (B.nm (by kernel_rfl))) (ga_cons (gf_ty B (B.gl (by kernel_rfl)) h_list boot_list (by decide)) ga_nil rfl) rfl))))) (gb_one (gs_expr (gm_append (B.nm (by kernel_rfl)) (ga_cons ge_str ga_nil rfl) rfl rfl rfl rfl rfl) rfl)) gb_nil)))

set_option maxHeartbeats 8000000 in
theorem ok__law_copied {P : Program} {pw : World} {base : Heap} {W : Wd} {fa : Addr} {fd : FuncData} (F : FunD W.K (Str.ofString "_law_copied") (Str.ofString "_law_copied") (defArgs (top 22)) (defBody (top 22)) (defScope (top 22)) [] [] fa fd) (hm : W.mg (Str.ofString "_law_copied") = some (.ref fa)) (hh_dict : W.mg (Str.ofString "dict") = none) (hh_isinstance : W.mg (Str.ofString "isinstance") = none) (hh_list : W.mg (Str.ofString "list") = none) (hh_tuple : W.mg (Str.ofString "tuple") = none) (bd : Binds W.K fd ([Str.ofString "thing"] : List Str) []) : ∀ q, Cal cvF P pw W base (1 + q) (Str.ofString "_law_copied") ([Str.ofString "thing"] : List Str) 1 (g__law_copied q) fa fd
  | 0 => cal_bad hm F.kp bd rfl
  | q + 1 => by
    have c_self := ok__law_copied (P := P) (pw := pw) (base := base) F hm hh_dict hh_isinstance hh_list hh_tuple bd q
    refine ⟨fn_def (L := (fun _ => lam0)) (ks := []) F (C8.fnScope_by (N := ([Str.ofString "thing", Str.ofString "key", Str.ofString "some", Str.ofString "one"] : List Str)) (by kernel_rfl)) rfl (fun W' X hl D => ?_), hm, F.kp, bd⟩
    have B := D.toMX.bf
    have hno : ∀ k f ws H', ¬ W'.cl k f ws H' := D.cls
    have h_dict : W'.mg (Str.ofString "dict") = none := by rw [hl.mg]; exact hh_dict
    have h_isinstance : W'.mg (Str.ofString "isinstance") = none := by rw [hl.mg]; exact hh_isinstance
    have h_list : W'.mg (Str.ofString "list") = none := by rw [hl.mg]; exact hh_list
    have h_tuple : W'.mg (Str.ofString "tuple") = none := by rw [hl.mg]; exact hh_tuple
    show GB X W' _ (defBody (top 22)) (m__law_copied (g__law_copied q))
    unfold m__law_copied
    exact (gb_cons (gs_if (ht_tru (gf_isinstance B (B.gl (by kernel_rfl)) h_isinstance (ga_cons (gn_var (B.nm (by kernel_rfl))) (ga_cons (gf_ty B (B.gl (by kernel_rfl)) h_dict boot_dict (by decide)) ga_nil rfl) rfl))) (gb_one (gs_ret ge_bad)) gb_nil)
    (gb_cons (gn_set (D.nmS (by kernel_rfl)) (ge_if (ht_tru (gf_isinstance B (B.gl (by kernel_rfl)) h_isinstance (ga_cons (gn_var (B.nm (by kernel_rfl))) (ga_cons (ge_tup (x1 := 0) (ga_cons (gf_ty B (B.gl (by kernel_rfl)) h_list boot_list (by decide)) (ga_cons (gf_ty B (B.gl (by kernel_rfl)) h_tuple boot_tuple (by decide)) ga_nil rfl) rfl)) ga_nil rfl) rfl))) (gf_lc [(Str.ofString "one", 3)] B (by decide) (gi_seq (gn_var (B.nm (by kernel_rfl)))) (by kernel_rfl) (fun X1 B1 => (gn_name (nmS_ofB B1.N B1.sc (by kernel_rfl)))) (fun X1 B1 => gts_nil) (fun X1 B1 => (gc_call hl hno B1 c_self (Nat.le_refl _) (B1.gl (by kernel_rfl)) (gav_cons (gn_var (B1.nm (by kernel_rfl))) gav_nil rfl)))) (gn_var (B.nm (by kernel_rfl)))) rfl)
    (gb_one (gs_ret (ge_if (ht_tru (gf_isinstance B (B.gl (by kernel_rfl)) h_isinstance (ga_cons (gn_var (B.nm (by kernel_rfl))) (ga_cons (gf_ty B (B.gl (by kernel_rfl)) h_tuple boot_tuple (by decide)) ga_nil rfl) rfl))) (gf_tuple B (B.gl (by kernel_rfl)) h_tuple (ga_cons (gn_var (B.nm (by kernel_rfl))) ga_nil rfl)) (gn_var (B.nm (by kernel_rfl))))))))

set_option maxHeartbeats 8000000 in
theorem ok__law_a_mark {P : Program} {pw : World} {base : Heap} {W : Wd} {fa : Addr} {fd : FuncData} (F : FunD W.K (Str.ofString "_law_a_mark") (Str.ofString "_law_a_mark") (defArgs (top 26)) (defBody (top 26)) (defScope (top 26)) [] [] fa fd) (hm : W.mg (Str.ofString "_law_a_mark") = some (.ref fa)) (hh_list : W.mg (Str.ofString "list") = none) (hh_range : W.mg (Str.ofString "range") = none) (hh_str : W.mg (Str.ofString "str") = none) {a__law_draw : Addr} {fd__law_draw : FuncData} (c__law_draw : Cal cvF P pw W base 1 (Str.ofString "_law_draw") ([Str.ofString "stream", Str.ofString "many"] : List Str) 2 (g__law_draw) a__law_draw fd__law_draw) {a__law_pick : Addr} {fd__law_pick : FuncData} (c__law_pick : Cal cvF P pw W base 2 (Str.ofString "_law_pick") ([Str.ofString "stream", Str.ofString "things"] : List Str) 2 (g__law_pick) a__law_pick fd__law_pick) : Cal cvF P pw W base 3 (Str.ofString "_law_a_mark") ([Str.ofString "stream"] : List Str) 1 (g__law_a_mark) fa fd := by
  refine ⟨fn_def (L := (fun _ => lam0)) (ks := []) F (C8.fnScope_by (N := ([Str.ofString "stream", Str.ofString "words", Str.ofString "way", Str.ofString "word", Str.ofString "sign", Str.ofString "letters", Str.ofString "long", Str.ofString "k", Str.ofString "wrong", Str.ofString "text"] : List Str)) (by kernel_rfl)) rfl (fun W' X hl D => ?_), hm, F.kp, F.bindsN fun _ _ _ _ _ _ us h => match us, h with | [_], _ => rfl⟩
  · have B := D.toMX.bf
    have hno : ∀ k f ws H', ¬ W'.cl k f ws H' := D.cls
    have h_list : W'.mg (Str.ofString "list") = none := by rw [hl.mg]; exact hh_list
    have h_range : W'.mg (Str.ofString "range") = none := by rw [hl.mg]; exact hh_range
    have h_str : W'.mg (Str.ofString "str") = none := by rw [hl.mg]; exact hh_str
    show GB X W' _ (defBody (top 26)) (m__law_a_mark)
    unfold m__law_a_mark
    exact (gb_cons (gf_par2 D.sc B (by kernel_rfl) (by kernel_rfl) (by decide) (ga_cons (ge_lst (ga_cons ge_str (ga_cons ge_str (ga_cons ge_str (ga_cons ge_str (ga_cons ge_str (ga_cons ge_str ga_nil rfl) rfl) rfl) rfl) rfl) rfl)) (ga_cons (gc_call hl hno B c__law_draw (by omega) (B.gl (by kernel_rfl)) (gn_mut (B.nm (by kernel_rfl)) (gav_cons ge_int gav_nil rfl) rfl)) ga_nil rfl) rfl) (by kernel_rfl))
    (gb_cons (gs_if (ht_lt (gn_var (B.nm (by kernel_rfl))) ge_int) (gb_cons (gn_set (D.nmS (by kernel_rfl)) (gc_call hl hno B c__law_pick (by omega) (B.gl (by kernel_rfl)) (gn_mut (B.nm (by kernel_rfl)) (gav_cons (gn_var (B.nm (by kernel_rfl))) gav_nil rfl) rfl)) rfl)
    (gb_one (gs_ret (ge_tup (x1 := 0) (ga_cons (gn_var (B.nm (by kernel_rfl))) (ga_cons (gn_var (B.nm (by kernel_rfl))) ga_nil rfl) rfl))))) gb_nil)
    (gb_cons (gs_if (ht_lt (gn_var (B.nm (by kernel_rfl))) ge_int) (gb_cons (gn_set (D.nmS (by kernel_rfl)) (gc_call hl hno B c__law_pick (by omega) (B.gl (by kernel_rfl)) (gn_mut (B.nm (by kernel_rfl)) (gav_cons (gf_list B (B.gl (by kernel_rfl)) h_list (ga_cons ge_str ga_nil rfl)) gav_nil rfl) rfl)) rfl)
    (gb_one (gs_ret (ge_tup (x1 := 0) (ga_cons (gn_var (B.nm (by kernel_rfl))) (ga_cons (gn_var (B.nm (by kernel_rfl))) ga_nil rfl) rfl))))) gb_nil)
    (gb_cons (gs_if (ht_eq B (gn_var (B.nm (by kernel_rfl))) ge_int) (gb_one (gs_ret (ge_tup (x1 := 0) (ga_cons ge_str (ga_cons (gf_str B (B.gl (by kernel_rfl)) h_str (ga_cons (gc_call hl hno B c__law_pick (by omega) (B.gl (by kernel_rfl)) (gn_mut (B.nm (by kernel_rfl)) (gav_cons (ge_lst (ga_cons ge_int (ga_cons ge_int (ga_cons ge_int (ga_cons ge_int (ga_cons (gc_call hl hno B c__law_draw (by omega) (B.gl (by kernel_rfl)) (gn_mut (B.nm (by kernel_rfl)) (gav_cons (ge_pow ge_int ge_int) gav_nil rfl) rfl)) (ga_cons (ge_sub ge_int (gc_call hl hno B c__law_draw (by omega) (B.gl (by kernel_rfl)) (gn_mut (B.nm (by kernel_rfl)) (gav_cons (ge_pow ge_int ge_int) gav_nil rfl) rfl))) ga_nil rfl) rfl) rfl) rfl) rfl) rfl)) gav_nil rfl) rfl)) ga_nil rfl)) ga_nil rfl) rfl)))) gb_nil)
    (gb_cons (gn_set (D.nmS (by kernel_rfl)) (gf_list B (B.gl (by kernel_rfl)) h_list (ga_cons ge_str ga_nil rfl)) rfl)
    (gb_cons (gs_if (ht_eq B (gn_var (B.nm (by kernel_rfl))) ge_int) (gb_cons (gn_set (D.nmS (by kernel_rfl)) (ge_peekX (ls := [0]) (gf_add B (gc_call hl hno B c__law_pick (by omega) (B.gl (by kernel_rfl)) (gn_mut (B.nm (by kernel_rfl)) (gav_cons (ge_lst (ga_cons ge_str (ga_cons ge_str ga_nil rfl) rfl)) gav_nil rfl) rfl)) (gf_join B ge_str (gf_lc [(Str.ofString "k", 7)] B (by decide) (gf_range1 B (B.gl (by kernel_rfl)) h_range (ga_cons (gf_add B ge_int (gc_call hl hno B c__law_draw (by omega) (B.gl (by kernel_rfl)) (gn_mut (B.nm (by kernel_rfl)) (gav_cons ge_int gav_nil rfl) rfl))) ga_nil rfl)) (by kernel_rfl) (fun X1 B1 => (gn_name (nmS_ofB B1.N B1.sc (by kernel_rfl)))) (fun X1 B1 => gts_nil) (fun X1 B1 => (gc_call hl hno B1 c__law_pick (by omega) (B1.gl (by kernel_rfl)) (gn_mut (B1.nm (by kernel_rfl)) (gav_cons (gn_var (B1.nm (by kernel_rfl))) gav_nil rfl) rfl))))))) rfl)
    (gb_cons (gn_set (D.nmS (by kernel_rfl)) (ge_lst (ga_cons (gn_var (B.nm (by kernel_rfl))) (ga_cons ge_str (ga_cons (gf_mul ge_str (gc_call hl hno B c__law_pick (by omega) (B.gl (by kernel_rfl)) (gn_mut (B.nm (by kernel_rfl)) (gav_cons (ge_lst (ga_cons ge_int (ga_cons ge_int (ga_cons ge_int (ga_cons ge_int ga_nil rfl) rfl) rfl) rfl)) gav_nil rfl) rfl))) (ga_cons ge_str (ga_cons ge_str (ga_cons ge_str (ga_cons (gc_call hl hno B c__law_pick (by omega) (B.gl (by kernel_rfl)) (gn_mut (B.nm (by kernel_rfl)) (gav_cons (gf_list B (B.gl (by kernel_rfl)) h_list (ga_cons ge_str ga_nil rfl)) gav_nil rfl) rfl)) ga_nil rfl) rfl) rfl) rfl) rfl) rfl) rfl)) rfl)
    (gb_one (gs_ret (ge_tup (x1 := 0) (ga_cons ge_str (ga_cons (gc_call hl hno B c__law_pick (by omega) (B.gl (by kernel_rfl)) (gn_mut (B.nm (by kernel_rfl)) (gav_cons (gn_var (B.nm (by kernel_rfl))) gav_nil rfl) rfl)) ga_nil rfl) rfl)))))) gb_nil)
    (gb_cons (gn_set (D.nmS (by kernel_rfl)) (ge_peekX (ls := [0]) (gf_add B (gc_call hl hno B c__law_pick (by omega) (B.gl (by kernel_rfl)) (gn_mut (B.nm (by kernel_rfl)) (gav_cons (ge_lst (ga_cons ge_str (ga_cons ge_str (ga_cons ge_str ga_nil rfl) rfl) rfl)) gav_nil rfl) rfl)) (gf_join B ge_str (gf_lc [(Str.ofString "k", 7)] B (by decide) (gf_range1 B (B.gl (by kernel_rfl)) h_range (ga_cons (gc_call hl hno B c__law_draw (by omega) (B.gl (by kernel_rfl)) (gn_mut (B.nm (by kernel_rfl)) (gav_cons ge_int gav_nil rfl) rfl)) ga_nil rfl)) (by kernel_rfl) (fun X2 B2 => (gn_name (nmS_ofB B2.N B2.sc (by kernel_rfl)))) (fun X2 B2 => gts_nil) (fun X2 B2 => (gc_call hl hno B2 c__law_pick (by omega) (B2.gl (by kernel_rfl)) (gn_mut (B2.nm (by kernel_rfl)) (gav_cons (gn_var (B2.nm (by kernel_rfl))) gav_nil rfl) rfl))))))) rfl)
    (gb_one (gs_ret (ge_tup (x1 := 0) (ga_cons (ge_if (ht_in B (gn_var (B.nm (by kernel_rfl))) (gn_var (B.nm (by kernel_rfl)))) (gn_var (B.nm (by kernel_rfl))) ge_str) (ga_cons (gn_var (B.nm (by kernel_rfl))) ga_nil rfl) rfl)))))))))))

set_option maxHeartbeats 4000000 in
theorem lok_0 : LamOk ([Str.ofString "word", Str.ofString "ask", Str.ofString "odd", Str.ofString "found"] : List Str) (defScope (top 23)) ((Str.ofString "_law_is_very") ++ ".<locals>." ++ "<lambda>") lam_0 := ⟨rfl, rfl, rfl, lamP_by (by kernel_rfl), caps_by (by kernel_rfl), fun _ _ _ _ _ us h => match us, h with | [], _ => rfl, fun _ => rfl⟩
set_option maxHeartbeats 4000000 in
theorem lamok_0 {P : Program} {pw : World} {base : Heap} {W : Wd} (hTbl : ∀ x n g, tbl x = some (n, g) → ∃ j f fd ps, Cal cvF P pw W base j x ps n g f fd ∧ j ≤ 3) {cv : CV} {W' : Wd} {X : Cx} (hl : W.Like W') (D : MX cv P pw W' base lam_0.own lam_0.scope 3 X) : GE X W' lam_0.body gm_0 := by
  have B := D.bf
  unfold gm_0
  exact (ge_callGlo hl B hTbl (B.nm (by kernel_rfl)) (ga_cons (gn_var (B.nm (by kernel_rfl))) ga_nil rfl))
set_option maxHeartbeats 4000000 in
theorem lok_1 : LamOk ([Str.ofString "script", Str.ofString "stream", Str.ofString "turn", Str.ofString "some", Str.ofString "k", Str.ofString "one", Str.ofString "text", Str.ofString "places", Str.ofString "kind", Str.ofString "sign", Str.ofString "plain", Str.ofString "gap", Str.ofString "due", Str.ofString "place", Str.ofString "glued", Str.ofString "kinds", Str.ofString "told", Str.ofString "odd"] : List Str) (defScope (top 27)) ((Str.ofString "law") ++ ".<locals>." ++ "<lambda>") lam_1 := ⟨rfl, rfl, rfl, lamP_by (by kernel_rfl), caps_by (by kernel_rfl), fun _ _ _ _ _ us h => match us, h with | [], _ => rfl, fun _ => rfl⟩
set_option maxHeartbeats 4000000 in
theorem lamok_1 {P : Program} {pw : World} {base : Heap} {W : Wd} {a_marks_of : Addr} {fd_marks_of : FuncData} (c_marks_of : Cal cvF P pw W base 3 (Str.ofString "marks_of") ([Str.ofString "text"] : List Str) 1 (g_marks_of) a_marks_of fd_marks_of) {cv : CV} {W' : Wd} {X : Cx} (hl : W.Like W') (D : MX cv P pw W' base lam_1.own lam_1.scope 3 X) : GE X W' lam_1.body gm_1 := by
  have B := D.bf
  unfold gm_1
  exact (gc_callN hl B c_marks_of (by omega) (B.gl (by kernel_rfl)) (gav_cons (gn_var (B.nm (by kernel_rfl))) gav_nil rfl))
set_option maxHeartbeats 4000000 in
theorem lok_2 : LamOk ([Str.ofString "script", Str.ofString "stream", Str.ofString "turn", Str.ofString "some", Str.ofString "k", Str.ofString "one", Str.ofString "text", Str.ofString "places", Str.ofString "kind", Str.ofString "sign", Str.ofString "plain", Str.ofString "gap", Str.ofString "due", Str.ofString "place", Str.ofString "glued", Str.ofString "kinds", Str.ofString "told", Str.ofString "odd"] : List Str) (defScope (top 27)) ((Str.ofString "law") ++ ".<locals>." ++ "<lambda>") lam_2 := ⟨rfl, rfl, rfl, lamP_by (by kernel_rfl), caps_by (by kernel_rfl), fun _ _ _ _ _ us h => match us, h with | [], _ => rfl, fun _ => rfl⟩
set_option maxHeartbeats 4000000 in
theorem lamok_2 {P : Program} {pw : World} {base : Heap} {W : Wd} {a_marks_of : Addr} {fd_marks_of : FuncData} (c_marks_of : Cal cvF P pw W base 3 (Str.ofString "marks_of") ([Str.ofString "text"] : List Str) 1 (g_marks_of) a_marks_of fd_marks_of) (kb_marks_of_0_text : KB W.K fd_marks_of ([Str.ofString "text"] : List Str) [Str.ofString "text"] 0 [0]) {cv : CV} {W' : Wd} {X : Cx} (hl : W.Like W') (D : MX cv P pw W' base lam_2.own lam_2.scope 3 X) : GE X W' lam_2.body gm_2 := by
  have B := D.bf
  unfold gm_2
  exact (gc_callK0 hl B c_marks_of kb_marks_of_0_text (by omega) (B.gl (by kernel_rfl)) (gk_cons (gn_var (B.nm (by kernel_rfl))) gk_nil) (mCons_len mNil_len))
set_option maxHeartbeats 4000000 in
theorem lok_3 : LamOk ([Str.ofString "script", Str.ofString "stream", Str.ofString "turn", Str.ofString "some", Str.ofString "k", Str.ofString "one", Str.ofString "text", Str.ofString "places", Str.ofString "kind", Str.ofString "sign", Str.ofString "plain", Str.ofString "gap", Str.ofString "due", Str.ofString "place", Str.ofString "glued", Str.ofString "kinds", Str.ofString "told", Str.ofString "odd"] : List Str) (defScope (top 27)) ((Str.ofString "law") ++ ".<locals>." ++ "<lambda>") lam_3 := ⟨rfl, rfl, rfl, lamP_by (by kernel_rfl), caps_by (by kernel_rfl), fun _ _ _ _ _ us h => match us, h with | [], _ => rfl, fun _ => rfl⟩
set_option maxHeartbeats 4000000 in
theorem lamok_3 {P : Program} {pw : World} {base : Heap} {W : Wd} {a_marks_of : Addr} {fd_marks_of : FuncData} (c_marks_of : Cal cvF P pw W base 3 (Str.ofString "marks_of") ([Str.ofString "text"] : List Str) 1 (g_marks_of) a_marks_of fd_marks_of) {cv : CV} {W' : Wd} {X : Cx} (hl : W.Like W') (D : MX cv P pw W' base lam_3.own lam_3.scope 3 X) : GE X W' lam_3.body gm_3 := by
  have B := D.bf
  unfold gm_3
  exact (gc_callN hl B c_marks_of (by omega) (B.gl (by kernel_rfl)) (gav_cons (gn_var (B.nm (by kernel_rfl))) gav_nil rfl))
theorem hB_ok {P : Program} {pw : World} {base : Heap} {W : Wd} (hTbl : ∀ x n g, tbl x = some (n, g) → ∃ j f fd ps, Cal cvF P pw W base j x ps n g f fd ∧ j ≤ 3) {a_marks_of : Addr} {fd_marks_of : FuncData} (c_marks_of : Cal cvF P pw W base 3 (Str.ofString "marks_of") ([Str.ofString "text"] : List Str) 1 (g_marks_of) a_marks_of fd_marks_of) (kb_marks_of_0_text : KB W.K fd_marks_of ([Str.ofString "text"] : List Str) [Str.ofString "text"] 0 [0]) : ∀ k W' X', W.Like W' → MX (ClF P pw W base L) P pw W' base (L k).own (L k).scope 3 X' → GE X' W' (L k).body (gm k) := fun k W' X hl D => match k with
  | 0 => lamok_0 hTbl hl D
  | 1 => lamok_1 c_marks_of hl D
  | 2 => lamok_2 c_marks_of kb_marks_of_0_text hl D
  | 3 => lamok_3 c_marks_of hl D
  | _ + 4 => ge_bad

set_option maxHeartbeats 8000000 in
theorem ok__law_met {P : Program} {pw : World} {base : Heap} {W : Wd} {fa : Addr} {fd : FuncData} (F : FunD W.K (Str.ofString "_law_met") (Str.ofString "_law_met") (defArgs (top 25)) (defBody (top 25)) (defScope (top 25)) [] [] fa fd) (hm : W.mg (Str.ofString "_law_met") = some (.ref fa)) {D_BadText : Addr} (x_BadText : TryOk W (Str.ofString "BadText") (Str.ofString "text") D_BadText HX_BadText) (hB : ∀ k W' X', W.Like W' → MX (ClF P pw W base L) P pw W' base (L k).own (L k).scope 3 X' → GE X' W' (L k).body (gm k)) : Cal (ClF P pw W base L) P pw W base 5 (Str.ofString "_law_met") ([Str.ofString "ask"] : List Str) 1 (g__law_met GK) fa fd := by
  refine ⟨fn_def (L := L) (ks := []) F (C8.fnScope_by (N := ([Str.ofString "ask", Str.ofString "e"] : List Str)) (by kernel_rfl)) rfl (fun W' X hl D => ?_), hm, F.kp, F.bindsN fun _ _ _ _ _ _ us h => match us, h with | [_], _ => rfl⟩
  · have B := D.toMX.bf
    
    show GB X W' _ (defBody (top 25)) (m__law_met GK)
    unfold m__law_met
    exact (gb_one (gf_try hl D x_BadText (by kernel_rfl) (by kernel_rfl) (fun pn xe po => by have D := D.tr (pn := pn) po; have Bt := D.toMX.bf; exact (gb_one (gs_ret (ge_tup (x1 := 0) (ga_cons ge_str (ga_cons (ge_callClo0 hl D.toMX (by decide) hB (Bt.nm (i := 0) (by kernel_rfl)).hN (Bt.nm (i := 0) (by kernel_rfl)).hv (Bt.nm (i := 0) (by kernel_rfl)).hd (Bt.nm (i := 0) (by kernel_rfl)).hcd) ga_nil rfl) rfl)))))))

set_option maxHeartbeats 8000000 in
theorem ok__law_is_very {P : Program} {pw : World} {base : Heap} {W : Wd} {fa : Addr} {fd : FuncData} (F : FunD W.K (Str.ofString "_law_is_very") (Str.ofString "_law_is_very") (defArgs (top 23)) (defBody (top 23)) (defScope (top 23)) [] [] fa fd) (hm : W.mg (Str.ofString "_law_is_very") = some (.ref fa)) {a__law_met : Addr} {fd__law_met : FuncData} (c__law_met : Cal (ClF P pw W base L) P pw W base 5 (Str.ofString "_law_met") ([Str.ofString "ask"] : List Str) 1 (g__law_met GK) a__law_met fd__law_met) {a__law_same : Addr} {fd__law_same : FuncData} (c__law_same : Cal cvF P pw W base 41 (Str.ofString "_law_same") ([Str.ofString "found", Str.ofString "due"] : List Str) 2 (g__law_same 40) a__law_same fd__law_same) {Pt : Addr} (TB : TabB base W.mg (cdAt W.K fa) Pt) (hT : (Pt, ((Str.ofString "_law_is_very") ++ ".<locals>." ++ "<lambda>")) ∈ W.T) (hU : ∀ p ∈ W.T, p.1 = Pt → p.2 = ((Str.ofString "_law_is_very") ++ ".<locals>." ++ "<lambda>")) : Cal cvF P pw W base 42 (Str.ofString "_law_is_very") ([Str.ofString "word", Str.ofString "ask"] : List Str) 2 (g__law_is_very) fa fd := by
  refine ⟨fn_def (L := L) (ks := [0]) F (C8.fnScope_by (N := ([Str.ofString "word", Str.ofString "ask", Str.ofString "odd", Str.ofString "found"] : List Str)) (by kernel_rfl)) rfl (fun W' X hl D => ?_), hm, F.kp, F.bindsN fun _ _ _ _ _ _ us h => match us, h with | [_, _], _ => rfl⟩
  · have B := D.toMX.bf
    have hno : ∀ k f ws H', ¬ W'.cl k f ws H' := D.cls
    have lok : ∀ k ∈ ([0] : List Nat), LamOk ([Str.ofString "word", Str.ofString "ask", Str.ofString "odd", Str.ofString "found"] : List Str) (defScope (top 23)) ((Str.ofString "_law_is_very") ++ ".<locals>." ++ "<lambda>") (L k) := by
      intro k hk
      simp only [List.mem_cons, List.not_mem_nil, or_false] at hk
      rcases hk with rfl
      exact lok_0
    show GB X W' _ (defBody (top 23)) (m__law_is_very)
    unfold m__law_is_very
    exact gb_cons (gn_set (D.nmS (by kernel_rfl)) (ge_lst (ga_cons ge_str ga_nil rfl)) rfl) (gb_very B (B.nm (by kernel_rfl)) rfl (fun W1 l1 c1 m1 => by have hl := hl.trans l1; have D := D.world l1 c1 m1; have B := D.toMX.bf; exact (gn_set (D.nmS (by kernel_rfl)) (gc_callL hl D lok c__law_met (by omega) (B.gl (by kernel_rfl)) (ga_lam 0 hl D lok (by decide) TB hT hU gav_nil)) rfl)) (gb_one (gs_ret (gc_call hl hno B c__law_same (by omega) (B.gl (by kernel_rfl)) (gav_cons (gn_var (B.nm (by kernel_rfl))) (gav_cons (ge_tup (x1 := 0) (ga_cons (gn_var (B.nm (by kernel_rfl))) (ga_cons (gn_var (B.nm (by kernel_rfl))) ga_nil rfl) rfl)) gav_nil rfl) rfl)))))

set_option maxHeartbeats 8000000 in
theorem ok__law_twice {P : Program} {pw : World} {base : Heap} {W : Wd} {fa : Addr} {fd : FuncData} (F : FunD W.K (Str.ofString "_law_twice") (Str.ofString "_law_twice") (defArgs (top 24)) (defBody (top 24)) (defScope (top 24)) [] [] fa fd) (hm : W.mg (Str.ofString "_law_twice") = some (.ref fa)) {a__law_spoilt : Addr} {fd__law_spoilt : FuncData} (c__law_spoilt : Cal cvF P pw W base 41 (Str.ofString "_law_spoilt") ([Str.ofString "thing"] : List Str) 1 (g__law_spoilt 40) a__law_spoilt fd__law_spoilt) {a__law_same : Addr} {fd__law_same : FuncData} (c__law_same : Cal cvF P pw W base 41 (Str.ofString "_law_same") ([Str.ofString "found", Str.ofString "due"] : List Str) 2 (g__law_same 40) a__law_same fd__law_same) {a__law_copied : Addr} {fd__law_copied : FuncData} (c__law_copied : Cal cvF P pw W base 41 (Str.ofString "_law_copied") ([Str.ofString "thing"] : List Str) 1 (g__law_copied 40) a__law_copied fd__law_copied) (hB : ∀ k W' X', W.Like W' → MX (ClF P pw W base L) P pw W' base (L k).own (L k).scope 3 X' → GE X' W' (L k).body (gm k)) : Cal (ClF P pw W base L) P pw W base 42 (Str.ofString "_law_twice") ([Str.ofString "due", Str.ofString "first", Str.ofString "other"] : List Str) 3 (g__law_twice GK) fa fd := by
  refine ⟨fn_def (L := L) (ks := []) F (C8.fnScope_by (N := ([Str.ofString "due", Str.ofString "first", Str.ofString "other", Str.ofString "found", Str.ofString "spoilt"] : List Str)) (by kernel_rfl)) rfl (fun W' X hl D => ?_), hm, F.kp, F.bindsN fun _ _ _ _ _ _ us h => match us, h with | [_, _, _], _ => rfl⟩
  · have B := D.toMX.bf
    
    show GB X W' _ (defBody (top 24)) (m__law_twice GK)
    unfold m__law_twice
    exact (gb_cons (gf_par2 D.sc B (by kernel_rfl) (by kernel_rfl) (by decide) (ga_cons (ge_callClo0 hl D.toMX (by decide) hB (B.nm (i := 1) (by kernel_rfl)).hN (B.nm (i := 1) (by kernel_rfl)).hv (B.nm (i := 1) (by kernel_rfl)).hd (B.nm (i := 1) (by kernel_rfl)).hcd) (ga_cons (gc_callN hl B c__law_copied (by omega) (B.gl (by kernel_rfl)) (gav_cons (gn_var (B.nm (by kernel_rfl))) gav_nil rfl)) ga_nil rfl) rfl) (by kernel_rfl))
    (gb_cons (gs_if (gt_peekX (ls := []) (gt_not (ht_tru (gc_callN hl B c__law_same (by omega) (B.gl (by kernel_rfl)) (gav_cons (gn_var (B.nm (by kernel_rfl))) (gav_cons (gn_var (B.nm (by kernel_rfl))) gav_nil rfl) rfl))))) (gb_one (gs_ret ge_bl)) gb_nil)
    (gb_cons (gs_expr (gc_callN hl B c__law_spoilt (by omega) (B.gl (by kernel_rfl)) (gn_mut (B.nm (by kernel_rfl)) gav_nil rfl)) rfl)
    (gb_cons (gs_expr (gc_callN hl B c__law_spoilt (by omega) (B.gl (by kernel_rfl)) (gn_mut (B.nm (by kernel_rfl)) gav_nil rfl)) rfl)
    (gb_one (gs_ret (gc_callN hl B c__law_same (by omega) (B.gl (by kernel_rfl)) (gav_cons (ge_lst (ga_cons (gn_var (B.nm (by kernel_rfl))) (ga_cons (ge_callClo0 hl D.toMX (by decide) hB (B.nm (i := 2) (by kernel_rfl)).hN (B.nm (i := 2) (by kernel_rfl)).hv (B.nm (i := 2) (by kernel_rfl)).hd (B.nm (i := 2) (by kernel_rfl)).hcd) (ga_cons (ge_callClo0 hl D.toMX (by decide) hB (B.nm (i := 1) (by kernel_rfl)).hN (B.nm (i := 1) (by kernel_rfl)).hv (B.nm (i := 1) (by kernel_rfl)).hd (B.nm (i := 1) (by kernel_rfl)).hcd) ga_nil rfl) rfl) rfl)) (gav_cons (ge_lst (ga_cons (gn_var (B.nm (by kernel_rfl))) (ga_cons (gn_var (B.nm (by kernel_rfl))) (ga_cons (gn_var (B.nm (by kernel_rfl))) ga_nil rfl) rfl) rfl)) gav_nil rfl) rfl))))))))

set_option maxHeartbeats 8000000 in
theorem ok_law {P : Program} {pw : World} {base : Heap} {W : Wd} {fa : Addr} {fd : FuncData} (F : FunD W.K (Str.ofString "law") (Str.ofString "law") (defArgs (top 27)) (defBody (top 27)) (defScope (top 27)) [] [] fa fd) (hm : W.mg (Str.ofString "law") = some (.ref fa)) (hh_all : W.mg (Str.ofString "all") = none) (hh_len : W.mg (Str.ofString "len") = none) (hh_range : W.mg (Str.ofString "range") = none) (hh_zip : W.mg (Str.ofString "zip") = none) {af_marks_of : Addr} (mm_marks_of : W.mg (Str.ofString "marks_of") = some (.ref af_marks_of)) {a__law_stream : Addr} {fd__law_stream : FuncData} (c__law_stream : Cal cvF P pw W base 1 (Str.ofString "_law_stream") ([Str.ofString "script"] : List Str) 1 (g__law_stream) a__law_stream fd__law_stream) {a_marks_of : Addr} {fd_marks_of : FuncData} (c_marks_of : Cal cvF P pw W base 3 (Str.ofString "marks_of") ([Str.ofString "text"] : List Str) 1 (g_marks_of) a_marks_of fd_marks_of) {a__law_same : Addr} {fd__law_same : FuncData} (c__law_same : Cal cvF P pw W base 41 (Str.ofString "_law_same") ([Str.ofString "found", Str.ofString "due"] : List Str) 2 (g__law_same 40) a__law_same fd__law_same) {a__law_is_very : Addr} {fd__law_is_very : FuncData} (c__law_is_very : Cal cvF P pw W base 42 (Str.ofString "_law_is_very") ([Str.ofString "word", Str.ofString "ask"] : List Str) 2 (g__law_is_very) a__law_is_very fd__law_is_very) {a__law_a_mark : Addr} {fd__law_a_mark : FuncData} (c__law_a_mark : Cal cvF P pw W base 3 (Str.ofString "_law_a_mark") ([Str.ofString "stream"] : List Str) 1 (g__law_a_mark) a__law_a_mark fd__law_a_mark) {a__law_draw : Addr} {fd__law_draw : FuncData} (c__law_draw : Cal cvF P pw W base 1 (Str.ofString "_law_draw") ([Str.ofString "stream", Str.ofString "many"] : List Str) 2 (g__law_draw) a__law_draw fd__law_draw) {a__law_pick : Addr} {fd__law_pick : FuncData} (c__law_pick : Cal cvF P pw W base 2 (Str.ofString "_law_pick") ([Str.ofString "stream", Str.ofString "things"] : List Str) 2 (g__law_pick) a__law_pick fd__law_pick) {a__law_twice : Addr} {fd__law_twice : FuncData} (c__law_twice : Cal (ClF P pw W base L) P pw W base 42 (Str.ofString "_law_twice") ([Str.ofString "due", Str.ofString "first", Str.ofString "other"] : List Str) 3 (g__law_twice GK) a__law_twice fd__law_twice) {a__law_met : Addr} {fd__law_met : FuncData} (c__law_met : Cal (ClF P pw W base L) P pw W base 5 (Str.ofString "_law_met") ([Str.ofString "ask"] : List Str) 1 (g__law_met GK) a__law_met fd__law_met) {Pt : Addr} (TB : TabB base W.mg (cdAt W.K fa) Pt) (hT : (Pt, ((Str.ofString "law") ++ ".<locals>." ++ "<lambda>")) ∈ W.T) (hU : ∀ p ∈ W.T, p.1 = Pt → p.2 = ((Str.ofString "law") ++ ".<locals>." ++ "<lambda>")) : Cal cvF P pw W base 43 (Str.ofString "law") ([Str.ofString "script"] : List Str) 1 (g_law) fa fd := by
  refine ⟨fn_def (L := L) (ks := [1, 2, 3]) F (C8.fnScope_by (N := ([Str.ofString "script", Str.ofString "stream", Str.ofString "turn", Str.ofString "some", Str.ofString "k", Str.ofString "one", Str.ofString "text", Str.ofString "places", Str.ofString "kind", Str.ofString "sign", Str.ofString "plain", Str.ofString "gap", Str.ofString "due", Str.ofString "place", Str.ofString "glued", Str.ofString "kinds", Str.ofString "told", Str.ofString "odd"] : List Str)) (by kernel_rfl)) rfl (fun W' X hl D => ?_), hm, F.kp, F.bindsN fun _ _ _ _ _ _ us h => match us, h with | [_], _ => rfl⟩
  · have B := D.toMX.bf
    have hno : ∀ k f ws H', ¬ W'.cl k f ws H' := D.cls
    have h_all : W'.mg (Str.ofString "all") = none := by rw [hl.mg]; exact hh_all
    have h_len : W'.mg (Str.ofString "len") = none := by rw [hl.mg]; exact hh_len
    have h_range : W'.mg (Str.ofString "range") = none := by rw [hl.mg]; exact hh_range
    have h_zip : W'.mg (Str.ofString "zip") = none := by rw [hl.mg]; exact hh_zip
    have m_marks_of := (show W'.mg (Str.ofString "marks_of") = some (.ref af_marks_of) by rw [hl.mg]; exact mm_marks_of)
    have lok : ∀ k ∈ ([1, 2, 3] : List Nat), LamOk ([Str.ofString "script", Str.ofString "stream", Str.ofString "turn", Str.ofString "some", Str.ofString "k", Str.ofString "one", Str.ofString "text", Str.ofString "places", Str.ofString "kind", Str.ofString "sign", Str.ofString "plain", Str.ofString "gap", Str.ofString "due", Str.ofString "place", Str.ofString "glued", Str.ofString "kinds", Str.ofString "told", Str.ofString "odd"] : List Str) (defScope (top 27)) ((Str.ofString "law") ++ ".<locals>." ++ "<lambda>") (L k) := by
      intro k hk
      simp only [List.mem_cons, List.not_mem_nil, or_false] at hk
      rcases hk with rfl | rfl | rfl
      · exact lok_1
      · exact lok_2
      · exact lok_3
    show GB X W' _ (defBody (top 27)) (m_law)
    unfold m_law
    exact (gb_cons (gn_set (D.nmS (by kernel_rfl)) (gc_call hl hno B c__law_stream (by omega) (B.gl (by kernel_rfl)) (gav_cons (gn_var (B.nm (by kernel_rfl))) gav_nil rfl)) rfl)
    (gb_cons (gf_for B (gf_range1 B (B.gl (by kernel_rfl)) h_range (ga_cons ge_int ga_nil rfl)) (gn_name (D.nmS (by kernel_rfl))) (gb_cons (by first | exact gs_lc [(Str.ofString "k", 4)] B (by kernel_rfl) (gf_range1 B (B.gl (by kernel_rfl)) h_range (ga_cons (gc_call hl hno B c__law_draw (by omega) (B.gl (by kernel_rfl)) (gn_mut (B.nm (by kernel_rfl)) (gav_cons ge_int gav_nil rfl) rfl)) ga_nil rfl)) (by kernel_rfl) (by rw [sw_env D.sc]; kernel_rfl) (fun X1 B1 => (gn_name (nmS_ofB B1.N B1.sc (by kernel_rfl)))) (fun X1 B1 => gts_nil) (fun X1 B1 => (gc_call hl hno B1 c__law_a_mark (by omega) (B1.gl (by kernel_rfl)) (gn_mut (B1.nm (by kernel_rfl)) gav_nil rfl))) | exact gf_setLc D.sc (D.nmS (by kernel_rfl)) (gf_lc [(Str.ofString "k", 4)] B (by decide) (gf_range1 B (B.gl (by kernel_rfl)) h_range (ga_cons (gc_call hl hno B c__law_draw (by omega) (B.gl (by kernel_rfl)) (gn_mut (B.nm (by kernel_rfl)) (gav_cons ge_int gav_nil rfl) rfl)) ga_nil rfl)) (by kernel_rfl) (fun X1 B1 => (gn_name (nmS_ofB B1.N B1.sc (by kernel_rfl)))) (fun X1 B1 => gts_nil) (fun X1 B1 => (gc_call hl hno B1 c__law_a_mark (by omega) (B1.gl (by kernel_rfl)) (gn_mut (B1.nm (by kernel_rfl)) gav_nil rfl)))) (by kernel_rfl))
    (gb_cons (gs_if (ht_gt (gc_call hl hno B c__law_draw (by omega) (B.gl (by kernel_rfl)) (gn_mut (B.nm (by kernel_rfl)) (gav_cons ge_int gav_nil rfl) rfl)) ge_int) (gb_one (by first | exact gs_lc [(Str.ofString "one", 5)] B (by kernel_rfl) (gi_seq (gn_var (B.nm (by kernel_rfl)))) (by kernel_rfl) (by rw [sw_env D.sc]; kernel_rfl) (fun X2 B2 => (gn_name (nmS_ofB B2.N B2.sc (by kernel_rfl)))) (fun X2 B2 => (gts_one (ht_ne B2 (gf_ix B2 (gn_var (B2.nm (by kernel_rfl))) ge_int) ge_str))) (fun X2 B2 => (gn_var (B2.nm (by kernel_rfl)))) | exact gf_setLc D.sc (D.nmS (by kernel_rfl)) (gf_lc [(Str.ofString "one", 5)] B (by decide) (gi_seq (gn_var (B.nm (by kernel_rfl)))) (by kernel_rfl) (fun X2 B2 => (gn_name (nmS_ofB B2.N B2.sc (by kernel_rfl)))) (fun X2 B2 => (gts_one (ht_ne B2 (gf_ix B2 (gn_var (B2.nm (by kernel_rfl))) ge_int) ge_str))) (fun X2 B2 => (gn_var (B2.nm (by kernel_rfl))))) (by kernel_rfl))) gb_nil)
    (gb_cons (gf_asg D.sc (ge_tup (x1 := 0) (ga_cons ge_str (ga_cons (ge_lst ga_nil) ga_nil rfl) rfl)) (gf_tgt B (ggs_cons (gn_name (D.nmS (by kernel_rfl))) (ggs_cons (gn_name (D.nmS (by kernel_rfl))) ggs_nil rfl) rfl)) (hw := (by kernel_rfl)))
    (gb_cons (gf_for B (gi_seq (gn_varF (B.nm (by kernel_rfl)))) (gf_tgt B (ggs_cons (gn_name (D.nmS (by kernel_rfl))) (ggs_cons (gn_name (D.nmS (by kernel_rfl))) ggs_nil rfl) rfl)) (gb_cons (gn_set (D.nmS (by kernel_rfl)) ge_str rfl)
    (gb_cons (gn_set (D.nmS (by kernel_rfl)) (gc_call hl hno B c__law_pick (by omega) (B.gl (by kernel_rfl)) (gn_mut (B.nm (by kernel_rfl)) (gav_cons (ge_lst (ga_cons ge_str (ga_cons ge_str (ga_cons ge_str (ga_cons ge_str (ga_cons ge_str (ga_cons ge_str (ga_cons ge_str (ga_cons ge_str ga_nil rfl) rfl) rfl) rfl) rfl) rfl) rfl) rfl)) gav_nil rfl) rfl)) rfl)
    (gb_cons (gn_set (D.nmS (by kernel_rfl)) (gf_add B (gn_var (B.nm (by kernel_rfl))) (ge_if (GW.gt (gw_and (ht_eq B (gn_var (B.nm (by kernel_rfl))) ge_str) (gw_and (ht_ne B (gn_var (B.nm (by kernel_rfl))) ge_str) (gw_and (ht_in B (gf_ix B (gn_var (B.nm (by kernel_rfl))) (ge_neg ge_int)) (gn_var (B.nm (by kernel_rfl)))) (gw_and1 (ht_in B (gf_ix B (gn_var (B.nm (by kernel_rfl))) ge_int) (gn_var (B.nm (by kernel_rfl))))))))) ge_str (gn_var (B.nm (by kernel_rfl))))) rfl)
    (gb_cons (gs_expr (gm_append (B.nm (by kernel_rfl)) (ga_cons (ge_tup (x1 := 0) (ga_cons (gf_add B (ge_count (gn_var (B.nm (by kernel_rfl))) ge_str rfl rfl rfl) ge_int) (ga_cons (ge_sub (gf_len B (B.gl (by kernel_rfl)) h_len (ga_cons (gn_var (B.nm (by kernel_rfl))) ga_nil rfl)) (ge_rfind (gn_var (B.nm (by kernel_rfl))) ge_str rfl rfl rfl)) ga_nil rfl) rfl)) ga_nil rfl) rfl rfl rfl rfl rfl) rfl)
    (gb_one (gn_set (D.nmS (by kernel_rfl)) (gf_add B (gn_var (B.nm (by kernel_rfl))) (gn_var (B.nm (by kernel_rfl)))) rfl)))))))
    (gb_cons (gn_set (D.nmS (by kernel_rfl)) (gf_add B (gn_var (B.nm (by kernel_rfl))) (gc_call hl hno B c__law_pick (by omega) (B.gl (by kernel_rfl)) (gn_mut (B.nm (by kernel_rfl)) (gav_cons (ge_lst (ga_cons ge_str (ga_cons ge_str (ga_cons ge_str (ga_cons ge_str (ga_cons ge_str (ga_cons ge_str ga_nil rfl) rfl) rfl) rfl) rfl) rfl)) gav_nil rfl) rfl))) rfl)
    (gb_cons (by first | exact gs_lc [(Str.ofString "place", 13), (Str.ofString "kind", 8), (Str.ofString "sign", 9)] B (by kernel_rfl) (gf_zip B (B.gl (by kernel_rfl)) h_zip (ga_cons (gn_var (B.nm (by kernel_rfl))) (ga_cons (gn_var (B.nm (by kernel_rfl))) ga_nil rfl) rfl)) (by kernel_rfl) (by rw [sw_env D.sc]; kernel_rfl) (fun X3 B3 => (gf_tgt B3 (ggs_cons (gf_tgt B3 (ggs_cons (gn_name (nmS_ofB B3.N B3.sc (by kernel_rfl))) (ggs_cons (gn_name (nmS_ofB B3.N B3.sc (by kernel_rfl))) ggs_nil rfl) rfl)) (ggs_cons (gn_name (nmS_ofB B3.N B3.sc (by kernel_rfl))) ggs_nil rfl) rfl))) (fun X3 B3 => gts_nil) (fun X3 B3 => (ge_tup (x1 := 0) (ga_cons (gn_var (B3.nm (by kernel_rfl))) (ga_cons (gn_var (B3.nm (by kernel_rfl))) (ga_cons (gn_var (B3.nm (by kernel_rfl))) ga_nil rfl) rfl) rfl))) | exact gf_setLc D.sc (D.nmS (by kernel_rfl)) (gf_lc [(Str.ofString "place", 13), (Str.ofString "kind", 8), (Str.ofString "sign", 9)] B (by decide) (gf_zip B (B.gl (by kernel_rfl)) h_zip (ga_cons (gn_var (B.nm (by kernel_rfl))) (ga_cons (gn_var (B.nm (by kernel_rfl))) ga_nil rfl) rfl)) (by kernel_rfl) (fun X3 B3 => (gf_tgt B3 (ggs_cons (gf_tgt B3 (ggs_cons (gn_name (nmS_ofB B3.N B3.sc (by kernel_rfl))) (ggs_cons (gn_name (nmS_ofB B3.N B3.sc (by kernel_rfl))) ggs_nil rfl) rfl)) (ggs_cons (gn_name (nmS_ofB B3.N B3.sc (by kernel_rfl))) ggs_nil rfl) rfl))) (fun X3 B3 => gts_nil) (fun X3 B3 => (ge_tup (x1 := 0) (ga_cons (gn_var (B3.nm (by kernel_rfl))) (ga_cons (gn_var (B3.nm (by kernel_rfl))) (ga_cons (gn_var (B3.nm (by kernel_rfl))) ga_nil rfl) rfl) rfl)))) (by kernel_rfl))
    (gb_cons (gs_expr (gm_append (B.nm (by kernel_rfl)) (ga_cons (ge_tup (x1 := 0) (ga_cons ge_str (ga_cons ge_str (ga_cons (ge_tup (x1 := 0) (ga_cons (gf_add B (ge_count (gn_var (B.nm (by kernel_rfl))) ge_str rfl rfl rfl) ge_int) (ga_cons (ge_sub (gf_len B (B.gl (by kernel_rfl)) h_len (ga_cons (gn_var (B.nm (by kernel_rfl))) ga_nil rfl)) (ge_rfind (gn_var (B.nm (by kernel_rfl))) ge_str rfl rfl rfl)) ga_nil rfl) rfl)) ga_nil rfl) rfl) rfl)) ga_nil rfl) rfl rfl rfl rfl rfl) rfl)
    (gb_one (gs_if (gt_not (ht_tru (gc_callL hl D lok c__law_twice (by omega) (B.gl (by kernel_rfl)) (gav_cons (gn_var (B.nm (by kernel_rfl))) (ga_lam 1 hl D lok (by decide) TB hT hU (ga_lam 2 hl D lok (by decide) TB hT hU gav_nil)) rfl)))) (gb_one (gs_ret ge_bl)) gb_nil))))))))))
    (gb_cons (gn_set (D.nmS (by kernel_rfl)) (ge_lst (ga_cons (ge_tup (x1 := 0) (ga_cons ge_str (ga_cons (ge_lst (ga_cons ge_str (ga_cons ge_str (ga_cons ge_str (ga_cons ge_str (ga_cons ge_str (ga_cons ge_str (ga_cons ge_str ga_nil rfl) rfl) rfl) rfl) rfl) rfl) rfl)) ga_nil rfl) rfl)) (ga_cons (ge_tup (x1 := 0) (ga_cons ge_str (ga_cons (ge_lst (ga_cons ge_str (ga_cons ge_str (ga_cons ge_str ga_nil rfl) rfl) rfl)) ga_nil rfl) rfl)) (ga_cons (ge_tup (x1 := 0) (ga_cons ge_str (ga_cons (ge_lst (ga_cons ge_str (ga_cons ge_str (ga_cons ge_str (ga_cons ge_str (ga_cons ge_str ga_nil rfl) rfl) rfl) rfl) rfl)) ga_nil rfl) rfl)) ga_nil rfl) rfl) rfl)) rfl)
    (gb_cons (gs_expr (gm_extend (B.nm (by kernel_rfl)) (ga_cons (ge_lst (ga_cons (ge_tup (x1 := 0) (ga_cons ge_str (ga_cons (ge_lst (ga_cons ge_str (ga_cons ge_str (ga_cons ge_str ga_nil rfl) rfl) rfl)) ga_nil rfl) rfl)) (ga_cons (ge_tup (x1 := 0) (ga_cons ge_str (ga_cons (ge_lst (ga_cons ge_str (ga_cons ge_str ga_nil rfl) rfl)) ga_nil rfl) rfl)) (ga_cons (ge_tup (x1 := 0) (ga_cons ge_str (ga_cons (ge_lst (ga_cons ge_str (ga_cons ge_str ga_nil rfl) rfl)) ga_nil rfl) rfl)) (ga_cons (ge_tup (x1 := 0) (ga_cons ge_str (ga_cons (ge_lst (ga_cons ge_str (ga_cons ge_str (ga_cons ge_str ga_nil rfl) rfl) rfl)) ga_nil rfl) rfl)) ga_nil rfl) rfl) rfl) rfl)) ga_nil rfl) rfl rfl rfl rfl rfl) rfl)
    (gb_cons (gs_expr (gm_extend (B.nm (by kernel_rfl)) (ga_cons (ge_lst (ga_cons (ge_tup (x1 := 0) (ga_cons ge_str (ga_cons (ge_lst (ga_cons ge_str (ga_cons ge_str (ga_cons ge_str (ga_cons ge_str ga_nil rfl) rfl) rfl) rfl)) ga_nil rfl) rfl)) (ga_cons (ge_tup (x1 := 0) (ga_cons ge_str (ga_cons (ge_lst (ga_cons ge_str (ga_cons ge_str ga_nil rfl) rfl)) ga_nil rfl) rfl)) (ga_cons (ge_tup (x1 := 0) (ga_cons ge_str (ga_cons (ge_lst (ga_cons ge_str (ga_cons ge_str ga_nil rfl) rfl)) ga_nil rfl) rfl)) ga_nil rfl) rfl) rfl)) ga_nil rfl) rfl rfl rfl rfl rfl) rfl)
    (gb_cons (gf_for B (gi_seq (gn_var (B.nm (by kernel_rfl)))) (gf_tgt B (ggs_cons (gn_name (D.nmS (by kernel_rfl))) (ggs_cons (gn_name (D.nmS (by kernel_rfl))) ggs_nil rfl) rfl)) (gb_cons (gn_set (D.nmS (by kernel_rfl)) (gc_call hl hno B c_marks_of (by omega) (B.gl (by kernel_rfl)) (gav_cons (gn_var (B.nm (by kernel_rfl))) gav_nil rfl)) rfl)
    (gb_one (gs_if (gt_peekX (ls := []) (GW.gt (gw_or (ht_ne B (gf_lc [(Str.ofString "kind", 8), (Str.ofString "sign", 9), (Str.ofString "place", 13)] B (by decide) (gi_seq (gn_var (B.nm (by kernel_rfl)))) (by kernel_rfl) (fun X4 B4 => (gf_tgt B4 (ggs_cons (gn_name (nmS_ofB B4.N B4.sc (by kernel_rfl))) (ggs_cons (gn_name (nmS_ofB B4.N B4.sc (by kernel_rfl))) (ggs_cons (gn_name (nmS_ofB B4.N B4.sc (by kernel_rfl))) ggs_nil rfl) rfl) rfl))) (fun X4 B4 => gts_nil) (fun X4 B4 => (gn_var (B4.nm (by kernel_rfl))))) (gn_var (B.nm (by kernel_rfl)))) (gw_or1 (gt_not (ht_tru (gf_all B (B.gl (by kernel_rfl)) h_all (ga_cons (gf_lc [(Str.ofString "kind", 8), (Str.ofString "sign", 9), (Str.ofString "place", 13)] B (by decide) (gi_seq (gn_var (B.nm (by kernel_rfl)))) (by kernel_rfl) (fun X5 B5 => (gf_tgt B5 (ggs_cons (gn_name (nmS_ofB B5.N B5.sc (by kernel_rfl))) (ggs_cons (gn_name (nmS_ofB B5.N B5.sc (by kernel_rfl))) (ggs_cons (gn_name (nmS_ofB B5.N B5.sc (by kernel_rfl))) ggs_nil rfl) rfl) rfl))) (fun X5 B5 => gts_nil) (fun X5 B5 => (gf_eq B5 (gf_slice B5 (gn_var (B5.nm (by kernel_rfl))) (go_some (ge_sub (gf_ix B5 (gn_var (B5.nm (by kernel_rfl))) ge_int) ge_int)) (go_some (gf_add B5 (ge_sub (gf_ix B5 (gn_var (B5.nm (by kernel_rfl))) ge_int) ge_int) (gf_len B5 (B5.gl (by kernel_rfl)) h_len (ga_cons (gn_var (B5.nm (by kernel_rfl))) ga_nil rfl))))) (gn_var (B5.nm (by kernel_rfl)))))) ga_nil rfl)))))))) (gb_one (gs_ret ge_bl)) gb_nil))))
    (gb_cons (gf_for B (gi_seq (ge_tup (x1 := 0) (ga_cons ge_non (ga_cons ge_int (ga_cons (ge_lst ga_nil) (ga_cons (ge_lst (ga_cons ge_str ga_nil rfl)) (ga_cons ge_bl (ga_cons ge_dnewK (ga_cons (ge_tup (x1 := 0) (ga_cons ge_str ga_nil rfl)) ga_nil rfl) rfl) rfl) rfl) rfl) rfl) rfl))) (gn_name (D.nmS (by kernel_rfl))) (gb_one (gs_if (gt_not (ht_tru (gc_call hl hno B c__law_same (by omega) (B.gl (by kernel_rfl)) (gav_cons (gc_callL hl D lok c__law_met (by omega) (B.gl (by kernel_rfl)) (ga_lam 3 hl D lok (by decide) TB hT hU gav_nil)) (gav_cons (ge_tup (x1 := 0) (ga_cons ge_str (ga_cons (gn_var (B.nm (by kernel_rfl))) ga_nil rfl) rfl)) gav_nil rfl) rfl)))) (gb_one (gs_ret ge_bl)) gb_nil)))
    (gb_one (gs_ret (ge_and (gc_call hl hno B c__law_same (by omega) (B.gl (by kernel_rfl)) (gav_cons (gc_call hl hno B c_marks_of (by omega) (B.gl (by kernel_rfl)) (gav_cons ge_str gav_nil rfl)) (gav_cons (ge_lst (ga_cons (ge_tup (x1 := 0) (ga_cons ge_str (ga_cons ge_str (ga_cons (ge_tup (x1 := 0) (ga_cons ge_int (ga_cons ge_int ga_nil rfl) rfl)) ga_nil rfl) rfl) rfl)) ga_nil rfl)) gav_nil rfl) rfl)) (ge_one (gc_call hl hno B c__law_is_very (by omega) (B.gl (by kernel_rfl)) (gav_cons ge_str (gav_cons (gf_gfun B (B.gl (by kernel_rfl)) m_marks_of) gav_nil rfl) rfl)))))))))))))

end BV
set_option maxHeartbeats 4000000

namespace BV
open PySem PySem.Spec PyProof.Rows L2 LamX
def innerSt (s : Stmt) (i : Nat) : Stmt := match s with
  | .ClassDef _ _ _ b _ _ _ _ _ _ _ => b.getD i (.Pass ⟨0, 0, 0, 0⟩)
  | s => s
def fnL : List He.DefD := [
  ⟨((Str.ofString "is_name"), none), (Str.ofString "is_name"), (Str.ofString "is_name"), defArgs (top 4), defBody (top 4), defScope (top 4), [], []⟩,
  ⟨((Str.ofString "is_plain"), none), (Str.ofString "is_plain"), (Str.ofString "is_plain"), defArgs (top 11), defBody (top 11), defScope (top 11), [], []⟩,
  ⟨((Str.ofString "is_numeral"), none), (Str.ofString "is_numeral"), (Str.ofString "is_numeral"), defArgs (top 12), defBody (top 12), defScope (top 12), [], []⟩,
  ⟨((Str.ofString "kind_of"), none), (Str.ofString "kind_of"), (Str.ofString "kind_of"), defArgs (top 13), defBody (top 13), defScope (top 13), [], []⟩,
  ⟨((Str.ofString "end_of"), none), (Str.ofString "end_of"), (Str.ofString "end_of"), defArgs (top 14), defBody (top 14), defScope (top 14), [], []⟩,
  ⟨((Str.ofString "marks_of"), none), (Str.ofString "marks_of"), (Str.ofString "marks_of"), defArgs (top 15), defBody (top 15), defScope (top 15), [], []⟩,
  ⟨((Str.ofString "_law_stream"), none), (Str.ofString "_law_stream"), (Str.ofString "_law_stream"), defArgs (top 17), defBody (top 17), defScope (top 17), [], []⟩,
  ⟨((Str.ofString "_law_draw"), none), (Str.ofString "_law_draw"), (Str.ofString "_law_draw"), defArgs (top 18), defBody (top 18), defScope (top 18), [], []⟩,
  ⟨((Str.ofString "_law_pick"), none), (Str.ofString "_law_pick"), (Str.ofString "_law_pick"), defArgs (top 19), defBody (top 19), defScope (top 19), [], []⟩,
  ⟨((Str.ofString "_law_same"), none), (Str.ofString "_law_same"), (Str.ofString "_law_same"), defArgs (top 20), defBody (top 20), defScope (top 20), [], []⟩,
  ⟨((Str.ofString "_law_spoilt"), none), (Str.ofString "_law_spoilt"), (Str.ofString "_law_spoilt"), defArgs (top 21), defBody (top 21), defScope (top 21), [], []⟩,
  ⟨((Str.ofString "_law_copied"), none), (Str.ofString "_law_copied"), (Str.ofString "_law_copied"), defArgs (top 22), defBody (top 22), defScope (top 22), [], []⟩,
  ⟨((Str.ofString "_law_is_very"), none), (Str.ofString "_law_is_very"), (Str.ofString "_law_is_very"), defArgs (top 23), defBody (top 23), defScope (top 23), [], []⟩,
  ⟨((Str.ofString "_law_twice"), none), (Str.ofString "_law_twice"), (Str.ofString "_law_twice"), defArgs (top 24), defBody (top 24), defScope (top 24), [], []⟩,
  ⟨((Str.ofString "_law_met"), none), (Str.ofString "_law_met"), (Str.ofString "_law_met"), defArgs (top 25), defBody (top 25), defScope (top 25), [], []⟩,
  ⟨((Str.ofString "_law_a_mark"), none), (Str.ofString "_law_a_mark"), (Str.ofString "_law_a_mark"), defArgs (top 26), defBody (top 26), defScope (top 26), [], []⟩,
  ⟨((Str.ofString "law"), none), (Str.ofString "law"), (Str.ofString "law"), defArgs (top 27), defBody (top 27), defScope (top 27), [], []⟩,
  ⟨((Str.ofString "BadText"), some "__init__"), (Str.ofString "__init__"), (Str.ofString "BadText.__init__"), defArgs (innerSt (top 7) 0), defBody (innerSt (top 7) 0), defScope (innerSt (top 7) 0), [], []⟩]
def faL : List He.Fa := [.glo (Str.ofString "is_name"), .glo (Str.ofString "is_plain"), .glo (Str.ofString "is_numeral"), .glo (Str.ofString "kind_of"), .glo (Str.ofString "end_of"), .glo (Str.ofString "marks_of"), .glo (Str.ofString "_law_stream"), .glo (Str.ofString "_law_draw"), .glo (Str.ofString "_law_pick"), .glo (Str.ofString "_law_same"), .glo (Str.ofString "_law_spoilt"), .glo (Str.ofString "_law_copied"), .glo (Str.ofString "_law_is_very"), .glo (Str.ofString "_law_twice"), .glo (Str.ofString "_law_met"), .glo (Str.ofString "_law_a_mark"), .glo (Str.ofString "law"), .glo (Str.ofString "BadText"), .str (Str.ofString "FIGURES") (Str.ofString "0123456789"), .str (Str.ofString "LETTERS") (Str.ofString "abcdefghijklmnopqrstuvwxyz"), .int (Str.ofString "MOST") 2147483647, .free (Str.ofString "abs"), .free (Str.ofString "all"), .free (Str.ofString "bool"), .free (Str.ofString "dict"), .free (Str.ofString "int"), .free (Str.ofString "isinstance"), .free (Str.ofString "len"), .free (Str.ofString "list"), .free (Str.ofString "range"), .free (Str.ofString "str"), .free (Str.ofString "tuple"), .free (Str.ofString "type"), .free (Str.ofString "zip"), .glo (Str.ofString "SIGNS"), .glo (Str.ofString "WORDS")]
def tfL : List He.Defn := [((Str.ofString "_law_is_very"), none), ((Str.ofString "law"), none)]
def tabsOf (K : PySem.W.Frag) : List (Addr × Str) := [((He.cT K ((Str.ofString "_law_is_very"), none)).2, (Str.ofString "_law_is_very") ++ ".<locals>." ++ "<lambda>"), ((He.cT K ((Str.ofString "law"), none)).2, (Str.ofString "law") ++ ".<locals>." ++ "<lambda>")]
/-- the tables stand apart -/
def apartB (K : PySem.W.Frag) : Bool := decide ((tabsOf K).map (·.1)).Nodup
def exB (K : PySem.W.Frag) : Bool := (He.tupB K (Str.ofString "SIGNS") [.str (Str.ofString "<"), .str (Str.ofString ">"), .str (Str.ofString ","), .str (Str.ofString "-")]) && ((He.tupB K (Str.ofString "WORDS") [.str (Str.ofString "word"), .str (Str.ofString "thread"), .str (Str.ofString "outer"), .str (Str.ofString "left"), .str (Str.ofString "right"), .str (Str.ofString "points")]) && ((oexB K (He.ga K (Str.ofString "BadText"))) && ((He.eqO (PySem.W.findIn K (.ref (He.ga K (Str.ofString "BadText"))) "__init__") (some (some (.ref (He.ma K (He.ga K (Str.ofString "BadText")) "__init__"))))) && ((decide (PySem.W.typeIn K (.ref (He.ma K (He.ga K (Str.ofString "BadText")) "__init__")) = some (.type "function"))) && ((xfB K (He.ga K (Str.ofString "BadText"))) && ((He.eqO (PySem.W.findIn K (.ref (He.ga K (Str.ofString "BadText"))) (Str.ofString "text")) (some none)) && ((decide (PySem.W.exmOne K (.ref (He.ga K (Str.ofString "BadText"))) (.ref (He.ga K (Str.ofString "BadText"))) = some true)) && ((apartB K)))))))))
def loose : List PySem.Str := ([Str.ofString "is_name", Str.ofString "ThreadError", Str.ofString "BadText", Str.ofString "is_plain", Str.ofString "is_numeral", Str.ofString "kind_of", Str.ofString "end_of", Str.ofString "marks_of", Str.ofString "_law_stream", Str.ofString "_law_draw", Str.ofString "_law_pick", Str.ofString "_law_same", Str.ofString "_law_spoilt", Str.ofString "_law_copied", Str.ofString "_law_is_very", Str.ofString "_law_twice", Str.ofString "_law_met", Str.ofString "_law_a_mark", Str.ofString "FIGURES", Str.ofString "LETTERS", Str.ofString "WORDS", Str.ofString "SIGNS", Str.ofString "MOST"] : List PySem.Str)
abbrev Rw : PySem.W.OpenRow := PySem.W.OpenLaw.row PySem.Challenge.rw_onethread_k01_whole_marks
abbrev hkX : PySem.W.Hook := He.hookX 6 faL fnL [] tfL exB
def obX (s : PySem.W.SharedT) : He.AlX := He.obsX 6 faL fnL [] tfL exB (HandSHeadRun.getT s)
theorem obX_eq (s : PySem.W.SharedT) : obX s = hkX.obs s.abs := He.obsX_eq (HandSHeadRun.getT_eq s)
set_option maxHeartbeats 0 in
theorem runX (w : World) : HandSHeadRun.RunEq Rw (PySem.W.view Rw.prog [27]) hkX obX 3000 loose w := by
  intro os
  kernel_rfl
end BV
set_option maxHeartbeats 4000000

namespace BV
open PySem PySem.Spec PyProof.Rows L2 LamX
set_option maxHeartbeats 8000000 in
theorem law_fn {P : Program} {w : World} {K : PySem.W.Frag} {h : Heap} {mg : Str → Option Value} (KX : K.In h) (G : h.Ns mainGlobals mg) (c : He.SaysX faL fnL [] tfL exB w h K) : ∃ fd : FuncData, (∀ (s : Shared) (v : Value), BindsTo s fd ⟨[v], []⟩ [((Str.ofString "script"), v)]) ∧
    ∀ base : Heap, (∀ p ∈ tfL.map (He.cT K), TabB base mg p.1 p.2) → FnOk P w K mg base (L2.CX P w) 43 (He.ga K (Str.ofString "law")) fd [(Str.ofString "script")] (spD (Wd.mk0 K mg (tabsOf K)) 1 g_law) := by
  have cd := c.t.d
  obtain ⟨fd_is_name, F_is_name⟩ := cd.def_ 0 rfl
  obtain ⟨fd_is_plain, F_is_plain⟩ := cd.def_ 1 rfl
  obtain ⟨fd_is_numeral, F_is_numeral⟩ := cd.def_ 2 rfl
  obtain ⟨fd_kind_of, F_kind_of⟩ := cd.def_ 3 rfl
  obtain ⟨fd_end_of, F_end_of⟩ := cd.def_ 4 rfl
  obtain ⟨fd_marks_of, F_marks_of⟩ := cd.def_ 5 rfl
  obtain ⟨fd__law_stream, F__law_stream⟩ := cd.def_ 6 rfl
  obtain ⟨fd__law_draw, F__law_draw⟩ := cd.def_ 7 rfl
  obtain ⟨fd__law_pick, F__law_pick⟩ := cd.def_ 8 rfl
  obtain ⟨fd__law_same, F__law_same⟩ := cd.def_ 9 rfl
  obtain ⟨fd__law_spoilt, F__law_spoilt⟩ := cd.def_ 10 rfl
  obtain ⟨fd__law_copied, F__law_copied⟩ := cd.def_ 11 rfl
  obtain ⟨fd__law_is_very, F__law_is_very⟩ := cd.def_ 12 rfl
  obtain ⟨fd__law_twice, F__law_twice⟩ := cd.def_ 13 rfl
  obtain ⟨fd__law_met, F__law_met⟩ := cd.def_ 14 rfl
  obtain ⟨fd__law_a_mark, F__law_a_mark⟩ := cd.def_ 15 rfl
  obtain ⟨fd_law, F_law⟩ := cd.def_ 16 rfl
  obtain ⟨fd_IBadText, F_IBadText⟩ := cd.def_ 17 rfl
  have hb := FunD.bindsA (ps := [(Str.ofString "script")]) F_law fun _ _ _ _ _ _ us hl => match us, hl with | [_], _ => rfl
  refine ⟨fd_law, fun s v => hb s [v] rfl, fun base hTB => ?_⟩
  let W := Wd.mk0 K mg (tabsOf K)
  have m_is_name : W.mg (Str.ofString "is_name") = some (.ref (He.ga K (Str.ofString "is_name"))) := He.glo_ok KX G (cd.fact 0 (f := .glo (Str.ofString "is_name")) rfl)
  have m_is_plain : W.mg (Str.ofString "is_plain") = some (.ref (He.ga K (Str.ofString "is_plain"))) := He.glo_ok KX G (cd.fact 1 (f := .glo (Str.ofString "is_plain")) rfl)
  have m_is_numeral : W.mg (Str.ofString "is_numeral") = some (.ref (He.ga K (Str.ofString "is_numeral"))) := He.glo_ok KX G (cd.fact 2 (f := .glo (Str.ofString "is_numeral")) rfl)
  have m_kind_of : W.mg (Str.ofString "kind_of") = some (.ref (He.ga K (Str.ofString "kind_of"))) := He.glo_ok KX G (cd.fact 3 (f := .glo (Str.ofString "kind_of")) rfl)
  have m_end_of : W.mg (Str.ofString "end_of") = some (.ref (He.ga K (Str.ofString "end_of"))) := He.glo_ok KX G (cd.fact 4 (f := .glo (Str.ofString "end_of")) rfl)
  have m_marks_of : W.mg (Str.ofString "marks_of") = some (.ref (He.ga K (Str.ofString "marks_of"))) := He.glo_ok KX G (cd.fact 5 (f := .glo (Str.ofString "marks_of")) rfl)
  have m__law_stream : W.mg (Str.ofString "_law_stream") = some (.ref (He.ga K (Str.ofString "_law_stream"))) := He.glo_ok KX G (cd.fact 6 (f := .glo (Str.ofString "_law_stream")) rfl)
  have m__law_draw : W.mg (Str.ofString "_law_draw") = some (.ref (He.ga K (Str.ofString "_law_draw"))) := He.glo_ok KX G (cd.fact 7 (f := .glo (Str.ofString "_law_draw")) rfl)
  have m__law_pick : W.mg (Str.ofString "_law_pick") = some (.ref (He.ga K (Str.ofString "_law_pick"))) := He.glo_ok KX G (cd.fact 8 (f := .glo (Str.ofString "_law_pick")) rfl)
  have m__law_same : W.mg (Str.ofString "_law_same") = some (.ref (He.ga K (Str.ofString "_law_same"))) := He.glo_ok KX G (cd.fact 9 (f := .glo (Str.ofString "_law_same")) rfl)
  have m__law_spoilt : W.mg (Str.ofString "_law_spoilt") = some (.ref (He.ga K (Str.ofString "_law_spoilt"))) := He.glo_ok KX G (cd.fact 10 (f := .glo (Str.ofString "_law_spoilt")) rfl)
  have m__law_copied : W.mg (Str.ofString "_law_copied") = some (.ref (He.ga K (Str.ofString "_law_copied"))) := He.glo_ok KX G (cd.fact 11 (f := .glo (Str.ofString "_law_copied")) rfl)
  have m__law_is_very : W.mg (Str.ofString "_law_is_very") = some (.ref (He.ga K (Str.ofString "_law_is_very"))) := He.glo_ok KX G (cd.fact 12 (f := .glo (Str.ofString "_law_is_very")) rfl)
  have m__law_twice : W.mg (Str.ofString "_law_twice") = some (.ref (He.ga K (Str.ofString "_law_twice"))) := He.glo_ok KX G (cd.fact 13 (f := .glo (Str.ofString "_law_twice")) rfl)
  have m__law_met : W.mg (Str.ofString "_law_met") = some (.ref (He.ga K (Str.ofString "_law_met"))) := He.glo_ok KX G (cd.fact 14 (f := .glo (Str.ofString "_law_met")) rfl)
  have m__law_a_mark : W.mg (Str.ofString "_law_a_mark") = some (.ref (He.ga K (Str.ofString "_law_a_mark"))) := He.glo_ok KX G (cd.fact 15 (f := .glo (Str.ofString "_law_a_mark")) rfl)
  have m_law : W.mg (Str.ofString "law") = some (.ref (He.ga K (Str.ofString "law"))) := He.glo_ok KX G (cd.fact 16 (f := .glo (Str.ofString "law")) rfl)
  have m_BadText : W.mg (Str.ofString "BadText") = some (.ref (He.ga K (Str.ofString "BadText"))) := He.glo_ok KX G (cd.fact 17 (f := .glo (Str.ofString "BadText")) rfl)
  have m_SIGNS : W.mg (Str.ofString "SIGNS") = some (.ref (He.ga K (Str.ofString "SIGNS"))) := He.glo_ok KX G (cd.fact 34 (f := .glo (Str.ofString "SIGNS")) rfl)
  have m_WORDS : W.mg (Str.ofString "WORDS") = some (.ref (He.ga K (Str.ofString "WORDS"))) := He.glo_ok KX G (cd.fact 35 (f := .glo (Str.ofString "WORDS")) rfl)
  have kk_FIGURES : ∃ u, W.mg (Str.ofString "FIGURES") = some u ∧ RelV (.str (Str.ofString "0123456789")) u := let ⟨t, e⟩ := He.str_ok KX G (cd.fact 18 (f := .str (Str.ofString "FIGURES") (Str.ofString "0123456789")) rfl); ⟨_, e, ⟨t, rfl⟩⟩
  have kk_LETTERS : ∃ u, W.mg (Str.ofString "LETTERS") = some u ∧ RelV (.str (Str.ofString "abcdefghijklmnopqrstuvwxyz")) u := let ⟨t, e⟩ := He.str_ok KX G (cd.fact 19 (f := .str (Str.ofString "LETTERS") (Str.ofString "abcdefghijklmnopqrstuvwxyz")) rfl); ⟨_, e, ⟨t, rfl⟩⟩
  have kk_MOST : ∃ u, W.mg (Str.ofString "MOST") = some u ∧ RelV (.int 2147483647) u := let ⟨t, e⟩ := He.int_ok KX G (cd.fact 20 (f := .int (Str.ofString "MOST") 2147483647) rfl); ⟨_, e, ⟨t, rfl⟩⟩
  have hh_abs : W.mg (Str.ofString "abs") = none := He.free_ok KX G (cd.fact 21 (f := .free (Str.ofString "abs")) rfl)
  have hh_all : W.mg (Str.ofString "all") = none := He.free_ok KX G (cd.fact 22 (f := .free (Str.ofString "all")) rfl)
  have hh_bool : W.mg (Str.ofString "bool") = none := He.free_ok KX G (cd.fact 23 (f := .free (Str.ofString "bool")) rfl)
  have hh_dict : W.mg (Str.ofString "dict") = none := He.free_ok KX G (cd.fact 24 (f := .free (Str.ofString "dict")) rfl)
  have hh_int : W.mg (Str.ofString "int") = none := He.free_ok KX G (cd.fact 25 (f := .free (Str.ofString "int")) rfl)
  have hh_isinstance : W.mg (Str.ofString "isinstance") = none := He.free_ok KX G (cd.fact 26 (f := .free (Str.ofString "isinstance")) rfl)
  have hh_len : W.mg (Str.ofString "len") = none := He.free_ok KX G (cd.fact 27 (f := .free (Str.ofString "len")) rfl)
  have hh_list : W.mg (Str.ofString "list") = none := He.free_ok KX G (cd.fact 28 (f := .free (Str.ofString "list")) rfl)
  have hh_range : W.mg (Str.ofString "range") = none := He.free_ok KX G (cd.fact 29 (f := .free (Str.ofString "range")) rfl)
  have hh_str : W.mg (Str.ofString "str") = none := He.free_ok KX G (cd.fact 30 (f := .free (Str.ofString "str")) rfl)
  have hh_tuple : W.mg (Str.ofString "tuple") = none := He.free_ok KX G (cd.fact 31 (f := .free (Str.ofString "tuple")) rfl)
  have hh_type : W.mg (Str.ofString "type") = none := He.free_ok KX G (cd.fact 32 (f := .free (Str.ofString "type")) rfl)
  have hh_zip : W.mg (Str.ofString "zip") = none := He.free_ok KX G (cd.fact 33 (f := .free (Str.ofString "zip")) rfl)
  have e0 : exB K = true := c.more
  unfold exB at e0
  obtain ⟨x0, e0⟩ := Bool.and_eq_true_iff.mp e0
  obtain ⟨x1, e0⟩ := Bool.and_eq_true_iff.mp e0
  obtain ⟨x2, e0⟩ := Bool.and_eq_true_iff.mp e0
  obtain ⟨x3, e0⟩ := Bool.and_eq_true_iff.mp e0
  obtain ⟨x4, e0⟩ := Bool.and_eq_true_iff.mp e0
  obtain ⟨x5, e0⟩ := Bool.and_eq_true_iff.mp e0
  obtain ⟨x6, e0⟩ := Bool.and_eq_true_iff.mp e0
  obtain ⟨x7, e0⟩ := Bool.and_eq_true_iff.mp e0
  have x8 := e0
  have hap : ((tabsOf K).map (·.1)).Nodup := of_decide_eq_true x8
  have tt_SIGNS : W.mg (Str.ofString "SIGNS") = some (.ref (He.ga K (Str.ofString "SIGNS"))) ∧ ∀ H, SqT W.K H (He.ga K (Str.ofString "SIGNS")) V_SIGNS := ⟨m_SIGNS, fun H => He.tupB_ok x0 H⟩
  have tt_WORDS : W.mg (Str.ofString "WORDS") = some (.ref (He.ga K (Str.ofString "WORDS"))) ∧ ∀ H, SqT W.K H (He.ga K (Str.ofString "WORDS")) V_WORDS := ⟨m_WORDS, fun H => He.tupB_ok x1 H⟩
  have x_BadText : RaiseOk P w W base (Str.ofString "BadText") (Str.ofString "text") (He.ga K (Str.ofString "BadText")) (He.ma K (He.ga K (Str.ofString "BadText")) "__init__") fd_IBadText [(Str.ofString "self"), (Str.ofString "text")] := ⟨oexB_ok x2, He.eqO_ok x3, of_decide_eq_true x4, init_ok F_IBadText (C8.fnScope_by (by kernel_rfl)) (by first | exact .inl rfl | exact .inr (.inl rfl)) (by first | exact .inl rfl | exact .inr (.inl rfl)) rfl rfl rfl rfl, FunD.bindsN F_IBadText fun _ _ _ _ _ _ us h => (match us, h with | [_, _], _ => rfl), He.eqO_ok x6, m_BadText⟩
  have y_BadText : TryOk W (Str.ofString "BadText") (Str.ofString "text") (He.ga K (Str.ofString "BadText")) HX_BadText := ⟨xfB_ok x5, He.eqO_ok x6, m_BadText, fun c' C' b e1 e2 => by
    unfold HX_BadText at e1
    by_cases e0 : c' = (Str.ofString "BadText")
    · subst e0
      have e1 : some _ = some b := e1
      cases e1
      rw [m_BadText] at e2
      cases e2
      exact ⟨of_decide_eq_true x7, fun z => rfl⟩
    rw [if_neg e0] at e1
    cases e1⟩
  have c_is_name := ok_is_name (P := P) (pw := w) (base := base) (W := W) F_is_name m_is_name kk_FIGURES kk_LETTERS hh_all hh_len hh_str hh_type tt_WORDS
  have c_is_plain := ok_is_plain (P := P) (pw := w) (base := base) (W := W) F_is_plain m_is_plain kk_FIGURES kk_LETTERS
  have c_is_numeral := ok_is_numeral (P := P) (pw := w) (base := base) (W := W) F_is_numeral m_is_numeral kk_FIGURES kk_MOST hh_all hh_int hh_len
  have c_kind_of := ok_kind_of (P := P) (pw := w) (base := base) (W := W) F_kind_of m_kind_of tt_SIGNS tt_WORDS c_is_name c_is_numeral
  have c_end_of := ok_end_of (P := P) (pw := w) (base := base) (W := W) F_end_of m_end_of hh_len c_is_plain
  have c_marks_of := ok_marks_of (P := P) (pw := w) (base := base) (W := W) F_marks_of m_marks_of x_BadText hh_len hh_str hh_type c_end_of c_kind_of
  have c__law_stream := ok__law_stream (P := P) (pw := w) (base := base) (W := W) F__law_stream m__law_stream hh_list
  have c__law_draw := ok__law_draw (P := P) (pw := w) (base := base) (W := W) F__law_draw m__law_draw hh_abs hh_int
  have c__law_pick := ok__law_pick (P := P) (pw := w) (base := base) (W := W) F__law_pick m__law_pick hh_len c__law_draw
  have c__law_same := ok__law_same (P := P) (pw := w) (base := base) (W := W) F__law_same m__law_same hh_all hh_bool hh_dict hh_int hh_isinstance hh_len hh_list hh_str hh_tuple hh_zip (FunD.bindsN F__law_same fun _ _ _ _ _ _ us h => match us, h with | [_, _], _ => rfl) 40
  have c__law_spoilt := ok__law_spoilt (P := P) (pw := w) (base := base) (W := W) F__law_spoilt m__law_spoilt hh_isinstance hh_list hh_tuple (FunD.bindsN F__law_spoilt fun _ _ _ _ _ _ us h => match us, h with | [_], _ => rfl) 40
  have c__law_copied := ok__law_copied (P := P) (pw := w) (base := base) (W := W) F__law_copied m__law_copied hh_dict hh_isinstance hh_list hh_tuple (FunD.bindsN F__law_copied fun _ _ _ _ _ _ us h => match us, h with | [_], _ => rfl) 40
  have c__law_a_mark := ok__law_a_mark (P := P) (pw := w) (base := base) (W := W) F__law_a_mark m__law_a_mark hh_list hh_range hh_str c__law_draw c__law_pick
  have kb_marks_of_0_text : KB W.K fd_marks_of ([Str.ofString "text"] : List Str) [Str.ofString "text"] 0 [0] := kb_of F_marks_of fun _ _ _ _ _ _ us ws h1 h2 => match us, ws, h1, h2 with | [], [_], _, _ => rfl
  have hTbl : ∀ x n g, tbl x = some (n, g) → ∃ j f fd ps, Cal cvF P w W base j x ps n g f fd ∧ j ≤ 3 := fun x n g e => by
    unfold tbl at e
    by_cases e0 : x = (Str.ofString "marks_of")
    · subst e0
      have e : some _ = some (n, g) := e
      cases e
      exact ⟨_, _, _, _, c_marks_of, by decide⟩
    rw [if_neg e0] at e
    cases e
  have hB := hB_ok (P := P) (pw := w) (base := base) (W := W) hTbl c_marks_of kb_marks_of_0_text
  have c__law_met := ok__law_met (P := P) (pw := w) (base := base) (W := W) F__law_met m__law_met y_BadText hB
  have c__law_is_very := ok__law_is_very (P := P) (pw := w) (base := base) (W := W) F__law_is_very m__law_is_very c__law_met c__law_same (hTB _ (List.mem_map.mpr ⟨((Str.ofString "_law_is_very"), none), List.mem_cons_self, rfl⟩)) List.mem_cons_self (tab_one hap List.mem_cons_self)
  have c__law_twice := ok__law_twice (P := P) (pw := w) (base := base) (W := W) F__law_twice m__law_twice c__law_spoilt c__law_same c__law_copied hB
  have c_law := ok_law (P := P) (pw := w) (base := base) (W := W) F_law m_law hh_all hh_len hh_range hh_zip m_marks_of c__law_stream c_marks_of c__law_same c__law_is_very c__law_a_mark c__law_draw c__law_pick c__law_twice c__law_met (hTB _ (List.mem_map.mpr ⟨((Str.ofString "law"), none), (List.mem_cons_of_mem _ List.mem_cons_self), rfl⟩)) (List.mem_cons_of_mem _ List.mem_cons_self) (tab_one hap (List.mem_cons_of_mem _ List.mem_cons_self))
  exact cal_fnOk (W := W) rfl (fun _ _ _ _ z => z) c_law
theorem tabs_mem {K : PySem.W.Frag} {H : Hp} (h : ∀ p ∈ tfL.map (He.cT K), H p.2 = some (.tbl #[])) : ∀ p ∈ tabsOf K, H p.1 = some (.tbl #[]) := by
  unfold tabsOf
  intro p hp
  rcases List.mem_cons.mp hp with rfl | hp
  · exact h (He.cT K ((Str.ofString "_law_is_very"), none)) (List.mem_map.mpr ⟨_, List.mem_cons_self, rfl⟩)
  rcases List.mem_cons.mp hp with rfl | hp
  · exact h (He.cT K ((Str.ofString "law"), none)) (List.mem_map.mpr ⟨_, (List.mem_cons_of_mem _ List.mem_cons_self), rfl⟩)
  cases hp
end BV
set_option maxHeartbeats 2000000
/-! PL1: meanings are worked out by simp. -/
namespace BV
open PySem PySem.Spec PyProof.Rows L2 LamX

section
variable {α β : Type} {m : M α} {env : Env}
@[simp] theorem ev_bind (f : α → M β) : (M.bind m f) env = (m env).bind f := rfl
@[simp] theorem ev_okb (a : α) (f : α → M β) : (Out.ok a env).bind f = f a env := rfl
@[simp] theorem ev_excb (c : Str) (fs : List (Str × D)) (f : α → M β) : (Out.exc c fs env : Out α).bind f = .exc c fs env := rfl
@[simp] theorem ev_badb (f : α → M β) : (Out.bad : Out α).bind f = .bad := rfl
@[simp] theorem ev_pure (a : α) : M.pure a env = .ok a env := rfl
@[simp] theorem ev_bad : (M.bad : M α) env = .bad := rfl
@[simp] theorem ev_keep1 (a : α) (e : Env) : (Out.ok a e).keep env = .ok a env := rfl
@[simp] theorem ev_keep2 (c : Str) (fs : List (Str × D)) (e : Env) : (Out.exc c fs e : Out α).keep env = .exc c fs env := rfl
end
section
variable {env : Env} {m d : Nat}
@[simp] theorem ev_c (d : D) : mC d env = .ok (.all, d) env := rfl
@[simp] theorem ev_var (i : Nat) : mVar i env = match env[i]? with
  | some (some (m, d)) => if d.imm then .ok (.all, d) env else if m = .shr then .ok (.shr, d) env else .ok (m, d) (env.set i none)
  | _ => .bad := rfl
@[simp] theorem ev_varF (i : Nat) : mVarF i env = match env[i]? with
  | some (some x) => .ok (frzV x) (env.set i (some (frzV x)))
  | _ => .bad := rfl
@[simp] theorem ev_nil : mNil env = .ok [] env := rfl
@[simp] theorem ev_cons (ma : M Val) (mr : M (List Val)) : mCons ma mr env = (ma env).bind fun x => mr.bind fun xs => M.pure (x :: xs) := rfl
@[simp] theorem ev_tup (ma : M (List Val)) : mTup ma env = (ma env).bind fun xs => if xs.length ≤ 1000 then M.pure (mkTup xs) else M.bad := rfl
@[simp] theorem ev_lst (ma : M (List Val)) : mLst ma env = (ma env).bind fun xs => if xs.length ≤ 1000 then M.pure (mkLst xs) else M.bad := rfl
@[simp] theorem ev_op2 (g : D → D → Option D) (ma mb : M Val) : mOp2 g ma mb env = (ma env).bind fun x => mb.bind fun y => match g x.2 y.2 with
  | some d => M.pure (.all, d)
  | none => M.bad := rfl
@[simp] theorem ev_op1 (g : D → Option D) (ma : M Val) : mOp1 g ma env = (ma env).bind fun x => match g x.2 with
  | some d => M.pure (.all, d)
  | none => M.bad := rfl
@[simp] theorem ev_op1' (g : D → Option D) (ma : M Val) : mOp1' g ma env = (ma env).bind fun x => match g x.2 with
  | some d => M.pure (.all, d)
  | none => M.bad := rfl
@[simp] theorem ev_opV (g : Val → D → Option Val) (ma mb : M Val) : mOpV g ma mb env = (ma env).bind fun x => mb.bind fun y => match g x y.2 with
  | some z => M.pure z
  | none => M.bad := rfl
@[simp] theorem ev_opVV (g : Val → Val → Option Val) (ma mb : M Val) : mOpVV g ma mb env = (ma env).bind fun x => mb.bind fun y => match g x y with
  | some z => M.pure z
  | none => M.bad := rfl
@[simp] theorem ev_fn (g : List Val → Option Val) (ma : M (List Val)) : mFn g ma env = (ma env).bind fun xs => match g xs with
  | some z => M.pure z
  | none => M.bad := rfl
@[simp] theorem ev_walk (g : List Val → Option (List D)) (ma : M (List Val)) : mWalk g ma env = (ma env).bind fun xs => match g xs with
  | some ds => M.pure ds
  | none => M.bad := rfl
@[simp] theorem ev_items (ma : M Val) : mItems ma env = (ma env).bind fun x => match itemsOf x.2 with
  | some ds => M.pure ds
  | none => M.bad := rfl
@[simp] theorem ev_tru (ma : M Val) : mTru ma env = (ma env).bind fun x => match x.2.tru with
  | some b => M.pure b
  | none => M.bad := rfl
@[simp] theorem ev_bl (ma : M Val) : mBl ma env = (ma env).bind fun x => match x.2 with
  | .bl b => M.pure b
  | _ => M.bad := rfl
@[simp] theorem ev_notT (mt : M Bool) : mNotT mt env = (mt env).bind fun b => M.pure !b := rfl
@[simp] theorem ev_andT (mt mu : M Bool) : mAndT mt mu env = (mt env).bind fun b => if b then mu else M.pure false := rfl
@[simp] theorem ev_orT (mt mu : M Bool) : mOrT mt mu env = (mt env).bind fun b => if b then M.pure true else mu := rfl
@[simp] theorem ev_if (mt : M Bool) (ma mb : M Val) : mIf mt ma mb env = (mt env).bind fun b => if b then ma else mb := rfl
@[simp] theorem ev_and (ma mb : M Val) : mAnd ma mb env = (ma env).bind fun x => match x.2.tru with
  | some b => if b then mb else M.pure x
  | none => M.bad := rfl
@[simp] theorem ev_or (ma mb : M Val) : mOr ma mb env = (ma env).bind fun x => match x.2.tru with
  | some b => if b then M.pure x else mb
  | none => M.bad := rfl
@[simp] theorem ev_not (ma : M Val) : mNot ma env = (ma env).bind fun x => match x.2.tru with
  | some b => M.pure (.all, .bl !b)
  | none => M.bad := rfl
@[simp] theorem ev_then (m1 m2 : M Fl) : mThen m1 m2 env = (m1 env).bind fun fl => match fl with
  | .nx => m2
  | fl => M.pure fl := rfl
@[simp] theorem ev_expr (ma : M Val) : mExpr ma env = (ma env).bind fun _ => M.pure .nx := rfl
@[simp] theorem ev_ret (ma : M Val) : mRet ma env = (ma env).bind fun x => M.pure (.rt (nrm x)) := rfl
@[simp] theorem ev_cond (mt : M Bool) (m1 m2 : M Fl) : mCond mt m1 m2 env = (mt env).bind fun b => if b then m1 else m2 := rfl
@[simp] theorem ev_set (mp : List Nat) (i : Nat) (ma : M Val) : mSet mp i ma env = (ma env).bind fun x => if i ∈ mp then M.bad else fun env => .ok .nx (env.set i (some (nrm x))) := rfl
@[simp] theorem ev_asg (mp : List Nat) (t : Tg) (ma : M Val) : mAsg mp t ma env = (ma env).bind fun x env => match mTg mp t x env with
  | some env' => .ok .nx env'
  | none => .bad := rfl
@[simp] theorem ev_par (mp is : List Nat) (ma : M (List Val)) : mPar mp is ma env = (ma env).bind fun xs env => match putAll mp is xs env with
  | some env' => .ok .nx env'
  | none => .bad := rfl
@[simp] theorem ev_store (i : Nat) (mv mk : M Val) : mStore i mv mk env = (mv env).bind fun y env => match env[i]? with
  | some (some _) => (mk env).bind (mStoreK i y)
  | _ => .bad := rfl
@[simp] theorem ev_storeK (i : Nat) (y k : Val) : mStoreK i y k env = match env[i]? with
  | some (some x) => (match hStore x k y with
    | some x' => .ok .nx (env.set i (some x'))
    | none => .bad)
  | _ => .bad := rfl
@[simp] theorem ev_aNil : mANil env = .ok [] env := rfl
@[simp] theorem ev_aCons (ma : M Val) (mr : M (List AV)) : mACons ma mr env = (ma env).bind fun x => mr.bind fun xs => M.pure (.v x :: xs) := rfl
@[simp] theorem ev_aMut (j : Nat) (mr : M (List AV)) : mAMut j mr env = match env[j]? with
  | some (some _) => (mr env).bind fun xs => M.pure (.m j :: xs)
  | _ => .bad := rfl
@[simp] theorem ev_aLam (k : Nat) (is : List Nat) (mr : M (List AV)) : mALam k is mr env = (mr env).bind fun xs => M.pure (.l k is :: xs) := rfl
@[simp] theorem ev_call (mp : List Nat) (n : Nat) (f : List Val → CO) (ma : M (List AV)) : mCall mp n f ma env = (ma env).bind fun as => mCallF mp n f as := rfl
@[simp] theorem ev_callL (mp : List Nat) (n : Nat) (f : List Val → CO) (ma : M (List AV)) : mCallL mp n f ma env = (ma env).bind fun as => mCallLF mp n f as := rfl
@[simp] theorem ev_callN (mp : List Nat) (n : Nat) (f : List Val → CO) (ma : M (List AV)) : mCallN mp n f ma env = (ma env).bind fun as => mCallNF mp n f as := rfl
@[simp] theorem ev_slice (ma : M Val) (ml mh : M (Option Int)) : mSlice ma ml mh env = (ma env).bind fun x => ml.bind fun lo => mh.bind fun hi => match gSlice x lo hi with
  | some z => M.pure z
  | none => M.bad := rfl
@[simp] theorem ev_part (ma : M Val) : mPart ma env = (ma env).bind fun x => match x.2 with
  | .int i => M.pure (some i)
  | _ => M.bad := rfl
@[simp] theorem ev_noPart : mNoPart env = .ok none env := rfl
@[simp] theorem ev_m1 (g : D → D → Option D) (mo ma : M Val) : mM1 g mo ma env = (mo env).bind fun x => match x.2 with
  | .str a => ma.bind fun y => (match g (.str a) y.2 with
    | some d => M.pure (.all, d)
    | none => M.bad)
  | _ => M.bad := rfl
@[simp] theorem ev_chain (g g' : D → D → Option D) (ma mb mc : M Val) : mChain g g' ma mb mc env = (ma env).bind fun x => mb.bind fun y => match g x.2 y.2 with
  | some (.bl b) => if b = true then mc.bind fun z => (match g' y.2 z.2 with
    | some d => M.pure (.all, d)
    | none => M.bad) else M.pure (.all, .bl false)
  | _ => M.bad := by
  show (ma env).bind _ = _
  congr 1
  funext x
  congr 1
  funext y
  split
  · rename_i e; simp only [e]; rfl
  · rename_i e; simp only [e]; rfl
  · rename_i h1 h2
    split
    · rename_i b e
      cases b
      · exact absurd e h2
      · exact absurd e h1
    · rfl
@[simp] theorem ev_meth (i : Nat) (isT : D → Bool) (g : List Val → M Val) (ma : M (List Val)) : mMeth i isT g ma env = match env[i]? with
  | some (some (_, d)) => if isT d then (ma env).bind g else .bad
  | _ => .bad := rfl
@[simp] theorem ev_lcv (n : Nat) (is : List Nat) (mi : M (List D)) (t : Tg) (mt : M Bool) (me : M Val) : mLc n is mi t mt me env = (mi env).bind fun ds env => match mLcGo n is t mt me ds true [] env with
  | some (k, acc, env') => .ok (newL k acc) (restE env (wipeE env' is) is)
  | none => .bad := rfl
theorem frzX_nil (env : Env) : frzX [] env = env.map fun o => o.map frzV := by
  refine List.ext_getElem? fun i => ?_
  rw [frzX_get, List.getElem?_map]
  simp
theorem thawX_nil (env env' : Env) : thawX [] env env' = env := by
  unfold thawX
  simp [List.mapIdx_eq_iff]
@[simp] theorem ev_peek0 (m : M Val) : mPeekX [] m env = match m (env.map fun o => o.map frzV) with
  | .ok x env' => if solidV x then .ok x env else .bad
  | .exc c fs env' => .exc c fs env'
  | .bad => .bad := by
  unfold mPeekX
  rw [frzX_nil]
  cases m (env.map fun o => o.map frzV) with
  | ok x e => simp [solidAt, thawX_nil]
  | exc c fs e => rfl
  | bad => rfl
@[simp] theorem ev_peekT0 (m : M Bool) : mPeekXT [] m env = match m (env.map fun o => o.map frzV) with
  | .ok x env' => .ok x env
  | .exc c fs env' => .exc c fs env'
  | .bad => .bad := by
  unfold mPeekXT
  rw [frzX_nil]
  cases m (env.map fun o => o.map frzV) with
  | ok x e => simp [solidAt, thawX_nil]
  | exc c fs e => rfl
  | bad => rfl
end
/-! ### values -/
section
@[simp] theorem imm_non : D.non.imm = true := by simp [D.imm]
@[simp] theorem imm_bl (b : Bool) : (D.bl b).imm = true := by simp [D.imm]
@[simp] theorem imm_int (i : Int) : (D.int i).imm = true := by simp [D.imm]
@[simp] theorem imm_str (x : Str) : (D.str x).imm = true := by simp [D.imm]
@[simp] theorem imm_ty (x : String) : (D.ty x).imm = true := by simp [D.imm]
@[simp] theorem imm_glo (x : Str) : (D.glo x).imm = true := by simp [D.imm]
@[simp] theorem imm_scr (x : List Int) : (D.scr x).imm = true := by simp [D.imm]
@[simp] theorem imm_lst (xs : List D) : (D.lst xs).imm = false := by simp [D.imm]
@[simp] theorem imm_pin : D.pin.imm = false := by simp [D.imm]
@[simp] theorem imm_dic (t : Bool) (xs : List (D × D)) : (D.dic t xs).imm = false := by simp [D.imm]
@[simp] theorem imm_clo (k : Nat) (xs : List D) : (D.clo k xs).imm = false := by simp [D.imm]
@[simp] theorem imm_tup (xs : List D) : (D.tup xs).imm = immAll xs := by simp [D.imm]
@[simp] theorem immAll_nil : immAll [] = true := by simp [immAll]
@[simp] theorem immAll_cons (d : D) (ds : List D) : immAll (d :: ds) = (d.imm && immAll ds) := by simp [immAll]
@[simp] theorem sol_non : D.non.solid = true := by simp [D.solid]
@[simp] theorem sol_bl (b : Bool) : (D.bl b).solid = true := by simp [D.solid]
@[simp] theorem sol_int (i : Int) : (D.int i).solid = true := by simp [D.solid]
@[simp] theorem sol_str (x : Str) : (D.str x).solid = true := by simp [D.solid]
@[simp] theorem sol_tup (xs : List D) : (D.tup xs).solid = solidAll xs := by simp [D.solid]
@[simp] theorem sol_lst (xs : List D) : (D.lst xs).solid = solidAll xs := by simp [D.solid]
@[simp] theorem solAll_nil : solidAll [] = true := by simp [solidAll]
@[simp] theorem solAll_cons (d : D) (ds : List D) : solidAll (d :: ds) = (d.solid && solidAll ds) := by simp [solidAll]
end
@[simp] theorem range_1 : List.range 1 = [0] := rfl
@[simp] theorem range_2 : List.range 2 = [0, 1] := rfl
@[simp] theorem range_3 : List.range 3 = [0, 1, 2] := rfl
@[simp] theorem range_4 : List.range 4 = [0, 1, 2, 3] := rfl
@[simp] theorem range_5 : List.range 5 = [0, 1, 2, 3, 4] := rfl
@[simp] theorem lentAt_nil (j : Nat) : lentAt [] j = none := rfl
@[simp] theorem lentAt_v (j : Nat) (x : Val) (as : List AV) : lentAt (.v x :: as) j = (lentAt as j).map (· + 1) := by simp [lentAt, List.findIdx?_cons, AV.isM]
@[simp] theorem lentAt_l (j k : Nat) (is : List Nat) (as : List AV) : lentAt (.l k is :: as) j = (lentAt as j).map (· + 1) := by simp [lentAt, List.findIdx?_cons, AV.isM]
@[simp] theorem lentAt_m (j k : Nat) (as : List AV) : lentAt (.m k :: as) j = if k = j then some 0 else (lentAt as j).map (· + 1) := by simp [lentAt, List.findIdx?_cons, AV.isM]
end BV
set_option maxHeartbeats 2000000
/-! PL2: comparisons, loops, the stream of draws. -/
namespace BV
open PySem PySem.Spec PyProof.Rows L2 LamX

theorem pyS_int (i : Int) : pyS (.int i) = some (.int i) := by
  simp [pyS, D.py, SeqAt.shaped, PyData.canLay0, PyData.depth]
theorem pyS_bl (b : Bool) : pyS (.bl b) = some (.bool b) := by
  simp [pyS, D.py, SeqAt.shaped, PyData.canLay0, PyData.depth]
theorem pyS_non : pyS .non = some .none := by
  simp [pyS, D.py, SeqAt.shaped, PyData.canLay0, PyData.depth]
theorem pyAll_ints : ∀ ns : List Int, pyAll (ns.map .int) = some (ns.map .int)
  | [] => by simp [pyAll]
  | n :: ns => by simp [pyAll, D.py, pyAll_ints ns]
theorem canLay_ints : ∀ ns : List Int, PyData.canLayAll0 (ns.map .int) = true
  | [] => by simp [PyData.canLayAll0]
  | n :: ns => by simp [PyData.canLayAll0, PyData.canLay0, canLay_ints ns]
theorem depth_ints : ∀ ns : List Int, PyData.depthAll (ns.map .int) = 0
  | [] => by simp [PyData.depthAll]
  | n :: ns => by simp [PyData.depthAll, PyData.depth, depth_ints ns]
theorem pyS_ints (ns : List Int) : pyS (.lst (ns.map .int)) = some (.list (ns.map .int)) := by
  simp [pyS, D.py, pyAll_ints, SeqAt.shaped, PyData.canLay0, PyData.depth, canLay_ints, depth_ints]
@[simp] theorem gEq_int (i j : Int) : gEq (.int i) (.int j) = some (.bl (i == j)) := by simp [gEq, pyS_int, PyData.eqv]
@[simp] theorem gNe_int (i j : Int) : gNe (.int i) (.int j) = some (.bl (!(i == j))) := by simp [gNe, pyS_int, PyData.eqv]
theorem gNe_ints (ns : List Int) : gNe (.lst (ns.map .int)) (.lst []) = some (.bl !ns.isEmpty) := by
  have := pyS_ints []
  simp only [List.map_nil] at this
  rw [gNe, pyS_ints, this]
  cases ns <;> simp [PyData.eqv, PyData.eqvAll]
@[simp] theorem gLt_int (i j : Int) : gLt (.int i) (.int j) = some (.bl (decide (i < j))) := by simp [gLt, gOr, gCmp]
@[simp] theorem gLe_int (i j : Int) : gLe (.int i) (.int j) = some (.bl (decide (i ≤ j))) := by simp [gLe, gOr, gCmp]
@[simp] theorem gGt_int (i j : Int) : gGt (.int i) (.int j) = some (.bl (decide (j < i))) := by simp [gGt, gOr, gCmp]
@[simp] theorem gGe_int (i j : Int) : gGe (.int i) (.int j) = some (.bl (decide (j ≤ i))) := by simp [gGe, gOr, gCmp]

theorem while_ok {mt : M Bool} {mb : M Fl} (I Q : Env → Prop) (μ : Env → Nat) (step : ∀ e, I e → (∃ e', mt e = .ok false e' ∧ Q e') ∨ (∃ e1 e2, mt e = .ok true e1 ∧ mb e1 = .ok .nx e2 ∧ I e2 ∧ μ e2 < μ e)) :
    ∀ n e, I e → μ e < n → ∃ e', mWhile mt mb n e = .ok .nx e' ∧ Q e'
  | 0, e, _, h => absurd h (Nat.not_lt_zero _)
  | n + 1, e, hI, hμ => by
    rcases step e hI with ⟨e', h1, q⟩ | ⟨e1, e2, h1, h2, h3, h4⟩
    · exact ⟨e', by simp [mWhile, h1], q⟩
    · obtain ⟨e', h5, q⟩ := while_ok I Q μ step n e2 h3 (by omega)
      exact ⟨e', by simp [mWhile, h1, h2, h5], q⟩

/-- the stream: what is left of the script, what is left of a wide number, how many draws, the mix; k more draws may follow -/
def Stm (k : Nat) (v : Val) : Prop := ∃ (cells : List Int) (a b c : Int), v = (.all, .lst [.lst (cells.map .int), .int a, .int b, .int c]) ∧ cells.length ≤ 63 ∧ 0 ≤ a ∧ 0 ≤ b ∧ b + k ≤ 2 ^ 40 ∧ 0 ≤ c ∧ c < 2 ^ 31
theorem Stm.less {k j : Nat} {v : Val} (h : Stm k v) (hj : j ≤ k) : Stm j v := by
  obtain ⟨cells, a, b, c, rfl, h1, h2, h3, h4, h5⟩ := h
  exact ⟨cells, a, b, c, rfl, h1, h2, h3, by omega, h5⟩
theorem sol_ints : ∀ ns : List Int, solidAll (ns.map .int) = true
  | [] => by simp
  | n :: ns => by simp [sol_ints ns]
theorem imm_ints : ∀ ns : List Int, immAll (ns.map .int) = true
  | [] => by simp
  | n :: ns => by simp [imm_ints ns]
theorem stream_ok {ns : List Int} (hl : ns.length ≤ 63) {x : Val} (hx : scrArgs ns x) : ∃ v, g__law_stream [x] = .ok v [none] ∧ Stm (2 ^ 40) v := by
  refine ⟨(.all, .lst [.lst (ns.map .int), .int 0, .int 0, .int 17]), ?_, ns, 0, 0, 17, rfl, hl, by omega, by omega, by omega, by omega, by omega⟩
  rcases hx with rfl | rfl
  · simp [g__law_stream, callM, m__law_stream, gOrL, gList, mkLst, nrm, backOf]
  · simp [g__law_stream, callM, m__law_stream, gOrL, gList, mkLst, nrm, backOf, newL, imm_ints]
def DrawI (b many : Int) (e : Env) : Prop := ∃ (cells : List Int) (a c : Int) (x2 : Option Val), e = [some (.all, .lst [.lst (cells.map .int), .int a, .int b, .int c]), some (.all, .int many), x2, none, none] ∧ cells.length ≤ 63 ∧ 0 ≤ a ∧ 0 ≤ c ∧ c < 2 ^ 31
def DrawM : Env → Nat
  | some (_, .lst (.lst cs :: _)) :: _ => cs.length
  | _ => 0
@[simp] theorem gNe_nil2 : gNe (.lst []) (.lst []) = some (.bl false) := by simpa using gNe_ints []
@[simp] theorem gNe_cons2 (n : Int) (ns : List Int) : gNe (.lst (.int n :: ns.map .int)) (.lst []) = some (.bl true) := by simpa using gNe_ints (n :: ns)
@[simp] theorem atI_0 {α : Type} (x : α) (xs : List α) : atI (x :: xs) 0 = some x := by simp [atI, ixN]
@[simp] theorem atI_1 {α : Type} (x y : α) (xs : List α) : atI (x :: y :: xs) 1 = some y := by
  have : (1 : Int) < xs.length + 1 + 1 := by omega
  simp [atI, ixN, this]
@[simp] theorem atI_2 {α : Type} (x y z : α) (xs : List α) : atI (x :: y :: z :: xs) 2 = some z := by
  have : (2 : Int) < xs.length + 1 + 1 + 1 := by omega
  simp [atI, ixN, this]
@[simp] theorem atI_3 {α : Type} (x y z u : α) (xs : List α) : atI (x :: y :: z :: u :: xs) 3 = some u := by
  have : (3 : Int) < xs.length + 1 + 1 + 1 + 1 := by omega
  simp [atI, ixN, this]
@[simp] theorem solidV_int (m : Mode) (i : Int) : solidV (m, .int i) := .inr (by simp)
abbrev drawT : M Bool := mPeekXT [] (mAndT (mBl (mOp2 gEq (mOpV gIx (mVar 0) (mC (.int 1))) (mC (.int 0)))) (mBl (mOp2 gNe (mOpV gIx (mVar 0) (mC (.int 0))) (mLst mNil))))
abbrev drawB : M Fl := mThen (mSet [0] 2 (mFn gAbs (mCons (mPopN 0 0) mNil)))
    (mThen (mStore 0 (mPeekX [] (mOp2 gMod (mFn gInt (mCons (mOpVV gCat (mOpVV gCat (mOpVV gTimes (mOpV gIx (mVar 0) (mC (.int 3))) (mC (.int 8191))) (mVar 2)) (mC (.int 3))) mNil)) (mC (.int 2147483647)))) (mC (.int 3)))
    (mStore 0 (mIf (mBl (mOp2 gGe (mVar 2) (mOp2 gPow (mC (.int 10)) (mC (.int 18))))) (mVar 2) (mC (.int 0))) (mC (.int 1))))
theorem draw_step {b many : Int} (e : Env) (h : DrawI b many e) :
    (∃ e', drawT e = .ok false e' ∧ DrawI b many e') ∨ (∃ e1 e2, drawT e = .ok true e1 ∧ drawB e1 = .ok .nx e2 ∧ DrawI b many e2 ∧ DrawM e2 < DrawM e) := by
  obtain ⟨cells, a, c, x2, rfl, h1, h2, h3, h4⟩ := h
  by_cases ha : a = 0
  · subst ha
    cases cells with
    | nil =>
      refine .inl ⟨_, ?_, [], 0, c, x2, rfl, h1, h2, h3, h4⟩
      simp [frzV, gIx, nrm, mkLst]
    | cons n ns =>
      obtain ⟨cell, hc⟩ : ∃ cell : Int, (if n < 0 then -n else n) = cell := ⟨_, rfl⟩
      have hc0 : 0 ≤ cell := by rw [← hc]; split <;> omega
      have hm : CMul c 8191 := .inl (by omega)
      have hp : CPow 10 18 := ⟨by omega, by omega, by decide⟩
      have q1 : 0 ≤ (c * 8191 + cell + 3) % 2147483647 := Int.emod_nonneg _ (by omega)
      have q2 : (c * 8191 + cell + 3) % 2147483647 < 2147483647 := Int.emod_lt_of_pos _ (by omega)
      refine .inr ⟨[some (.all, .lst [.lst ((n :: ns).map .int), .int 0, .int b, .int c]), some (.all, .int many), x2, none, none], [some (.all, .lst [.lst (ns.map .int), .int (if (10 : Int) ^ 18 ≤ cell then cell else 0), .int b, .int ((c * 8191 + cell + 3) % 2147483647)]), some (.all, .int many), some (.all, .int cell), none, none], ?_, ?_, ⟨ns, _, _, _, rfl, ?_, ?_, ?_, ?_⟩, ?_⟩
      · simp [frzV, gIx, nrm, mkLst]
      · by_cases hg : (10 : Int) ^ 18 ≤ cell
        all_goals simp [mPopN, gAbs, hc, frzV, gIx, nrm, gTimes, gRep, gMul, hm, gRepS, gCat, gAdd, gMod, gInt, hStore, ixN, newL, hp, gPow, imm_ints, hg, -Int.reducePow]
      · simp at h1; omega
      · split <;> omega
      · exact q1
      · omega
      · simp [DrawM]
  · refine .inl ⟨_, ?_, cells, a, c, x2, rfl, h1, h2, h3, h4⟩
    simp [frzV, gIx, nrm, ha]
theorem fuel_eq : fuel = 1099511627776 := by decide
theorem draw_ok {k : Nat} {v : Val} (h : Stm (k + 1) v) {many : Int} (hm0 : 0 < many) (hm1 : many < 1073741824) : ∃ (r : Int) (v' : Val), g__law_draw [v, (.all, .int many)] = .ok (.all, .int r) [some v', none] ∧ Stm k v' ∧ 0 ≤ r ∧ r < many := by
  obtain ⟨cells, a, b, c, rfl, h1, h2, h3, h4, h5, h6⟩ := h
  obtain ⟨e', hw, cells', a', c', x2, rfl, i1, i2, i3, i4⟩ := while_ok (DrawI (b + 1) many) (DrawI (b + 1) many) DrawM draw_step fuel [some (.all, .lst [.lst (cells.map .int), .int a, .int (b + 1), .int c]), some (.all, .int many), none, none, none] ⟨cells, a, c, none, rfl, h1, h2, h5, h6⟩ (by rw [fuel_eq]; simp [DrawM]; omega)
  by_cases ha : 0 < a'
  · refine ⟨a' % many, (.all, .lst [.lst (cells'.map .int), .int (a' / many), .int (b + 1), .int c']), ?_, ⟨cells', a' / many, b + 1, c', rfl, i1, Int.ediv_nonneg i2 (by omega), by omega, by omega, i3, i4⟩, Int.emod_nonneg _ (by omega), Int.emod_lt_of_pos _ hm0⟩
    have hd : CDiv a' many := ⟨hm0, hm1⟩
    simp [g__law_draw, callM, m__law_draw, frzV, gIx, nrm, gCat, gAdd, hStore, ixN, newL, imm_ints, hw, ha, gInt, gMod, gDiv, hm0, hd, backOf]
  · obtain ⟨mixed, hx⟩ : ∃ mixed : Int, (c' + 7919 * (b + 1) + 104729) ^ 5 % 2147483629 = mixed := ⟨_, rfl⟩
    have x0 : 0 ≤ mixed := by rw [← hx]; exact Int.emod_nonneg _ (by omega)
    have x1 : mixed < 2147483629 := by rw [← hx]; exact Int.emod_lt_of_pos _ (by omega)
    refine ⟨(mixed * 48271 + 30011 * (b + 1) + 29) ^ 3 % 1000000007 % many, (.all, .lst [.lst (cells'.map .int), .int a', .int (b + 1), .int c']), ?_, ⟨cells', a', b + 1, c', rfl, i1, i2, by omega, by omega, i3, i4⟩, Int.emod_nonneg _ (by omega), Int.emod_lt_of_pos _ hm0⟩
    have p1 : CPow (c' + 7919 * (b + 1) + 104729) 5 := ⟨by omega, by omega, by omega⟩
    have p2 : CPow (mixed * 48271 + 30011 * (b + 1) + 29) 3 := ⟨by omega, by omega, by omega⟩
    have p3 : CMul 7919 (b + 1) := .inl (by omega)
    have p4 : CMul 30011 (b + 1) := .inl (by omega)
    have p5 : CMul mixed 48271 := .inl (by omega)
    simp [g__law_draw, callM, m__law_draw, frzV, gIx, nrm, gCat, gAdd, hStore, ixN, newL, imm_ints, hw, ha, gInt, gMod, gDiv, hm0, backOf, gTimes, gRep, gRepS, gMul, gPow, p1, p2, p3, p4, p5, hx]
end BV
set_option maxHeartbeats 2000000
/-! PL3: plain data is the same as itself, copied, spoilt. -/
namespace BV
open PySem PySem.Spec PyProof.Rows L2 LamX

mutual
def okD : D → Bool
  | .non => true
  | .bl _ => true
  | .int _ => true
  | .str x => PyData.strOk x
  | .tup ds => decide (ds.length ≤ 1000000) && okAll ds
  | .lst ds => decide (ds.length ≤ 1000000) && okAll ds
  | _ => false
def okAll : List D → Bool
  | [] => true
  | d :: ds => okD d && okAll ds
end
mutual
def dep : D → Nat
  | .tup ds => depAll ds + 1
  | .lst ds => depAll ds + 1
  | _ => 0
def depAll : List D → Nat
  | [] => 0
  | d :: ds => max (dep d) (depAll ds)
end
theorem okAll_mem : ∀ {ds : List D}, okAll ds = true → ∀ d ∈ ds, okD d = true
  | [], _, d, h => by cases h
  | d :: ds, h, x, hx => by
    simp only [okAll, Bool.and_eq_true] at h
    rcases List.mem_cons.mp hx with rfl | hx
    · exact h.1
    · exact okAll_mem h.2 x hx
theorem depAll_mem : ∀ {ds : List D} {d : D}, d ∈ ds → dep d ≤ depAll ds
  | d :: ds, x, hx => by
    simp only [depAll]
    rcases List.mem_cons.mp hx with rfl | hx
    · omega
    · have := depAll_mem hx; omega
/-- as it is handed on -/
def fz (d : D) : Val := if d.imm then (.all, d) else (.shr, d)
theorem nrm_shr (d : D) : nrm (.shr, d) = fz d := rfl
theorem fz_of (m : Mode) (d : D) : frzV (m, d) = fz d := rfl
@[simp] theorem frz_fz (d : D) : frzV (fz d) = fz d := by unfold fz frzV; split <;> simp [*]
@[simp] theorem fz_2 (d : D) : (fz d).2 = d := by unfold fz; split <;> rfl
theorem mVar_fz {env : Env} {i : Nat} {d : D} (h : env[i]? = some (some (fz d))) : mVar i env = .ok (fz d) env := by
  simp only [ev_var, h, fz]
  by_cases c : d.imm <;> simp [c]
theorem others_42 : others 4 [2, 3] = [0, 1] := by decide
def sameE (self : List Val → CO) : M Val := mCall [] 2 self (mACons (mVar 2) (mACons (mVar 3) mANil))
theorem same_elt {self : List Val → CO} {d e : D} {a b : Option Val} {y : Val} {back : Env} (h : self [fz d, fz e] = .ok y back) : sameE self [a, b, some (fz d), some (fz e)] = .ok y [a, b, some (fz d), some (fz e)] := by
  simp only [sameE, ev_call, ev_aCons]
  rw [mVar_fz rfl]
  simp only [ev_okb, ev_bind, ev_aCons]
  rw [mVar_fz rfl]
  simp [mCallF, lentOf, argsOf, h, putBack]
theorem same_go {self : List Val → CO} {a b : Option Val} : ∀ (ds : List D) (acc : List D) (x y : Option Val), (∀ d ∈ ds, self [fz d, fz d] = .ok (.all, .bl true) [none, none]) → acc.length + ds.length ≤ sizeLine →
    ∃ x' y', mLcGo 4 [2, 3] (.tp [.nm 2, .nm 3]) (M.pure true) (sameE self) (ds.map fun a => .tup [a, a]) true acc [a, b, x, y] = some (true, acc ++ List.replicate ds.length (.bl true), [a, b, x', y'])
  | [], acc, x, y, _, _ => ⟨x, y, by simp [mLcGo]⟩
  | d :: ds, acc, x, y, h, hl => by
    simp only [List.length_cons] at hl
    obtain ⟨x', y', e⟩ := same_go (self := self) (a := a) (b := b) ds (acc ++ [.bl true]) (some (fz d)) (some (fz d)) (fun d hd => h d (List.mem_cons_of_mem _ hd)) (by simp; omega)
    refine ⟨x', y', ?_⟩
    have h1 := same_elt (a := a) (b := b) (h d List.mem_cons_self)
    have hl1 : acc.length < sizeLine := by omega
    simp only [List.map_cons, mLcGo, others_42]
    simp [wipeE, mTg, mTgs, nrm_shr, h1, hl1, e, List.replicate_succ]
theorem bools_rep : ∀ n, bools (List.replicate n (.bl true)) = some (List.replicate n true)
  | 0 => rfl
  | n + 1 => by simp [List.replicate_succ, bools, bools_rep n]
theorem pyS_str {x : Str} (h : PyData.strOk x = true) : pyS (.str x) = some (.str x) := by
  simp [pyS, D.py, SeqAt.shaped, PyData.canLay0, PyData.depth, h]
theorem same_refl : ∀ (q : Nat) (d : D), okD d = true → dep d < q → g__law_same q [fz d, fz d] = .ok (.all, .bl true) [none, none]
  | 0, d, _, h => absurd h (Nat.not_lt_zero _)
  | q + 1, d, ho, hd => by
    cases d with
    | lst ds =>
      simp only [okD, Bool.and_eq_true, decide_eq_true_eq] at ho
      simp only [dep] at hd
      obtain ⟨x', y', e⟩ := same_go (self := g__law_same q) (a := some (.shr, .lst ds)) (b := some (.shr, .lst ds)) ds [] none none (fun d hd' => same_refl q d (okAll_mem ho.2 d hd') (by have := depAll_mem hd'; omega)) (by have := ho.1; simp only [List.length_nil, sizeLine_eq]; omega)
      unfold sameE at e
      simp [g__law_same, callM, m__law_same, fz, mkTup, gIsi, D.tyN, tyList, clsNames, subTy, D.tru, nrm, backOf, gNe, pyS_bl, PyData.eqv, gLen, gZip, e, gAll, bools_rep, newL]
    | tup ds =>
      simp only [okD, Bool.and_eq_true, decide_eq_true_eq] at ho
      simp only [dep] at hd
      obtain ⟨x', y', e⟩ := same_go (self := g__law_same q) (a := some (fz (.tup ds))) (b := some (fz (.tup ds))) ds [] none none (fun d hd' => same_refl q d (okAll_mem ho.2 d hd') (by have := depAll_mem hd'; omega)) (by have := ho.1; simp only [List.length_nil, sizeLine_eq]; omega)
      unfold sameE at e
      by_cases hi : immAll ds = true
      all_goals simp [fz, hi] at e
      all_goals simp [g__law_same, callM, m__law_same, fz, mkTup, gIsi, D.tyN, tyList, clsNames, subTy, D.tru, nrm, backOf, gNe, pyS_bl, PyData.eqv, gLen, gZip, e, gAll, bools_rep, newL, hi]
    | non => simp [g__law_same, callM, m__law_same, fz, mkTup, gIsi, D.tyN, tyList, clsNames, subTy, D.tru, gIs, nrm, backOf]
    | bl b => cases b <;> simp [g__law_same, callM, m__law_same, fz, mkTup, gIsi, D.tyN, tyList, clsNames, subTy, D.tru, gIs, nrm, backOf, gEq, pyS_bl, PyData.eqv]
    | int i => simp [g__law_same, callM, m__law_same, fz, mkTup, gIsi, D.tyN, tyList, clsNames, subTy, D.tru, gIs, nrm, backOf, gNe, pyS_bl, PyData.eqv]
    | str x => 
      have hx := pyS_str (x := x) (by simpa [okD] using ho)
      simp [g__law_same, callM, m__law_same, fz, mkTup, gIsi, D.tyN, tyList, clsNames, subTy, D.tru, gIs, nrm, backOf, gNe, gEq, pyS_bl, hx, PyData.eqv]
    | _ => simp [okD] at ho
end BV
set_option maxHeartbeats 2000000
/-! PL4: copies, spoilt things. -/
namespace BV
open PySem PySem.Spec PyProof.Rows L2 LamX

def copE (self : List Val → CO) : M Val := mCall [] 1 self (mACons (mVar 3) mANil)
theorem others_43 : others 4 [3] = [0, 1, 2] := by decide
theorem cop_elt {self : List Val → CO} {d : D} {a b c : Option Val} {y : Val} {back : Env} (h : self [fz d] = .ok y back) : copE self [a, b, c, some (fz d)] = .ok y [a, b, c, some (fz d)] := by
  simp only [copE, ev_call, ev_aCons]
  rw [mVar_fz rfl]
  simp [mCallF, lentOf, argsOf, h, putBack]
theorem cop_go {self : List Val → CO} {a b c : Option Val} : ∀ (ds : List D) (acc : List D) (x : Option Val), (∀ d ∈ ds, self [fz d] = .ok (.all, d) [none]) → acc.length + ds.length ≤ sizeLine →
    ∃ x', mLcGo 4 [3] (.nm 3) (M.pure true) (copE self) ds true acc [a, b, c, x] = some (true, acc ++ ds, [a, b, c, x'])
  | [], acc, x, _, _ => ⟨x, by simp [mLcGo]⟩
  | d :: ds, acc, x, h, hl => by
    simp only [List.length_cons] at hl
    obtain ⟨x', e⟩ := cop_go (self := self) (a := a) (b := b) (c := c) ds (acc ++ [d]) (some (fz d)) (fun d hd => h d (List.mem_cons_of_mem _ hd)) (by simp; omega)
    refine ⟨x', ?_⟩
    have h1 := cop_elt (a := a) (b := b) (c := c) (h d List.mem_cons_self)
    have hl1 : acc.length < sizeLine := by omega
    simp only [mLcGo, others_43]
    simp [wipeE, mTg, nrm_shr, h1, hl1, e]
theorem cop_ok : ∀ (q : Nat) (d : D), okD d = true → dep d < q → g__law_copied q [fz d] = .ok (.all, d) [none]
  | 0, d, _, h => absurd h (Nat.not_lt_zero _)
  | q + 1, d, ho, hd => by
    cases d with
    | lst ds =>
      simp only [okD, Bool.and_eq_true, decide_eq_true_eq] at ho
      simp only [dep] at hd
      obtain ⟨x', e⟩ := cop_go (self := g__law_copied q) (a := some (.shr, .lst ds)) (b := none) (c := none) ds [] none (fun d hd' => cop_ok q d (okAll_mem ho.2 d hd') (by have := depAll_mem hd'; omega)) (by have := ho.1; simp only [List.length_nil, sizeLine_eq]; omega)
      unfold copE at e
      simp [g__law_copied, callM, m__law_copied, fz, mkTup, gIsi, D.tyN, tyList, clsNames, subTy, D.tru, nrm, backOf, itemsOf, e, newL, restE, wipeE, keepO]
    | tup ds =>
      simp only [okD, Bool.and_eq_true, decide_eq_true_eq] at ho
      simp only [dep] at hd
      obtain ⟨x', e⟩ := cop_go (self := g__law_copied q) (a := some (fz (.tup ds))) (b := none) (c := none) ds [] none (fun d hd' => cop_ok q d (okAll_mem ho.2 d hd') (by have := depAll_mem hd'; omega)) (by have := ho.1; simp only [List.length_nil, sizeLine_eq]; omega)
      unfold copE at e
      by_cases hi : immAll ds = true
      all_goals simp [fz, hi] at e
      all_goals simp [g__law_copied, callM, m__law_copied, fz, mkTup, gIsi, D.tyN, tyList, clsNames, subTy, D.tru, nrm, backOf, itemsOf, e, newL, restE, wipeE, keepO, hi, gTuple, newT]
    | non => simp [g__law_copied, callM, m__law_copied, fz, mkTup, gIsi, D.tyN, tyList, clsNames, subTy, D.tru, nrm, backOf]
    | bl b => simp [g__law_copied, callM, m__law_copied, fz, mkTup, gIsi, D.tyN, tyList, clsNames, subTy, D.tru, nrm, backOf]
    | int i => simp [g__law_copied, callM, m__law_copied, fz, mkTup, gIsi, D.tyN, tyList, clsNames, subTy, D.tru, nrm, backOf]
    | str x => simp [g__law_copied, callM, m__law_copied, fz, mkTup, gIsi, D.tyN, tyList, clsNames, subTy, D.tru, nrm, backOf]
    | _ => simp [okD] at ho
mutual
def spoil : D → D
  | .lst ds => .lst (spoilAll ds ++ [.str (Str.ofString "late")])
  | .tup ds => .tup (spoilAll ds)
  | d => d
def spoilAll : List D → List D
  | [] => []
  | d :: ds => spoil d :: spoilAll ds
end
theorem spoilAll_len : ∀ ds, (spoilAll ds).length = ds.length
  | [] => by simp [spoilAll]
  | d :: ds => by simp [spoilAll, spoilAll_len ds]
def spoE (self : List Val → CO) : M Fl := mExpr (mCall [0] 1 self (mAMut 1 mANil))
theorem spo_go {self : List Val → CO} : ∀ (ds acc : List D) (x : Option Val), (∀ d ∈ ds, self [(.all, d)] = .ok (.all, .non) [some (.all, spoil d)]) →
    lendGo 1 (spoE self) ds acc [none, x] = some (acc ++ spoilAll ds, [none, if ds = [] then x else none])
  | [], acc, x, _ => by simp [lendGo, spoilAll]
  | d :: ds, acc, x, h => by
    have e := spo_go (self := self) ds (acc ++ [spoil d]) none fun d hd => h d (List.mem_cons_of_mem _ hd)
    have h1 : spoE self [none, some (.all, d)] = .ok .nx [none, some (.all, spoil d)] := by
      simp [spoE, mCallF, lentOf, argsOf, h d List.mem_cons_self, putBack]
    simp [lendGo, h1, e, spoilAll]
theorem spo_ok : ∀ (q : Nat) (d : D), okD d = true → dep d < q → g__law_spoilt q [(.all, d)] = .ok (.all, .non) [some (.all, spoil d)]
  | 0, d, _, h => absurd h (Nat.not_lt_zero _)
  | q + 1, d, ho, hd => by
    cases d with
    | lst ds =>
      simp only [okD, Bool.and_eq_true, decide_eq_true_eq] at ho
      simp only [dep] at hd
      have e := spo_go (self := g__law_spoilt q) ds [] none fun d hd' => spo_ok q d (okAll_mem ho.2 d hd') (by have := depAll_mem hd'; omega)
      have hl : ds.length < sizeLine := by have := ho.1; rw [sizeLine_eq]; omega
      unfold spoE at e
      simp [g__law_spoilt, callM, m__law_spoilt, frzV, mkTup, gIsi, D.tyN, tyList, clsNames, subTy, D.tru, nrm, backOf, solidV, mForLend, e, D.isLst, gAppend, spoilAll_len, hl, newL, spoil]
    | tup ds =>
      simp only [okD, Bool.and_eq_true, decide_eq_true_eq] at ho
      simp only [dep] at hd
      have e := spo_go (self := g__law_spoilt q) ds [] none fun d hd' => spo_ok q d (okAll_mem ho.2 d hd') (by have := depAll_mem hd'; omega)
      unfold spoE at e
      by_cases hi : immAll ds = true <;> by_cases hj : immAll (spoilAll ds) = true
      all_goals simp [g__law_spoilt, callM, m__law_spoilt, frzV, hi, hj, mkTup, gIsi, D.tyN, tyList, clsNames, subTy, D.tru, nrm, backOf, solidV, mForLend, e, spoil]
    | non => simp [g__law_spoilt, callM, m__law_spoilt, frzV, mkTup, gIsi, D.tyN, tyList, clsNames, subTy, D.tru, nrm, backOf, solidV, spoil]
    | bl b => simp [g__law_spoilt, callM, m__law_spoilt, frzV, mkTup, gIsi, D.tyN, tyList, clsNames, subTy, D.tru, nrm, backOf, solidV, spoil]
    | int i => simp [g__law_spoilt, callM, m__law_spoilt, frzV, mkTup, gIsi, D.tyN, tyList, clsNames, subTy, D.tru, nrm, backOf, solidV, spoil]
    | str x => simp [g__law_spoilt, callM, m__law_spoilt, frzV, mkTup, gIsi, D.tyN, tyList, clsNames, subTy, D.tru, nrm, backOf, solidV, spoil]
    | _ => simp [okD] at ho
end BV
set_option maxHeartbeats 2000000
/-! PL5: asked twice. -/
namespace BV
open PySem PySem.Spec PyProof.Rows L2 LamX

mutual
def shortD : D → Bool
  | .tup ds => decide (ds.length < 1000000) && shortAll ds
  | .lst ds => decide (ds.length < 1000000) && shortAll ds
  | _ => true
def shortAll : List D → Bool
  | [] => true
  | d :: ds => shortD d && shortAll ds
end
theorem okAll_app : ∀ ds es, okAll (ds ++ es) = (okAll ds && okAll es)
  | [], es => by simp [okAll]
  | d :: ds, es => by simp [okAll, okAll_app ds es, Bool.and_assoc]
theorem depAll_app : ∀ ds es, depAll (ds ++ es) = max (depAll ds) (depAll es)
  | [], es => by simp [depAll]
  | d :: ds, es => by simp [depAll, depAll_app ds es, Nat.max_assoc]
theorem late_ok : PyData.strOk (Str.ofString "late") = true := by decide +kernel
mutual
theorem spoil_ok : ∀ d, okD d = true → shortD d = true → okD (spoil d) = true
  | .lst ds, h, k => by
    simp only [okD, shortD, Bool.and_eq_true, decide_eq_true_eq] at h k
    have := spoilAll_ok ds h.2 k.2
    simp only [spoil, okD, okAll_app, Bool.and_eq_true, decide_eq_true_eq, List.length_append, spoilAll_len, okAll, List.length_cons, List.length_nil]
    exact ⟨by omega, this, late_ok, trivial⟩
  | .tup ds, h, k => by
    simp only [okD, shortD, Bool.and_eq_true, decide_eq_true_eq] at h k
    have := spoilAll_ok ds h.2 k.2
    simp only [spoil, okD, Bool.and_eq_true, decide_eq_true_eq, spoilAll_len]
    exact ⟨h.1, this⟩
  | .non, h, _ => by simpa only [spoil] using h
  | .bl _, h, _ => by simpa only [spoil] using h
  | .int _, h, _ => by simpa only [spoil] using h
  | .str _, h, _ => by simpa only [spoil] using h
  | .ty _, h, _ => by simp [okD] at h
  | .glo _, h, _ => by simp [okD] at h
  | .dic _ _, h, _ => by simp [okD] at h
  | .pin, h, _ => by simp [okD] at h
  | .ins _ _, h, _ => by simp [okD] at h
  | .clo _ _, h, _ => by simp [okD] at h
  | .scr _, h, _ => by simp [okD] at h
theorem spoilAll_ok : ∀ ds, okAll ds = true → shortAll ds = true → okAll (spoilAll ds) = true
  | [], _, _ => by simp [spoilAll, okAll]
  | d :: ds, h, k => by
    simp only [okAll, shortAll, spoilAll, Bool.and_eq_true] at h k ⊢
    exact ⟨spoil_ok d h.1 k.1, spoilAll_ok ds h.2 k.2⟩
end
mutual
theorem dep_spoil : ∀ d, dep (spoil d) = dep d
  | .lst ds => by simp [spoil, dep, depAll_app, dep_spoilAll ds, depAll]
  | .tup ds => by simp [spoil, dep, dep_spoilAll ds]
  | .non => by simp only [spoil]
  | .bl _ => by simp only [spoil]
  | .int _ => by simp only [spoil]
  | .str _ => by simp only [spoil]
  | .ty _ => by simp only [spoil]
  | .glo _ => by simp only [spoil]
  | .dic _ _ => by simp only [spoil]
  | .pin => by simp only [spoil]
  | .ins _ _ => by simp only [spoil]
  | .clo _ _ => by simp only [spoil]
  | .scr _ => by simp only [spoil]
theorem dep_spoilAll : ∀ ds, depAll (spoilAll ds) = depAll ds
  | [] => by simp [spoilAll]
  | d :: ds => by simp [spoilAll, depAll, dep_spoil d, dep_spoilAll ds]
end
mutual
theorem okD_noclo : ∀ d, okD d = true → d.noclo = true
  | .lst ds, h => by
    simp only [okD, Bool.and_eq_true] at h
    simpa only [D.noclo] using okAll_noclo ds h.2
  | .tup ds, h => by
    simp only [okD, Bool.and_eq_true] at h
    simpa only [D.noclo] using okAll_noclo ds h.2
  | .non, h => by simp only [D.noclo]
  | .bl _, h => by simp only [D.noclo]
  | .int _, h => by simp only [D.noclo]
  | .str _, h => by simp only [D.noclo]
  | .ty _, h => by simp [okD] at h
  | .glo _, h => by simp [okD] at h
  | .dic _ _, h => by simp [okD] at h
  | .pin, h => by simp [okD] at h
  | .ins _ _, h => by simp [okD] at h
  | .clo _ _, h => by simp [okD] at h
  | .scr _, h => by simp [okD] at h
theorem okAll_noclo : ∀ ds, okAll ds = true → nocloAll ds = true
  | [], _ => by simp [nocloAll]
  | d :: ds, h => by
    simp only [okAll, Bool.and_eq_true] at h
    simp [nocloAll, okD_noclo d h.1, okAll_noclo ds h.2]
end
theorem twice_ok {gk : LamG} {d : D} {k1 k2 : Nat} {c1 c2 : List D} {e1 e2 : Env} (ho : okD d = true) (hs : shortD d = true) (hd : dep d < 38) (h1 : gk k1 [] c1 = .ok (.all, d) e1) (h2 : gk k2 [] c2 = .ok (.all, d) e2) :
    g__law_twice gk [fz d, (.shr, .clo k1 c1), (.shr, .clo k2 c2)] = .ok (.all, .bl true) [none, none, none] := by
  have n1 := okD_noclo d ho
  have n2 := okD_noclo _ (spoil_ok d ho hs)
  have s1 := same_refl 40 d ho (by omega)
  have c := cop_ok 40 d ho (by omega)
  have p := spo_ok 40 d ho (by omega)
  have s2 := same_refl 40 (.lst [spoil d, d, d]) (by simp [okD, okAll, spoil_ok d ho hs, ho]) (by simp [dep, depAll, dep_spoil]; omega)
  by_cases hi : d.imm = true <;> by_cases hj : (spoil d).imm = true
  all_goals simp [fz, hi] at s1 c p s2 ⊢
  all_goals simp [g__law_twice, callM, m__law_twice, mCallClo, cloAt, h1, h2, hi, hj, mCallNF, mCallF, lentOf, argsOf, frzV, n1, n2, c, s1, p, s2, putBack, putAll, nrm, D.tru, mkLst, backOf, D.noclo, nocloAll]
end BV
set_option maxHeartbeats 2000000
/-! PL6: texts, sign by sign. -/
namespace BV
open PySem PySem.Spec PyProof.Rows L2 LamX

def S (l : List Nat) : Str := ⟨l.toArray⟩
theorem S_cps (l : List Nat) : (S l).cps.toList = l := by simp [S]
@[simp] theorem S_len (l : List Nat) : (S l).length = l.length := by simp [S, Str.length]
theorem S_app (a b : List Nat) : S a ++ S b = S (a ++ b) := by
  show (⟨(S a).cps ++ (S b).cps⟩ : Str) = _
  simp [S]
theorem S_of (x : Str) : x = S x.cps.toList := by cases x; simp [S]
theorem S_inj {a b : List Nat} (h : S a = S b) : a = b := by
  have := congrArg (fun z : Str => z.cps.toList) h
  simpa [S_cps] using this
/-- all signs may stand in a text -/
def okL (l : List Nat) : Prop := ∀ c ∈ l, c < 0x110000
theorem okS {l : List Nat} (h : okL l) : PyData.strOk (S l) = true := by
  unfold PyData.strOk S
  simp only [List.size_toArray, List.all_toArray]
  simpa [okL] using h
theorem gEq_str {a b : List Nat} (ha : okL a) (hb : okL b) : gEq (.str (S a)) (.str (S b)) = some (.bl (decide (a = b))) := by
  simp only [gEq, pyS_str (okS ha), pyS_str (okS hb), PyData.eqv]
  congr 2
  by_cases h : a = b
  · simp [h]
  · have : S a ≠ S b := fun e => h (S_inj e)
    simp [h, this]
theorem gNe_str {a b : List Nat} (ha : okL a) (hb : okL b) : gNe (.str (S a)) (.str (S b)) = some (.bl (!decide (a = b))) := by
  simp only [gNe, pyS_str (okS ha), pyS_str (okS hb), PyData.eqv]
  congr 3
  by_cases h : a = b
  · simp [h]
  · have : S a ≠ S b := fun e => h (S_inj e)
    simp [h, this]
theorem atI_nat {α : Type} (xs : List α) (n : Nat) : atI xs (n : Int) = xs[n]? := by
  unfold atI ixN
  by_cases h : n < xs.length
  · simp [h]
  · have h2 : xs[n]? = none := List.getElem?_eq_none (by omega)
    have : ¬ ((n : Int) < xs.length) := by omega
    simp [this, h2]
theorem gIx_str {m : Mode} {t : List Nat} {n : Nat} {c : Nat} (hl : t.length ≤ sizeLine) (h : t[n]? = some c) : gIx (m, .str (S t)) (.int (n : Int)) = some (.all, .str (S [c])) := by
  simp [gIx, hl, S_cps, atI_nat, h]
  rfl
/-- letters and figures -/
def plainC (c : Nat) : Bool := decide (c ∈ (Str.ofString "abcdefghijklmnopqrstuvwxyz").cps.toList) || decide (c ∈ (Str.ofString "0123456789").cps.toList)
theorem gIn_c (c : Nat) (z : Str) : gIn (.str (S [c])) (.str z) = some (.bl (decide (c ∈ z.cps.toList))) := by
  simp [gIn, gOr, gDIn, gInL, gInT, gInS, S_cps]
theorem plain_ok (c : Nat) : g_is_plain [(.all, .str (S [c]))] = .ok (.all, .bl (plainC c)) [none] := by
  unfold plainC
  by_cases h : c ∈ (Str.ofString "abcdefghijklmnopqrstuvwxyz").cps.toList
  · simp [g_is_plain, callM, m_is_plain, gIn_c, h, D.tru, nrm, backOf]
  · simp [g_is_plain, callM, m_is_plain, gIn_c, h, D.tru, nrm, backOf]
/-- where the run of plain signs ends -/
def run (t : List Nat) : Nat := (t.takeWhile plainC).length
abbrev endT : M Bool := mAndT (mTru (mCall [] 1 (g_is_plain) (mACons (mOpV gIx (mVar 0) (mVar 1)) mANil))) (mAndT (mBl (mOp2 gLt (mVar 2) (mFn gLen (mCons (mVar 0) mNil)))) (mTru (mCall [] 1 (g_is_plain) (mACons (mOpV gIx (mVar 0) (mVar 2)) mANil))))
abbrev endB : M Fl := mSet [] 2 (mOpVV gCat (mVar 2) (mC (.int 1)))
theorem end_np {t : List Nat} {b c : Nat} (hl : t.length ≤ sizeLine) (hb : t[b]? = some c) (hc : plainC c = false) : g_end_of [(.all, .str (S t)), (.all, .int (b : Int))] = .ok (.all, .int ((b + 1 : Nat) : Int)) [none, none] := by
  have hw : mWhile endT endB fuel [some (.all, .str (S t)), some (.all, .int (b : Int)), some (.all, .int ((b : Int) + 1))] = .ok .nx [some (.all, .str (S t)), some (.all, .int (b : Int)), some (.all, .int ((b : Int) + 1))] := by
    obtain ⟨k, hk⟩ : ∃ k, fuel = k + 1 := ⟨fuel - 1, by rw [fuel_eq]⟩
    rw [hk]
    simp [mWhile, gIx_str hl hb, mCallF, lentOf, argsOf, frzV, plain_ok, hc, D.tru, putBack]
  simp [g_end_of, callM, m_end_of, gCat, gAdd, nrm, hw, backOf]
/-- a plain run from b on: n signs of the run are behind the first -/
theorem end_go {t : List Nat} {b c : Nat} (hl : t.length ≤ sizeLine) (hb : t[b]? = some c) (hc : plainC c = true) : ∀ (r : List Nat) (i : Nat), b < i → t.drop i = r → ∀ n, r.length < n →
    mWhile endT endB n [some (.all, .str (S t)), some (.all, .int (b : Int)), some (.all, .int (i : Int))] = .ok .nx [some (.all, .str (S t)), some (.all, .int (b : Int)), some (.all, .int ((i + run r : Nat) : Int))]
  | [], i, hi, hr, n, hn => by
    obtain ⟨k, rfl⟩ : ∃ k, n = k + 1 := ⟨n - 1, by simp at hn; omega⟩
    have hle : t.length ≤ i := by simpa using List.drop_eq_nil_iff.mp hr
    have h2 : ¬ ((i : Int) < t.length) := by omega
    simp [mWhile, gIx_str hl hb, mCallF, lentOf, argsOf, frzV, plain_ok, hc, D.tru, putBack, gLen, hl, h2, run]
  | d :: r, i, hi, hr, n, hn => by
    obtain ⟨k, rfl⟩ : ∃ k, n = k + 1 := ⟨n - 1, by simp at hn; omega⟩
    have hd : t[i]? = some d := by
      have := List.getElem?_drop (xs := t) (i := i) (j := 0)
      rw [hr] at this
      simpa using this.symm
    have hlt : (i : Int) < t.length := by
      have := (List.getElem?_eq_some_iff.mp hd).1
      omega
    by_cases hp : plainC d = true
    · have ih := end_go hl hb hc r (i + 1) (by omega) (by
        have := List.drop_drop (i := 1) (j := i) (l := t)
        rw [hr] at this
        simpa [Nat.add_comm] using this.symm) k (by simp at hn; omega)
      have e : ((i : Int) + 1) = ((i + 1 : Nat) : Int) := by omega
      have e2 : ((i + run (d :: r) : Nat) : Int) = ((i + 1 + run r : Nat) : Int) := by simp [run, hp]; omega
      rw [e2]
      simp [mWhile, gIx_str hl hb, gIx_str hl hd, mCallF, lentOf, argsOf, frzV, plain_ok, hc, D.tru, putBack, gLen, hl, hlt, hp, gCat, gAdd, nrm]
      rw [e]
      exact ih
    · have hp' : plainC d = false := by simpa using hp
      simp [mWhile, gIx_str hl hb, gIx_str hl hd, mCallF, lentOf, argsOf, frzV, plain_ok, hc, D.tru, putBack, gLen, hl, hlt, hp', run]
theorem end_pl {t r : List Nat} {b c : Nat} (hl : t.length ≤ sizeLine) (hb : t[b]? = some c) (hc : plainC c = true) (hr : t.drop (b + 1) = r) : g_end_of [(.all, .str (S t)), (.all, .int (b : Int))] = .ok (.all, .int ((b + 1 + run r : Nat) : Int)) [none, none] := by
  have hlen : r.length < fuel := by
    rw [fuel_eq, ← hr]
    have := sizeLine_eq
    simp
    omega
  have hw := end_go hl hb hc r (b + 1) (by omega) hr fuel hlen
  have e : ((b : Int) + 1) = ((b + 1 : Nat) : Int) := by omega
  simp [g_end_of, callM, m_end_of, gCat, gAdd, nrm]
  rw [e, hw]
  simp [backOf, nrm]
end BV
set_option maxHeartbeats 2000000
/-! PL7: the marks of a text. -/
namespace BV
open PySem PySem.Spec PyProof.Rows L2 LamX

abbrev mkT : M Bool := (mBl (mOp2 gLt (mVar 2) (mFn gLen (mCons (mVar 0) mNil))))
abbrev mkB : M Fl := (mThen (mSet [] 6 (mOpV gIx (mVar 0) (mVar 2)))
    (mThen (mSet [] 7 (mOpVV gCat (mVar 2) (mC (.int 1))))
    (mThen (mCond (mBl (mOp2 gEq (mVar 6) (mC (.str (Str.ofString "\n"))))) (mPar [] [3, 4, 5] (mCons (mOpVV gCat (mVar 3) (mC (.int 1))) (mCons (mVar 7) (mCons (mC (.bl false)) mNil)))) (mCond (mOrT (mTru (mVar 5)) (mBl (mOp2 gEq (mVar 6) (mC (.str (Str.ofString "#")))))) (mSet [] 5 (mC (.bl true))) (mCond (mBl (mOp2 gNe (mVar 6) (mC (.str (Str.ofString " "))))) (mThen (mSet [] 7 (mCall [] 2 (g_end_of) (mACons (mVar 0) (mACons (mVar 2) mANil))))
    (mExpr (mMeth 1 D.isLst (gAppend 1) (mCons (mTup (mCons (mCall [] 1 (g_kind_of) (mACons (mSlice (mVar 0) (mPart (mVar 2)) (mPart (mVar 7))) mANil)) (mCons (mSlice (mVar 0) (mPart (mVar 2)) (mPart (mVar 7))) (mCons (mTup (mCons (mVar 3) (mCons (mOpVV gCat (mOp2 gSub (mVar 2) (mVar 4)) (mC (.int 1))) mNil))) mNil)))) mNil)))) (M.pure .nx))))
    (mSet [] 2 (mVar 7)))))
/-- behind the last new line -/
def lastN (u : List Nat) : Nat := u.length - (u.reverse.takeWhile (fun c => c != 10)).length
theorem lastN_snoc (u : List Nat) (c : Nat) : lastN (u ++ [c]) = if c = 10 then u.length + 1 else lastN u := by
  unfold lastN
  by_cases h : c = 10
  · simp [h]
  · simp [h, List.takeWhile_cons]
theorem lastN_app (u : List Nat) : ∀ w : List Nat, 10 ∉ w → lastN (u ++ w) = lastN u := fun w => by
  induction w generalizing u with
  | nil => intro _; simp
  | cons c w ih =>
    intro h
    have h1 : c ≠ 10 := fun e => h (by simp [e])
    have h2 : 10 ∉ w := fun e => h (List.mem_cons_of_mem _ e)
    have := ih (u ++ [c]) h2
    rw [List.append_assoc] at this
    simp only [List.singleton_append] at this
    rw [this, lastN_snoc, if_neg h1]
theorem lastN_le (u : List Nat) : lastN u ≤ u.length := Nat.sub_le ..
def mkE (t : List Nat) (found : List D) (u : List Nat) (rem : Bool) (x6 x7 : Option Val) : Env := [some (.all, .str (S t)), some (.all, .lst found), some (.all, .int (u.length : Nat)), some (.all, .int ((u.count 10 : Nat) + 1)), some (.all, .int (lastN u : Nat)), some (.all, .bl rem), x6, x7]
def gapStep (rem : Bool) (c : Nat) : Option Bool := if c = 10 then some false else if rem || decide (c = 35) then some true else if c = 32 then some rem else none
theorem nl_S : (Str.ofString "\n") = S [10] := by decide +kernel
theorem sh_S : (Str.ofString "#") = S [35] := by decide +kernel
theorem sp_S : (Str.ofString " ") = S [32] := by decide +kernel
theorem gEq_c {c d : Nat} (hc : c < 0x110000) (hd : d < 0x110000) : gEq (.str (S [c])) (.str (S [d])) = some (.bl (decide (c = d))) := by
  rw [gEq_str (by simpa [okL] using hc) (by simpa [okL] using hd)]
  simp
theorem gNe_c {c d : Nat} (hc : c < 0x110000) (hd : d < 0x110000) : gNe (.str (S [c])) (.str (S [d])) = some (.bl (!decide (c = d))) := by
  rw [gNe_str (by simpa [okL] using hc) (by simpa [okL] using hd)]
  simp
theorem mk_gap {t u r : List Nat} {c n : Nat} {rem rem' : Bool} {found : List D} {x6 x7 : Option Val} (ht : t = u ++ c :: r) (hl : t.length ≤ sizeLine) (hc : c < 0x110000) (hg : gapStep rem c = some rem') :
    ∃ y6 y7, mWhile mkT mkB (n + 1) (mkE t found u rem x6 x7) = mWhile mkT mkB n (mkE t found (u ++ [c]) rem' y6 y7) := by
  have hb : t[u.length]? = some c := by rw [ht]; simp
  have hlt : ((u.length : Nat) : Int) < t.length := by rw [ht]; simp; omega
  have e1 := gEq_c (d := 10) hc (by decide)
  have e2 := gEq_c (d := 35) hc (by decide)
  have e3 := gNe_c (d := 32) hc (by decide)
  refine ⟨some (.all, .str (S [c])), some (.all, .int ((u.length : Nat) + 1)), ?_⟩
  unfold gapStep at hg
  by_cases h1 : c = 10
  · subst h1
    simp at hg
    subst hg
    simp [mWhile, mkE, gIx_str hl hb, gLen, hl, hlt, nrm, nl_S, e1, gCat, gAdd, putAll, lastN_snoc]
  · simp [h1] at hg
    by_cases h2 : rem = true ∨ c = 35
    · simp [h2] at hg
      subst hg
      rcases h2 with h2 | h2
      · subst h2
        simp [mWhile, mkE, gIx_str hl hb, gLen, hl, hlt, nrm, nl_S, sh_S, e1, e2, h1, gCat, gAdd, putAll, lastN_snoc, D.tru, List.count_singleton]
      · subst h2
        cases rem <;> simp [mWhile, mkE, gIx_str hl hb, gLen, hl, hlt, nrm, nl_S, sh_S, e1, e2, h1, gCat, gAdd, putAll, lastN_snoc, D.tru, List.count_singleton]
    · simp at h2
      obtain ⟨h2, h3⟩ := h2
      subst h2
      simp [h3] at hg
      obtain ⟨h4, rfl⟩ := hg
      subst h4
      simp [mWhile, mkE, gIx_str hl hb, gLen, hl, hlt, nrm, nl_S, sh_S, sp_S, e1, e2, e3, h1, gCat, gAdd, putAll, lastN_snoc, D.tru, List.count_singleton]
end BV
set_option maxHeartbeats 2000000
/-! PL8: the signs of a text; all of it. -/
namespace BV
open PySem PySem.Spec PyProof.Rows L2 LamX

/-- a sign and what stands behind it -/
def SignOk (w rest : List Nat) : Prop := ∃ c w', w = c :: w' ∧ c ≠ 10 ∧ c ≠ 32 ∧ c ≠ 35 ∧ c < 0x110000 ∧ ((plainC c = true ∧ w'.all plainC = true ∧ ∀ d, rest.head? = some d → plainC d = false) ∨ (plainC c = false ∧ w' = []))
def mark (kind : Str) (w u : List Nat) : D := .tup [.str kind, .str (S w), .tup [.int ((u.count 10 : Nat) + 1), .int ((u.length : Nat) - (lastN u : Nat) + 1)]]
theorem plain_10 : plainC 10 = false := by decide +kernel
theorem run_all : ∀ {w r : List Nat}, w.all plainC = true → (∀ d, r.head? = some d → plainC d = false) → run (w ++ r) = w.length
  | [], [], _, _ => by simp [run]
  | [], d :: r, _, h => by simp [run, h d rfl]
  | c :: w, r, h, hr => by
    simp only [List.all_cons, Bool.and_eq_true] at h
    have := run_all h.2 hr
    simp only [run] at this ⊢
    simp [h.1, this]
theorem no10 {w : List Nat} (h : w.all plainC = true) : 10 ∉ w := fun z => by
  have := List.all_eq_true.mp h 10 z
  rw [plain_10] at this
  cases this
theorem cut_S {u w r : List Nat} : cutS (S (u ++ w ++ r)) (some (u.length : Nat)) (some ((u.length + w.length : Nat) : Int)) = S w := by
  unfold cutS
  rw [HT.sIx_nat, HT.sIx_nat]
  simp only [S_cps, S_len, List.length_append]
  have e1 : min u.length (u.length + w.length + r.length) = u.length := by omega
  have e2 : min (u.length + w.length) (u.length + w.length + r.length) = u.length + w.length := by omega
  rw [e1, e2]
  simp [S]
theorem mk_sign {t u r w : List Nat} {n : Nat} {kind : Str} {found : List D} {x6 x7 : Option Val} (ht : t = u ++ w ++ r) (hl : t.length ≤ sizeLine) (hw : SignOk w r) (hk : g_kind_of [(.all, .str (S w))] = .ok (.all, .str kind) [none]) (hf : found.length < sizeLine) (hi : immAll found = true) :
    ∃ y6 y7, mWhile mkT mkB (n + 1) (mkE t found u false x6 x7) = mWhile mkT mkB n (mkE t (found ++ [mark kind w u]) (u ++ w) false y6 y7) := by
  obtain ⟨c, w', rfl, n1, n2, n3, hc, hp⟩ := hw
  have hb : t[u.length]? = some c := by rw [ht]; simp
  have hlt : ((u.length : Nat) : Int) < t.length := by rw [ht]; simp; omega
  have e1 := gEq_c (d := 10) hc (by decide)
  have e2 := gEq_c (d := 35) hc (by decide)
  have e3 := gNe_c (d := 32) hc (by decide)
  have he : g_end_of [(.all, .str (S t)), (.all, .int (u.length : Nat))] = .ok (.all, .int ((u.length + (c :: w').length : Nat) : Int)) [none, none] := by
    rcases hp with ⟨p1, p2, p3⟩ | ⟨p1, rfl⟩
    · rw [end_pl (r := w' ++ r) hl hb p1 (by rw [ht]; simp), run_all p2 p3]
      congr 3
      simp; omega
    · rw [end_np hl hb p1]
      rfl
  have hcut : gSlice (.all, .str (S t)) (some (u.length : Nat)) (some ((u.length + (c :: w').length : Nat) : Int)) = some (.all, .str (S (c :: w'))) := by
    simp only [gSlice]
    rw [if_pos (by simpa using hl)]
    rw [ht, cut_S]
  have h10 : 10 ∉ c :: w' := by
    rcases hp with ⟨p1, p2, p3⟩ | ⟨p1, rfl⟩
    · intro z
      rcases List.mem_cons.mp z with z | z
      · exact n1 z.symm
      · exact no10 p2 z
    · simpa using fun z => n1 z.symm
  have hlast := lastN_app u (c :: w') h10
  have hcount : (u ++ c :: w').count 10 = u.count 10 := by rw [List.count_append, List.count_eq_zero.mpr h10]; rfl
  refine ⟨some (.all, .str (S [c])), some (.all, .int ((u.length + (c :: w').length : Nat) : Int)), ?_⟩
  have hlen : (u ++ c :: w').length = u.length + (c :: w').length := by simp
  unfold mkE
  rw [hlast, hcount, hlen]
  generalize hL : u.length + (c :: w').length = L at *
  simp [mWhile, gIx_str hl hb, gLen, hl, hlt, nrm, nl_S, sh_S, sp_S, e1, e2, e3, n1, n2, n3, gCat, gAdd, gSub, D.tru, mCallF, lentOf, argsOf, frzV, he, putBack, D.isLst, hcut, hk, mkTup, gAppend, hf, newL, mark]
end BV
set_option maxHeartbeats 2000000
/-! PL9: all of a text. -/
namespace BV
open PySem PySem.Spec PyProof.Rows L2 LamX

def gapRun : Bool → List Nat → Option Bool
  | rem, [] => some rem
  | rem, c :: g => (gapStep rem c).bind fun rem' => gapRun rem' g
abbrev Item := List Nat × Str × List Nat
def body : List Item → List Nat
  | [] => []
  | i :: r => i.1 ++ (i.2.2 ++ body r)
def marks : List Nat → List Item → List D
  | _, [] => []
  | u, i :: r => mark i.2.1 i.2.2 (u ++ i.1) :: marks (u ++ i.1 ++ i.2.2) r
def Good : List Item → List Nat → Prop
  | [], _ => True
  | i :: r, tail => gapRun false i.1 = some false ∧ okL i.1 ∧ SignOk i.2.2 (body r ++ tail) ∧ g_kind_of [(.all, .str (S i.2.2))] = .ok (.all, .str i.2.1) [none] ∧ Good r tail
theorem mk_gaps {t r : List Nat} {found : List D} (hl : t.length ≤ sizeLine) : ∀ (g u : List Nat) (rem rem' : Bool) (n : Nat) (x6 x7 : Option Val), t = u ++ (g ++ r) → okL g → gapRun rem g = some rem' →
    ∃ y6 y7, mWhile mkT mkB (n + g.length) (mkE t found u rem x6 x7) = mWhile mkT mkB n (mkE t found (u ++ g) rem' y6 y7)
  | [], u, rem, rem', n, x6, x7, ht, _, hg => by
    simp [gapRun] at hg
    subst hg
    exact ⟨x6, x7, by simp⟩
  | c :: g, u, rem, rem', n, x6, x7, ht, ho, hg => by
    simp only [gapRun] at hg
    cases h1 : gapStep rem c with
    | none => rw [h1] at hg; cases hg
    | some rem1 =>
      rw [h1] at hg
      obtain ⟨y6, y7, e1⟩ := mk_gap (r := g ++ r) (n := n + g.length) (found := found) (x6 := x6) (x7 := x7) (by simpa using ht) hl (ho c List.mem_cons_self) h1
      obtain ⟨z6, z7, e2⟩ := mk_gaps (found := found) hl g (u ++ [c]) rem1 rem' n y6 y7 (by simpa using ht) (fun d hd => ho d (List.mem_cons_of_mem _ hd)) hg
      refine ⟨z6, z7, ?_⟩
      have : n + (c :: g).length = n + g.length + 1 := by simp; omega
      rw [this, e1, e2]
      simp
theorem immAll_app : ∀ ds es, immAll (ds ++ es) = (immAll ds && immAll es)
  | [], es => by simp
  | d :: ds, es => by simp [immAll_app ds es, Bool.and_assoc]
theorem mark_imm (k : Str) (w u : List Nat) : (mark k w u).imm = true := by simp [mark]
theorem mk_end {t : List Nat} {found : List D} {rem : Bool} {x6 x7 : Option Val} {n : Nat} (hl : t.length ≤ sizeLine) : mWhile mkT mkB (n + 1) (mkE t found t rem x6 x7) = .ok .nx (mkE t found t rem x6 x7) := by
  simp [mWhile, mkE, gLen, hl]
theorem marks_go {t tail : List Nat} {rem1 : Bool} (hl : t.length ≤ sizeLine) (ho : okL tail) (hg : gapRun false tail = some rem1) : ∀ (is : List Item) (u : List Nat) (found : List D) (n : Nat) (x6 x7 : Option Val), t = u ++ (body is ++ tail) → Good is tail → immAll found = true → found.length + is.length < sizeLine → (body is ++ tail).length < n →
    ∃ y6 y7, mWhile mkT mkB n (mkE t found u false x6 x7) = .ok .nx (mkE t (found ++ marks u is) t rem1 y6 y7)
  | [], u, found, n, x6, x7, ht, _, _, _, hn => by
    simp only [body, List.nil_append] at ht hn
    obtain ⟨m, rfl⟩ : ∃ m, n = m + 1 + tail.length := ⟨n - 1 - tail.length, by omega⟩
    obtain ⟨y6, y7, e⟩ := mk_gaps (r := []) (found := found) hl tail u false rem1 (m + 1) x6 x7 (by simpa using ht) ho hg
    refine ⟨y6, y7, ?_⟩
    rw [e, ← ht, mk_end hl]
    simp [marks]
  | i :: is, u, found, n, x6, x7, ht, hgd, hi, hf, hn => by
    obtain ⟨g1, g2, g3, g4, g5⟩ := hgd
    simp only [body, List.append_assoc] at ht hn
    simp only [List.length_cons] at hf
    have hw : 0 < i.2.2.length := by obtain ⟨c, w', e, _⟩ := g3; rw [e]; simp
    obtain ⟨m, rfl⟩ : ∃ m, n = m + 1 + i.1.length := ⟨n - 1 - i.1.length, by simp at hn; omega⟩
    obtain ⟨y6, y7, e1⟩ := mk_gaps (r := i.2.2 ++ (body is ++ tail)) (found := found) hl i.1 u false false (m + 1) x6 x7 ht g2 g1
    obtain ⟨z6, z7, e2⟩ := mk_sign (n := m) (found := found) (u := u ++ i.1) (r := body is ++ tail) (w := i.2.2) (x6 := y6) (x7 := y7) (t := t) (by rw [ht]; simp) hl g3 g4 (by omega) hi
    obtain ⟨v6, v7, e3⟩ := marks_go hl ho hg is (u ++ i.1 ++ i.2.2) (found ++ [mark i.2.1 i.2.2 (u ++ i.1)]) m z6 z7 (by rw [ht]; simp) g5 (by rw [immAll_app, hi]; simp [mark_imm]) (by simp; omega) (by simp at hn ⊢; omega)
    refine ⟨v6, v7, ?_⟩
    rw [e1, e2, e3]
    simp [marks]
def endMark (t : List Nat) : D := mark (Str.ofString "end") [] t
theorem empty_S : Str.ofString "" = S [] := by decide +kernel
theorem lastN_nil : lastN [] = 0 := rfl
theorem marks_len : ∀ (is : List Item) (u : List Nat), (marks u is).length = is.length
  | [], _ => rfl
  | i :: is, u => by simp [marks, marks_len is]
theorem marks_imm : ∀ (is : List Item) (u : List Nat), immAll (marks u is) = true
  | [], _ => by simp [marks]
  | i :: is, u => by simp [marks, marks_imm is, mark_imm]
theorem marks_ok {is : List Item} {tail : List Nat} {rem1 : Bool} (hl : (body is ++ tail).length ≤ sizeLine) (ho : okL tail) (hg : gapRun false tail = some rem1) (hgd : Good is tail) (hs : is.length + 1 < sizeLine) :
    g_marks_of [(.all, .str (S (body is ++ tail)))] = .ok (.all, .lst (marks [] is ++ [endMark (body is ++ tail)])) [none] := by
  have hn : (body is ++ tail).length < fuel := by rw [fuel_eq]; rw [sizeLine_eq] at hl; omega
  obtain ⟨y6, y7, e⟩ := marks_go hl ho hg is [] [] fuel none none rfl hgd (by simp) (by simpa using by omega) hn
  generalize hT : body is ++ tail = t at *
  have hml : (marks [] is).length < sizeLine := by rw [marks_len]; omega
  have e2 : mWhile mkT mkB fuel [some (.all, .str (S t)), some (.all, .lst []), some (.all, .int 0), some (.all, .int 1), some (.all, .int 0), some (.all, .bl false), none, none] = .ok .nx (mkE t (marks [] is) t rem1 y6 y7) := by
    have : mkE t [] [] false none none = [some (.all, .str (S t)), some (.all, .lst []), some (.all, .int 0), some (.all, .int 1), some (.all, .int 0), some (.all, .bl false), none, none] := by simp [mkE, lastN_nil]
    rw [← this]
    simpa using e
  simp [g_marks_of, callM, m_marks_of, gType, D.tyN, gIs, mTg, mTgs, mkTup, mkLst, nrm, e2]
  simp [mkE, D.isLst, mkTup, gLen, hl, gSub, gCat, gAdd, gAppend, hml, newL, backOf, endMark, mark, empty_S, nrm]
end BV
set_option maxHeartbeats 4000000
/-! PL10: picks; the marks that the law draws. -/
namespace BV
open PySem PySem.Spec PyProof.Rows L2 LamX

theorem Stm.solid {k : Nat} {v : Val} (h : Stm k v) : solidV v := by
  obtain ⟨cells, a, b, c, rfl, h1, h2, h3, h4, h5⟩ := h
  exact .inl ⟨rfl, by simp [sol_ints]⟩
theorem Stm.nimm {k : Nat} {v : Val} (h : Stm k v) : v.2.imm = false := by
  obtain ⟨cells, a, b, c, rfl, h1, h2, h3, h4, h5⟩ := h
  simp
theorem Stm.nrm {k : Nat} {v : Val} (h : Stm k v) : BV.nrm v = v := by
  unfold BV.nrm
  rw [h.nimm]
  simp
theorem pick_ok {k : Nat} {v : Val} (h : Stm (k + 1) v) {ds : List D} (h0 : ds ≠ []) (h1 : ds.length < 1000000) (hi : immAll ds = true) : ∃ (d : D) (v' : Val), d ∈ ds ∧ g__law_pick [v, (.shr, .lst ds)] = .ok (.all, d) [some v', none] ∧ Stm k v' := by
  have hp : 0 < ds.length := List.length_pos_iff.mpr h0
  obtain ⟨r, v', e, hs, r0, r1⟩ := draw_ok h (many := (ds.length : Int)) (by omega) (by omega)
  obtain ⟨n, rfl⟩ := Int.eq_ofNat_of_zero_le r0
  have hn : n < ds.length := by omega
  have hd : ds[n]? = some ds[n] := List.getElem?_eq_getElem hn
  have him : (ds[n]).imm = true := by
    have : ∀ l : List D, immAll l = true → ∀ d ∈ l, d.imm = true := fun l => by
      induction l with
      | nil => intro _ d h; cases h
      | cons a l ih =>
        intro h d hd
        simp at h
        rcases List.mem_cons.mp hd with rfl | hd
        · exact h.1
        · exact ih h.2 d hd
    exact this ds hi _ (List.getElem_mem hn)
  refine ⟨ds[n], v', List.getElem_mem hn, ?_, hs⟩
  simp [g__law_pick, callM, m__law_pick, gLen, mCallF, lentOf, argsOf, frzV, e, putBack, gIx, atI_nat, hn, nrm, him, backOf]
def shapeB (w : List Nat) : Bool := match w with
  | c :: w' => c != 10 && c != 32 && c != 35 && decide (c < 0x110000) && w'.all (fun d => decide (d < 0x110000)) && ((plainC c && w'.all plainC) || (!plainC c && w'.isEmpty)) && decide (w.length ≤ 5000)
  | [] => false
def kindB (k : Str) (w : List Nat) : Bool := match g_kind_of [(.all, .str (S w))] with
  | .ok (.all, .str k') [none] => decide (k' = k)
  | _ => false
theorem kindB_ok {k : Str} {w : List Nat} (h : kindB k w = true) : g_kind_of [(.all, .str (S w))] = .ok (.all, .str k) [none] := by
  unfold kindB at h
  split at h
  · rename_i k' e
    rw [e, of_decide_eq_true h]
  · cases h
/-- what the law may draw as a mark -/
def MkOk (k : Str) (w : List Nat) : Prop := shapeB w = true ∧ g_kind_of [(.all, .str (S w))] = .ok (.all, .str k) [none] ∧ PyData.strOk k = true
theorem shape_okL {w : List Nat} (h : shapeB w = true) : okL w := by
  unfold shapeB at h
  split at h
  · rename_i c w'
    simp only [Bool.and_eq_true, decide_eq_true_eq, List.all_eq_true] at h
    obtain ⟨⟨⟨⟨_, h4⟩, h5⟩, _⟩, _⟩ := h
    intro d hd
    rcases List.mem_cons.mp hd with rfl | hd
    · exact h4
    · exact h5 d hd
  · cases h
theorem wrong_str : PyData.strOk (Str.ofString "wrong") = true := by decide +kernel
theorem number_str : PyData.strOk (Str.ofString "number") = true := by decide +kernel
theorem name_str : PyData.strOk (Str.ofString "name") = true := by decide +kernel
def words : List D := [.str (Str.ofString "word"), .str (Str.ofString "thread"), .str (Str.ofString "outer"), .str (Str.ofString "left"), .str (Str.ofString "right"), .str (Str.ofString "points")]
def selfB : D → Bool
  | .str x => shapeB x.cps.toList && kindB x x.cps.toList
  | _ => false
def wrongB : D → Bool
  | .str x => shapeB x.cps.toList && kindB (Str.ofString "wrong") x.cps.toList
  | _ => false
theorem words_ok : words.all selfB = true := by decide +kernel
theorem signs_ok : ((Str.ofString "<>,-").cps.toList.map fun c => D.str ⟨#[c]⟩).all selfB = true := by decide +kernel
theorem odd_ok : ((Str.ofString "[]@!&?/|^~_$'AZ+=;:.()").cps.toList.map fun c => D.str ⟨#[c]⟩).all wrongB = true := by decide +kernel
theorem selfB_ok {d : D} (h : selfB d = true) : ∃ w, d = .str (S w) ∧ MkOk (S w) w := by
  unfold selfB at h
  split at h
  · rename_i x
    simp only [Bool.and_eq_true] at h
    refine ⟨x.cps.toList, by rw [← S_of], h.1, ?_, okS (shape_okL h.1)⟩
    have := kindB_ok h.2
    rwa [← S_of] at this ⊢
  · cases h
theorem wrongB_ok {d : D} (h : wrongB d = true) : ∃ w, d = .str (S w) ∧ MkOk (Str.ofString "wrong") w := by
  unfold wrongB at h
  split at h
  · rename_i x
    simp only [Bool.and_eq_true] at h
    exact ⟨x.cps.toList, by rw [← S_of], h.1, kindB_ok h.2, wrong_str⟩
  · cases h
end BV
set_option maxHeartbeats 4000000
/-! PL11: kinds of signs. -/
namespace BV
open PySem PySem.Spec PyProof.Rows L2 LamX

/-- a block of tests over a text's signs -/
theorem lc_signs {me : M Val} {p : Nat → Bool} {a : Option Val} (h : ∀ c, me [a, some (.all, .str (S [c]))] = .ok (.all, .bl (p c)) [a, some (.all, .str (S [c]))]) : ∀ (l : List Nat) (acc : List D) (x : Option Val), acc.length + l.length ≤ sizeLine →
    ∃ y, mLcGo 2 [1] (.nm 1) (M.pure true) me (l.map fun c => .str ⟨#[c]⟩) true acc [a, x] = some (true, acc ++ l.map (fun c => .bl (p c)), [a, y])
  | [], acc, x, _ => ⟨x, by simp [mLcGo]⟩
  | c :: l, acc, x, hl => by
    simp only [List.length_cons] at hl
    obtain ⟨y, e⟩ := lc_signs h l (acc ++ [.bl (p c)]) (some (.all, .str (S [c]))) (by simp; omega)
    refine ⟨y, ?_⟩
    have hl1 : acc.length < sizeLine := by omega
    have o : others 2 [1] = [0] := by decide
    have hc := h c
    have es : (S [c]) = ⟨#[c]⟩ := rfl
    rw [es] at hc e
    simp only [List.map_cons, mLcGo, o]
    simp [wipeE, mTg, nrm, hc, hl1, e]
theorem bools_map (p : Nat → Bool) : ∀ l : List Nat, bools (l.map fun c => .bl (p c)) = some (l.map p)
  | [] => rfl
  | c :: l => by simp [bools, bools_map p l]
def isWord (w : List Nat) : Bool := inV (.str (S w)) V_WORDS
def isSign (w : List Nat) : Bool := inV (.str (S w)) V_SIGNS
theorem inC_w (bs : List V) (w : List Nat) : gInC false bs (.str (S w)) = some (.bl (inV (.str (S w)) bs)) := rfl
def letC (c : Nat) : Bool := decide (c ∈ (Str.ofString "abcdefghijklmnopqrstuvwxyz").cps.toList)
def figC (c : Nat) : Bool := decide (c ∈ (Str.ofString "0123456789").cps.toList)
theorem gNotIn_c (c : Nat) (z : Str) : gNotIn (.str (S [c])) (.str z) = some (.bl (!decide (c ∈ z.cps.toList))) := by
  simp [gNotIn, gOr, gDNotIn, gInL, gInT, gInS, S_cps]
theorem name_lc (w : List Nat) (hl : w.length ≤ sizeLine) (a : Option Val) : ∃ y, mLcGo 2 [1] (.nm 1) (M.pure true) (mOr (mOp2 gIn (mVar 1) (mC (.str (Str.ofString "abcdefghijklmnopqrstuvwxyz")))) (mOp2 gIn (mVar 1) (mC (.str (Str.ofString "0123456789"))))) (w.map fun c => .str ⟨#[c]⟩) true [] [a, none] = some (true, w.map (fun c => .bl (plainC c)), [a, y]) := by
  have := lc_signs (p := plainC) (a := a) (me := mOr (mOp2 gIn (mVar 1) (mC (.str (Str.ofString "abcdefghijklmnopqrstuvwxyz")))) (mOp2 gIn (mVar 1) (mC (.str (Str.ofString "0123456789"))))) (fun c => by
    unfold plainC
    by_cases h : c ∈ (Str.ofString "abcdefghijklmnopqrstuvwxyz").cps.toList
    · simp [gIn_c, h, D.tru]
    · simp [gIn_c, h, D.tru]) w [] none (by simpa using hl)
  simpa using this
theorem fig_lc (w : List Nat) (hl : w.length ≤ sizeLine) (a : Option Val) : ∃ y, mLcGo 2 [1] (.nm 1) (M.pure true) (mOp2 gIn (mVar 1) (mC (.str (Str.ofString "0123456789")))) (w.map fun c => .str ⟨#[c]⟩) true [] [a, none] = some (true, w.map (fun c => .bl (figC c)), [a, y]) := by
  have := lc_signs (p := figC) (a := a) (me := mOp2 gIn (mVar 1) (mC (.str (Str.ofString "0123456789")))) (fun c => by
    unfold figC
    simp [gIn_c]) w [] none (by simpa using hl)
  simpa using this
theorem itemsOf_S (w : List Nat) : itemsOf (.str (S w)) = some (w.map fun c => .str ⟨#[c]⟩) := by simp [itemsOf, S_cps]
theorem name_ok {c : Nat} {w' : List Nat} (hl : (c :: w').length ≤ sizeLine) : g_is_name [(.all, .str (S (c :: w')))] = .ok (.all, .bl (decide ((c :: w').length ≤ 8) && (!isWord (c :: w') && (letC c && (c :: w').all plainC)))) [none] := by
  obtain ⟨y, e⟩ := name_lc (c :: w') hl (some (.all, .str (S (c :: w'))))
  have e0 : (S (c :: w')).cps.toList = c :: w' := S_cps _
  have h0 : (0 : Int) < (c :: w').length := by simp only [List.length_cons]; omega
  have h0n : 0 < (c :: w').length := by simp
  have hix : gIx (.all, .str (S (c :: w'))) (.int 0) = some (.all, .str (S [c])) := by
    have := gIx_str (m := .all) (t := c :: w') (n := 0) (c := c) hl rfl
    simpa using this
  have hall : ((c :: w').map fun c => plainC c).all id = (c :: w').all plainC := by simp [List.all_map]
  by_cases h1 : (c :: w').length ≤ 8
  · have h1' : (((c :: w').length : Nat) : Int) ≤ 8 := by omega
    by_cases h2 : isWord (c :: w') = true
    · have h2' : inV (.str (S (c :: w'))) V_WORDS = true := h2
      simp only [h1, h2]
      generalize c :: w' = w at *
      simp [g_is_name, callM, m_is_name, gType, D.tyN, gIs, gLen, hl, h0, h0n, h1', inC_w, h2', nrm, backOf]
    · have h2' : inV (.str (S (c :: w'))) V_WORDS = false := by simpa [isWord] using h2
      have h2'' : isWord (c :: w') = false := h2'
      by_cases h3 : c ∈ (Str.ofString "abcdefghijklmnopqrstuvwxyz").cps.toList
      · have h3' : letC c = true := by simp [letC, h3]
        simp only [h1, h2'', h3', ← hall]
        generalize c :: w' = w at *
        simp [g_is_name, callM, m_is_name, gType, D.tyN, gIs, gLen, hl, h0, h0n, h1', inC_w, h2', nrm, backOf, hix, gNotIn_c, h3, itemsOf_S, e, gAll, bools_map, newL]
      · have h3' : letC c = false := by simp [letC, h3]
        simp only [h1, h2'', h3']
        generalize c :: w' = w at *
        simp [g_is_name, callM, m_is_name, gType, D.tyN, gIs, gLen, hl, h0, h0n, h1', inC_w, h2', nrm, backOf, hix, gNotIn_c, h3]
  · have h1' : ¬ ((((c :: w').length : Nat) : Int) ≤ 8) := by omega
    simp only [h1]
    generalize c :: w' = w at *
    simp [g_is_name, callM, m_is_name, gType, D.tyN, gIs, gLen, hl, h0, h0n, h1', nrm, backOf]
end BV
set_option maxHeartbeats 4000000
/-! PL12: numerals; kinds. -/
namespace BV
open PySem PySem.Spec PyProof.Rows L2 LamX

theorem numeral_no {w : List Nat} (hl : w.length ≤ sizeLine) (h : 10 < w.length ∨ w.all figC = false) : g_is_numeral [(.all, .str (S w))] = .ok (.all, .bl false) [none] := by
  obtain ⟨y, e⟩ := fig_lc w hl (some (.all, .str (S w)))
  have hall : (w.map fun c => figC c).all id = w.all figC := by simp [List.all_map]
  by_cases h1 : 10 < w.length
  · have h1' : (10 : Int) < (w.length : Nat) := by omega
    simp [g_is_numeral, callM, m_is_numeral, gLen, hl, h1, h1', nrm, backOf]
  · have h2 : w.all figC = false := h.resolve_left h1
    have h1' : ¬ ((10 : Int) < (w.length : Nat)) := by omega
    have h3 : gAll [(.all, .lst (w.map fun c => .bl (figC c)))] = some (.all, .bl false) := by simp only [gAll, bools_map, Option.map_some, hall, h2]
    have hnl : newL true (w.map fun c => D.bl (figC c)) = (.all, .lst (w.map fun c => D.bl (figC c))) := rfl
    simp [g_is_numeral, callM, m_is_numeral, gLen, hl, h1, h1', nrm, backOf, itemsOf_S, e, hnl, h3, D.tru]
theorem zero_S : (Str.ofString "0") = S [48] := by decide +kernel
theorem numeral_yes {c : Nat} {w' : List Nat} {n : Int} (hl : (c :: w').length ≤ 10) (hf : (c :: w').all figC = true) (ho : okL (c :: w')) (h0 : w' = [] ∨ c ≠ 48) (hi : PySem.intText? (S (c :: w')) = some n) (hn : n ≤ 2147483647) : g_is_numeral [(.all, .str (S (c :: w')))] = .ok (.all, .bl true) [none] := by
  have hl2 : (c :: w').length ≤ sizeLine := by rw [sizeLine_eq]; omega
  have hl3 : (c :: w').length ≤ 640 := by omega
  obtain ⟨y, e⟩ := fig_lc (c :: w') hl2 (some (.all, .str (S (c :: w'))))
  have hall : ((c :: w').map fun c => figC c).all id = (c :: w').all figC := by simp [List.all_map]
  have h1 : ¬ (10 < (c :: w').length) := by omega
  have h1' : ¬ ((10 : Int) < ((c :: w').length : Nat)) := by omega
  have h3 : gAll [(.all, .lst ((c :: w').map fun c => .bl (figC c)))] = some (.all, .bl true) := by simp only [gAll, bools_map, Option.map_some, hall, hf]
  have hnl : newL true ((c :: w').map fun c => D.bl (figC c)) = (.all, .lst ((c :: w').map fun c => D.bl (figC c))) := rfl
  have hc : c < 0x110000 := ho c List.mem_cons_self
  have hz : okL [48] := by intro d hd; simp at hd; omega
  have e0 := gEq_str ho hz
  have e1 := gNe_c hc (show 48 < 0x110000 by decide)
  have hix : gIx (.all, .str (S (c :: w'))) (.int 0) = some (.all, .str (S [c])) := by
    have := gIx_str (m := .all) (t := c :: w') (n := 0) (c := c) hl2 rfl
    simpa using this
  by_cases hq : c :: w' = [48]
  · have e0' : gEq (.str (S (c :: w'))) (.str (S [48])) = some (.bl true) := by rw [e0]; simp [hq]
    clear hq
    generalize hw : c :: w' = w at *
    simp [g_is_numeral, callM, m_is_numeral, gLen, hl2, hl3, h1, h1', nrm, backOf, itemsOf_S, e, hnl, h3, D.tru, zero_S, e0', restE, wipeE, keepO, gInt, hi, hn]
  · have hc8 : c ≠ 48 := by
      rcases h0 with h0 | h0
      · subst h0
        intro z
        subst z
        exact hq rfl
      · exact h0
    generalize hw : c :: w' = w at *
    simp [g_is_numeral, callM, m_is_numeral, gLen, hl2, hl3, h1, h1', nrm, backOf, itemsOf_S, e, hnl, h3, D.tru, zero_S, e0, hq, restE, wipeE, keepO, gInt, hi, hn, hix, e1, hc8]
theorem kind_name {w : List Nat} (h1 : isWord w = false) (h2 : isSign w = false) (h3 : g_is_name [(.all, .str (S w))] = .ok (.all, .bl true) [none]) : g_kind_of [(.all, .str (S w))] = .ok (.all, .str (Str.ofString "name")) [none] := by
  have e1 : inV (.str (S w)) V_WORDS = false := h1
  have e2 : inV (.str (S w)) V_SIGNS = false := h2
  simp [g_kind_of, callM, m_kind_of, inC_w, e1, e2, mCallF, lentOf, argsOf, frzV, h3, putBack, D.tru, nrm, backOf]
theorem kind_number {w : List Nat} (h1 : isWord w = false) (h2 : isSign w = false) (h3 : g_is_name [(.all, .str (S w))] = .ok (.all, .bl false) [none]) (h4 : g_is_numeral [(.all, .str (S w))] = .ok (.all, .bl true) [none]) : g_kind_of [(.all, .str (S w))] = .ok (.all, .str (Str.ofString "number")) [none] := by
  have e1 : inV (.str (S w)) V_WORDS = false := h1
  have e2 : inV (.str (S w)) V_SIGNS = false := h2
  simp [g_kind_of, callM, m_kind_of, inC_w, e1, e2, mCallF, lentOf, argsOf, frzV, h3, h4, putBack, D.tru, nrm, backOf]
theorem kind_wrong {w : List Nat} (h1 : isWord w = false) (h2 : isSign w = false) (h3 : g_is_name [(.all, .str (S w))] = .ok (.all, .bl false) [none]) (h4 : g_is_numeral [(.all, .str (S w))] = .ok (.all, .bl false) [none]) : g_kind_of [(.all, .str (S w))] = .ok (.all, .str (Str.ofString "wrong")) [none] := by
  have e1 : inV (.str (S w)) V_WORDS = false := h1
  have e2 : inV (.str (S w)) V_SIGNS = false := h2
  simp [g_kind_of, callM, m_kind_of, inC_w, e1, e2, mCallF, lentOf, argsOf, frzV, h3, h4, putBack, D.tru, nrm, backOf]
end BV
set_option maxHeartbeats 4000000
/-! PL13: which marks are drawn. -/
namespace BV
open PySem PySem.Spec PyProof.Rows L2 LamX

def wordL : List (List Nat) := [(Str.ofString "word").cps.toList, (Str.ofString "thread").cps.toList, (Str.ofString "outer").cps.toList, (Str.ofString "left").cps.toList, (Str.ofString "right").cps.toList, (Str.ofString "points").cps.toList]
def signL : List (List Nat) := [(Str.ofString "<").cps.toList, (Str.ofString ">").cps.toList, (Str.ofString ",").cps.toList, (Str.ofString "-").cps.toList]
theorem vw : V_WORDS = wordL.map fun l => .str (S l) := by simp only [V_WORDS, wordL, List.map_cons, List.map_nil, ← S_of]
theorem vs : V_SIGNS = signL.map fun l => .str (S l) := by simp only [V_SIGNS, signL, List.map_cons, List.map_nil, ← S_of]
theorem inV_map {w : List Nat} : ∀ {l : List (List Nat)}, inV (.str (S w)) (l.map fun x => .str (S x)) = true → w ∈ l
  | [], h => by simp [inV] at h
  | x :: l, h => by
    simp only [inV, List.map_cons, List.any_cons, Bool.or_eq_true] at h
    rcases h with h | h
    · have : S x = S w := by simpa [eqV] using h
      rw [S_inj this]
      exact List.mem_cons_self
    · exact List.mem_cons_of_mem _ (inV_map (l := l) h)
theorem isWord_no (P : List Nat → Bool) (hP : wordL.all P = true) {w : List Nat} (hw : P w = false) : isWord w = false := by
  cases h : isWord w with
  | false => rfl
  | true =>
    unfold isWord at h
    rw [vw] at h
    have := List.all_eq_true.mp hP w (inV_map h)
    rw [hw] at this
    cases this
theorem isSign_no (P : List Nat → Bool) (hP : signL.all P = true) {w : List Nat} (hw : P w = false) : isSign w = false := by
  cases h : isSign w with
  | false => rfl
  | true =>
    unfold isSign at h
    rw [vs] at h
    have := List.all_eq_true.mp hP w (inV_map h)
    rw [hw] at this
    cases this
def headB (p : Nat → Bool) : List Nat → Bool
  | c :: _ => p c
  | [] => false
theorem words_head : wordL.all (headB letC) = true := by decide +kernel
theorem words_short : wordL.all (fun w => decide (w.length ≤ 6)) = true := by decide +kernel
theorem signs_head : signL.all (headB fun c => !plainC c) = true := by decide +kernel
theorem fig10 : ∀ i < 10, figC (48 + i) = true ∧ letC (48 + i) = false ∧ plainC (48 + i) = true := by decide +kernel
theorem fig_of {c : Nat} (h : 48 ≤ c ∧ c ≤ 57) : figC c = true ∧ letC c = false ∧ plainC c = true := by
  have := fig10 (c - 48) (by omega)
  have e : 48 + (c - 48) = c := by omega
  rwa [e] at this
theorem numL_head : ∀ n : Nat, 1 ≤ n → ∃ c r, TL.numL n = c :: r ∧ c ≠ 48 := by
  intro n
  induction n using Nat.strongRecOn with
  | _ n ih =>
    intro h1
    by_cases h : n < 10
    · exact ⟨48 + n, [], TL.numL_lt h, by omega⟩
    · obtain ⟨c, r, e, hc⟩ := ih (n / 10) (by omega) (by omega)
      exact ⟨c, r ++ [48 + n % 10], by rw [TL.numL_step (by omega), e]; rfl, hc⟩
theorem shape_of {c : Nat} {w' : List Nat} (h1 : plainC c = true) (h2 : w'.all plainC = true) (h3 : okL (c :: w')) (hl : (c :: w').length ≤ 5000) : shapeB (c :: w') = true := by
  have n1 : c ≠ 10 := fun z => by subst z; rw [plain_10] at h1; cases h1
  have n2 : c ≠ 32 := fun z => by subst z; revert h1; decide +kernel
  have n3 : c ≠ 35 := fun z => by subst z; revert h1; decide +kernel
  have n4 : c < 0x110000 := h3 c List.mem_cons_self
  have n5 : w'.all (fun d => decide (d < 0x110000)) = true := List.all_eq_true.mpr fun d hd => decide_eq_true (h3 d (List.mem_cons_of_mem _ hd))
  simp only [shapeB, Bool.and_eq_true, Bool.or_eq_true, bne_iff_ne, decide_eq_true_eq]
  exact ⟨⟨⟨⟨⟨⟨n1, n2⟩, n3⟩, n4⟩, n5⟩, .inl ⟨h1, h2⟩⟩, hl⟩
theorem num_ok {n : Int} (h0 : 0 ≤ n) (h1 : n ≤ 2147483647) : ∃ w, (Str.ofString (toString n)) = S w ∧ MkOk (Str.ofString "number") w := by
  obtain ⟨m, rfl⟩ := Int.eq_ofNat_of_zero_le h0
  have e : (Str.ofString (toString ((m : Nat) : Int))).cps.toList = TL.numL m := TL.tl_num m
  have es : Str.ofString (toString ((m : Nat) : Int)) = S (TL.numL m) := by rw [← e]; exact S_of _
  have hlen : (TL.numL m).length ≤ 10 := by
    have := PySem.W.KT.len_num (n := (m : Int)) (by omega) (by omega)
    rw [es] at this
    simpa using this
  have hd := TL.numL_digits m
  have hi := PySem.W.KIN.num_reads (n := (m : Int)) (by omega) (by omega)
  rw [es] at hi
  refine ⟨TL.numL m, es, ?_⟩
  have hz : ∃ c w', TL.numL m = c :: w' ∧ (w' = [] ∨ c ≠ 48) := by
    by_cases hm : m = 0
    · subst hm
      exact ⟨48, [], TL.numL_lt (by omega), .inl rfl⟩
    · obtain ⟨c, r, e1, e2⟩ := numL_head m (by omega)
      exact ⟨c, r, e1, .inr e2⟩
  obtain ⟨c, w', ew, hz⟩ := hz
  rw [ew] at hlen hd hi ⊢
  have hc := fig_of (hd c List.mem_cons_self)
  have hall : (c :: w').all figC = true := List.all_eq_true.mpr fun d hd' => (fig_of (hd d hd')).1
  have hpl : w'.all plainC = true := List.all_eq_true.mpr fun d hd' => (fig_of (hd d (List.mem_cons_of_mem _ hd'))).2.2
  have ho : okL (c :: w') := fun d hd' => by have := hd d hd'; omega
  have hsl : (c :: w').length ≤ sizeLine := by rw [sizeLine_eq]; omega
  refine ⟨shape_of hc.2.2 hpl ho (by omega), kind_number (isWord_no _ words_head (by simp [headB, hc.2.1])) (isSign_no _ signs_head (by simp [headB, hc.2.2])) ?_ (numeral_yes hlen hall ho hz hi (by omega)), number_str⟩
  rw [name_ok hsl, hc.2.1]
  simp
end BV
set_option maxHeartbeats 4000000
/-! PL14: drawn words. -/
namespace BV
open PySem PySem.Spec PyProof.Rows L2 LamX

def letL : List Nat := (Str.ofString "abzqz019inou").cps.toList
theorem let_plain : letL.all plainC = true := by decide +kernel
theorem let_okL : letL.all (fun c => decide (c < 0x110000)) = true := by decide +kernel
theorem txts_c : ∀ cs : List Nat, txts (cs.map fun c => .str ⟨#[c]⟩) = some (cs.map fun c => ⟨#[c]⟩)
  | [] => rfl
  | c :: cs => by simp [txts, txts_c cs]
theorem fold_c : ∀ (cs : List Nat) (A : Array Nat), (cs.map fun c => (⟨#[c]⟩ : Str)).foldl (fun acc p => acc ++ (S []).cps ++ p.cps) A = A ++ cs.toArray
  | [], A => by simp
  | c :: cs, A => by
    rw [List.map_cons, List.foldl_cons, fold_c cs]
    simp [S]
theorem join_c (cs : List Nat) : Txt.join (S []) (cs.map fun c => ⟨#[c]⟩) = S cs := by
  show (⟨((cs.map fun c => (⟨#[c]⟩ : Str)).drop 1).foldl (fun acc p => acc ++ (S []).cps ++ p.cps) ((cs.map fun c => (⟨#[c]⟩ : Str)).headD Str.empty).cps⟩ : Str) = _
  cases cs with
  | nil => rfl
  | cons c cs =>
    rw [List.map_cons, List.drop_one, List.tail_cons, fold_c]
    simp [S]
def pickE (j : Nat) : M Val := mCall [0] 2 (g__law_pick) (mAMut 0 (mACons (mVar j) mANil))
theorem others_107 : others 10 [7] = [0, 1, 2, 3, 4, 5, 6, 8, 9] := by decide
theorem lc_pick {a1 a2 a3 a4 a6 a8 a9 : Option Val} {k : Nat} : ∀ (ds : List D) (acc : List D) (v : Val) (x : Option Val), Stm (k + ds.length) v → acc.length + ds.length ≤ sizeLine →
    ∃ (v' : Val) (cs : List Nat) (y : Option Val), mLcGo 10 [7] (.nm 7) (M.pure true) (pickE 5) ds true acc [some v, a1, a2, a3, a4, some (.shr, .lst (letL.map fun c => .str ⟨#[c]⟩)), a6, x, a8, a9] = some (true, acc ++ cs.map (fun c => .str ⟨#[c]⟩), [some v', a1, a2, a3, a4, some (.shr, .lst (letL.map fun c => .str ⟨#[c]⟩)), a6, y, a8, a9]) ∧ Stm k v' ∧ cs.length = ds.length ∧ ∀ c ∈ cs, c ∈ letL
  | [], acc, v, x, hs, _ => ⟨v, [], x, by simp [mLcGo], hs, rfl, fun _ h => by cases h⟩
  | d :: ds, acc, v, x, hs, hl => by
    simp only [List.length_cons] at hl hs
    obtain ⟨p, v1, hp, e, hs1⟩ := pick_ok (k := k + ds.length) (v := v) (ds := letL.map fun c => .str ⟨#[c]⟩) hs (by decide +kernel) (by decide +kernel) (by decide +kernel)
    obtain ⟨c, hc, rfl⟩ := List.mem_map.mp hp
    obtain ⟨v', cs, y, e2, hs2, hl2, hm⟩ := lc_pick (a1 := a1) (a2 := a2) (a3 := a3) (a4 := a4) (a6 := a6) (a8 := a8) (a9 := a9) ds (acc ++ [.str ⟨#[c]⟩]) v1 (some (nrm (.shr, d))) hs1 (by simp; omega)
    refine ⟨v', c :: cs, y, ?_, hs2, by simp [hl2], fun z hz => ?_⟩
    · have hl1 : acc.length < sizeLine := by omega
      have h1 : pickE 5 [some v, a1, a2, a3, a4, some (.shr, .lst (letL.map fun c => .str ⟨#[c]⟩)), a6, some (nrm (.shr, d)), a8, a9] = .ok (.all, .str ⟨#[c]⟩) [some v1, a1, a2, a3, a4, some (.shr, .lst (letL.map fun c => .str ⟨#[c]⟩)), a6, some (nrm (.shr, d)), a8, a9] := by
        simp [pickE, mCallF, lentOf, argsOf, frzV, e, putBack]
      simp only [mLcGo, others_107]
      simp [wipeE, mTg, h1, hl1, e2]
    · rcases List.mem_cons.mp hz with rfl | hz
      · exact hc
      · exact hm z hz
/-- a text of a letter and some signs -/
theorem long_ok {c : Nat} {cs : List Nat} (hc : letC c = true) (hp : plainC c = true) (hm : ∀ d ∈ cs, d ∈ letL) (h8 : 8 ≤ cs.length) (h14 : cs.length ≤ 14) (hcc : c < 0x110000) : MkOk (Str.ofString "wrong") (c :: cs) := by
  have hpl : cs.all plainC = true := List.all_eq_true.mpr fun d hd => List.all_eq_true.mp let_plain d (hm d hd)
  have ho : okL (c :: cs) := fun d hd => by
    rcases List.mem_cons.mp hd with rfl | hd
    · exact hcc
    · have := List.all_eq_true.mp let_okL d (hm d hd)
      simpa using this
  have hlen : (c :: cs).length ≤ 15 := by simp; omega
  have hsl : (c :: cs).length ≤ sizeLine := by rw [sizeLine_eq]; omega
  refine ⟨shape_of hp hpl ho (by omega), kind_wrong (isWord_no _ words_short (by simp; omega)) (isSign_no _ signs_head (by simp [headB, hp])) ?_ (numeral_no hsl ?_), wrong_str⟩
  · rw [name_ok hsl]
    have : decide ((c :: cs).length ≤ 8) = false := by simp; omega
    rw [this]
    rfl
  · refine .inr ?_
    have : figC c = false := by
      cases h : figC c with
      | false => rfl
      | true =>
        exfalso
        have h1 : ∀ x ∈ (Str.ofString "0123456789").cps.toList, letC x = false := by decide +kernel
        have := h1 c (by simpa [figC] using h)
        rw [hc] at this
        cases this
    simp [this]
theorem name_mk {c : Nat} {cs : List Nat} (hc : letC c = true) (hp : plainC c = true) (hm : ∀ d ∈ cs, d ∈ letL) (h7 : cs.length ≤ 7) (hcc : c < 0x110000) (hw : isWord (c :: cs) = false) : MkOk (Str.ofString "name") (c :: cs) := by
  have hpl : cs.all plainC = true := List.all_eq_true.mpr fun d hd => List.all_eq_true.mp let_plain d (hm d hd)
  have ho : okL (c :: cs) := fun d hd => by
    rcases List.mem_cons.mp hd with rfl | hd
    · exact hcc
    · have := List.all_eq_true.mp let_okL d (hm d hd)
      simpa using this
  have hlen : (c :: cs).length ≤ 8 := by simp; omega
  have hsl : (c :: cs).length ≤ sizeLine := by rw [sizeLine_eq]; omega
  refine ⟨shape_of hp hpl ho (by omega), kind_name hw (isSign_no _ signs_head (by simp [headB, hp])) ?_, name_str⟩
  rw [name_ok hsl, hw, hc]
  have : decide ((c :: cs).length ≤ 8) = true := decide_eq_true hlen
  rw [this]
  simp [hp, hpl]
end BV
set_option maxHeartbeats 8000000
/-! PL15: a mark is drawn. -/
namespace BV
open PySem PySem.Spec PyProof.Rows L2 LamX

theorem a_word {k : Nat} {v v1 : Val} {r : Int} (hd : g__law_draw [v, (.all, .int 8)] = .ok (.all, .int r) [some v1, none]) (h1 : Stm (k + 1) v1) (hr : r < 2) : ∃ kd w v', g__law_a_mark [v] = .ok (.all, .tup [.str kd, .str (S w)]) [some v'] ∧ Stm k v' ∧ MkOk kd w := by
  obtain ⟨d, v2, hm, e, h2⟩ := pick_ok h1 (ds := words) (by decide +kernel) (by decide +kernel) (by decide +kernel)
  obtain ⟨w, rfl, hw⟩ := selfB_ok (List.all_eq_true.mp words_ok d hm)
  refine ⟨S w, w, v2, ?_, h2, hw⟩
  unfold words at e
  simp [g__law_a_mark, callM, m__law_a_mark, mkLst, putAll, nrm, mCallF, lentOf, argsOf, frzV, putBack, hd, hr, e, mkTup, backOf]
theorem a_sign {k : Nat} {v v1 : Val} {r : Int} (hd : g__law_draw [v, (.all, .int 8)] = .ok (.all, .int r) [some v1, none]) (h1 : Stm (k + 1) v1) (hr : ¬ r < 2) (hr4 : r < 4) : ∃ kd w v', g__law_a_mark [v] = .ok (.all, .tup [.str kd, .str (S w)]) [some v'] ∧ Stm k v' ∧ MkOk kd w := by
  obtain ⟨d, v2, hm, e, h2⟩ := pick_ok h1 (ds := (Str.ofString "<>,-").cps.toList.map fun c => D.str ⟨#[c]⟩) (by decide +kernel) (by decide +kernel) (by decide +kernel)
  obtain ⟨w, rfl, hw⟩ := selfB_ok (List.all_eq_true.mp signs_ok d hm)
  refine ⟨S w, w, v2, ?_, h2, hw⟩
  have hl : (Str.ofString "<>,-").length ≤ sizeLine := by decide +kernel
  simp [g__law_a_mark, callM, m__law_a_mark, mkLst, putAll, nrm, mCallF, lentOf, argsOf, frzV, putBack, hd, hr, hr4, mkTup, backOf, gOrL, gList, gListTxt, hl, e]
theorem a_number {k : Nat} {v v1 : Val} (hd : g__law_draw [v, (.all, .int 8)] = .ok (.all, .int 4) [some v1, none]) (h1 : Stm (k + 3) v1) : ∃ kd w v', g__law_a_mark [v] = .ok (.all, .tup [.str kd, .str (S w)]) [some v'] ∧ Stm k v' ∧ MkOk kd w := by
  obtain ⟨r1, v2, e1, h2, p1, p2⟩ := draw_ok (k := k + 2) h1 (many := 1000000000) (by omega) (by omega)
  obtain ⟨r2, v3, e2, h3, p3, p4⟩ := draw_ok (k := k + 1) h2 (many := 1000000000) (by omega) (by omega)
  obtain ⟨d, v4, hm, e, h4⟩ := pick_ok h3 (ds := [.int 0, .int 7, .int 10, .int 2147483647, .int r1, .int (2147483647 - r2)]) (by simp) (by simp) (by simp)
  obtain ⟨n, rfl, n0, n1⟩ : ∃ n : Int, d = .int n ∧ 0 ≤ n ∧ n ≤ 2147483647 := by
    simp only [List.mem_cons, List.not_mem_nil, or_false] at hm
    rcases hm with rfl | rfl | rfl | rfl | rfl | rfl
    · exact ⟨_, rfl, by omega, by omega⟩
    · exact ⟨_, rfl, by omega, by omega⟩
    · exact ⟨_, rfl, by omega, by omega⟩
    · exact ⟨_, rfl, by omega, by omega⟩
    · exact ⟨_, rfl, by omega, by omega⟩
    · exact ⟨_, rfl, by omega, by omega⟩
  obtain ⟨w, ew, hw⟩ := num_ok n0 n1
  refine ⟨Str.ofString "number", w, v4, ?_, h4, hw⟩
  have hp : CPow 10 9 := ⟨by omega, by omega, by decide⟩
  have hlog : n.natAbs.log2 < 1920 := by
    have : n.natAbs < 2 ^ 1920 := Nat.lt_of_lt_of_le (show n.natAbs < 2 ^ 32 by omega) (Nat.pow_le_pow_right (by decide) (by decide))
    by_cases hz : n.natAbs = 0
    · rw [hz]; decide
    · exact (Nat.log2_lt hz).mpr this
  have ht : gStr [(.all, .int n)] = some (.all, .str (S w)) := by
    simp only [gStr, hlog, if_true]
    rw [← ew]
  simp [g__law_a_mark, callM, m__law_a_mark, mkLst, putAll, nrm, mCallF, lentOf, argsOf, frzV, putBack, hd, mkTup, backOf, gPow, hp, e1, e2, gSub, e, ht]
theorem gJoin_c {cs : List Nat} (h : cs.length ≤ 1000000) : gJoin (.str (Str.ofString "")) (.lst (cs.map fun c => .str ⟨#[c]⟩)) = some (.str (S cs)) := by
  have e : ∀ cs : List Nat, ((cs.map fun c => (⟨#[c]⟩ : Str)).map (·.length)).sum = cs.length := fun cs => by
    induction cs with
    | nil => rfl
    | cons c cs ih => simp only [List.map_cons, List.sum_cons, ih]; simp [Str.length]; omega
  rw [empty_S]
  simp only [gJoin, txts_c, Option.bind_some, e, join_c, List.length_map]
  rw [if_pos (by simp; omega)]
theorem gIn_words {w : List Nat} (ho : okL w) : gIn (.str (S w)) (.lst words) = some (.bl (isWord w)) := by
  have e : pyS (.lst words) = some (.list (wordL.map fun l => .str (S l))) := by
    have : pyS (.lst words) = some (.list [.str (Str.ofString "word"), .str (Str.ofString "thread"), .str (Str.ofString "outer"), .str (Str.ofString "left"), .str (Str.ofString "right"), .str (Str.ofString "points")]) := by
      have k : ∀ x ∈ [Str.ofString "word", Str.ofString "thread", Str.ofString "outer", Str.ofString "left", Str.ofString "right", Str.ofString "points"], PyData.strOk x = true := by decide +kernel
      simp only [List.mem_cons, List.not_mem_nil, or_false, forall_eq_or_imp, forall_eq] at k
      obtain ⟨k1, k2, k3, k4, k5, k6⟩ := k
      simp [pyS, words, D.py, pyAll, SeqAt.shaped, PyData.canLay0, PyData.canLayAll0, PyData.depth, PyData.depthAll, k1, k2, k3, k4, k5, k6]
    rw [this]
    simp only [wordL, List.map_cons, List.map_nil, ← S_of]
  have e2 : isWord w = (wordL.map fun l => PyData.str (S l)).any fun z => PyData.eqv z (.str (S w)) := by
    unfold isWord
    rw [vw]
    simp [inV, List.any_map, Function.comp_def, eqV, PyData.eqv]
  simp only [gIn, gOr, gDIn, gInL, pyS_str (okS ho), e]
  rw [e2]
  rfl
end BV
set_option maxHeartbeats 8000000
/-! PL16: longer words are drawn. -/
namespace BV
open PySem PySem.Spec PyProof.Rows L2 LamX

theorem rep_57 : ∀ (n : Nat) (A : Array Nat), (List.replicate n #[57]).foldl (· ++ ·) A = A ++ (List.replicate n 57).toArray
  | 0, A => by simp
  | n + 1, A => by
    rw [List.replicate_succ, List.foldl_cons, rep_57 n, ← Array.toList_inj]
    simp [List.replicate_succ]
theorem nine_S : (Str.ofString "9") = S [57] := by decide +kernel
theorem nines {n : Nat} (hn : n ≤ 1000000) : gTimes (.all, .str (Str.ofString "9")) (.all, .int (n : Nat)) = some (.all, .str (S (List.replicate n 57))) := by
  have h1 : -(2 ^ 63) ≤ (n : Int) := by omega
  have h2 : (n : Int) < 2 ^ 63 := by omega
  have h3 : n ≤ sizeLine := by rw [sizeLine_eq]; omega
  have e : (⟨(List.replicate n #[57]).foldl (· ++ ·) #[]⟩ : Str) = S (List.replicate n 57) := by
    rw [rep_57]
    simp [S]
  have e2 : (S [57]).cps = #[57] := rfl
  rw [nine_S]
  simp only [gTimes, gRep, gMul, gRepS, Option.map_none, S_len, List.length_cons, List.length_nil, Int.toNat_natCast, e2, e]
  rw [if_pos ⟨h1, h2, by omega, by omega⟩]
  rfl
theorem nines_ok : ([10, 11, 40, 5000] : List Nat).all (fun n => wrongB (.str (S (List.replicate n 57)))) = true := by decide +kernel
theorem odds_ok : ([.str (Str.ofString "2147483648"), .str (Str.ofString "007"), .str (Str.ofString "1a"), .str (Str.ofString "0x")] : List D).all wrongB = true := by decide +kernel
@[simp] theorem solidV_str (m : Mode) (x : Str) : solidV (m, .str x) := .inr (by simp)
theorem letters_S : gListTxt [(.all, .str (Str.ofString "abzqz019inou"))] = some (.all, .lst (letL.map fun c => .str ⟨#[c]⟩)) := by
  have : (Str.ofString "abzqz019inou").length ≤ sizeLine := by decide +kernel
  simp [gListTxt, this, letL]
theorem a_S : (Str.ofString "a") = S [97] := by decide +kernel
theorem m_S : (Str.ofString "m") = S [109] := by decide +kernel
theorem z_S : (Str.ofString "z") = S [122] := by decide +kernel
theorem heads : ([97, 109, 122] : List Nat).all (fun c => letC c && plainC c && decide (c < 0x110000)) = true := by decide +kernel
/-- the value of ''.join of drawn letters, glued behind a letter -/
theorem cat_S {c : Nat} {cs : List Nat} (h : cs.length ≤ 1000000) : gCat (.all, .str (S [c])) (.all, .str (S cs)) = some (.all, .str (S (c :: cs))) := by
  have : 1 + cs.length ≤ sizeLine := by rw [sizeLine_eq]; omega
  simp [gCat, gAdd, this, S_app]
theorem rangeD_len (n : Int) : (rangeD 0 n).length = n.toNat := by simp [rangeD]
theorem range1_ok {n : Int} (h0 : 0 ≤ n) (h1 : n < 1000000) : gRange1 [(.all, .int n)] = some (rangeD 0 n) := by
  simp only [gRange1]
  rw [if_pos ⟨by omega, by omega⟩]
theorem a_name {k : Nat} {v v1 : Val} {r : Int} (hd : g__law_draw [v, (.all, .int 8)] = .ok (.all, .int r) [some v1, none]) (h1 : Stm (k + 9) v1) (hr : 5 < r) (hr8 : r < 8) : ∃ kd w v', g__law_a_mark [v] = .ok (.all, .tup [.str kd, .str (S w)]) [some v'] ∧ Stm k v' ∧ MkOk kd w := by
  obtain ⟨d, v2, hm, e1, h2⟩ := pick_ok (k := k + 8) h1 (ds := [.str (Str.ofString "a"), .str (Str.ofString "m"), .str (Str.ofString "z")]) (by simp) (by simp) (by simp)
  obtain ⟨c, hc, rfl⟩ : ∃ c ∈ ([97, 109, 122] : List Nat), d = .str (S [c]) := by
    simp only [List.mem_cons, List.not_mem_nil, or_false] at hm
    rcases hm with rfl | rfl | rfl
    · exact ⟨97, by simp, by rw [a_S]⟩
    · exact ⟨109, by simp, by rw [m_S]⟩
    · exact ⟨122, by simp, by rw [z_S]⟩
  have hh := List.all_eq_true.mp heads c hc
  simp only [Bool.and_eq_true, decide_eq_true_eq] at hh
  obtain ⟨n, v3, e2, h3, n0, n8⟩ := draw_ok (k := k + 7) h2 (many := 8) (by omega) (by omega)
  obtain ⟨v4, cs, y, e3, h4, hl, hmem⟩ := lc_pick (a1 := some (.shr, .lst words)) (a2 := some (.all, .int r)) (a3 := none) (a4 := none) (a6 := none) (a8 := none) (a9 := none) (k := k) (rangeD 0 n) [] v3 none (h3.less (by rw [rangeD_len]; omega)) (by rw [rangeD_len, sizeLine_eq]; simp; omega)
  rw [rangeD_len] at hl
  have hr1 : ¬ r < 2 := by omega
  have hr2 : ¬ r < 4 := by omega
  have hr3 : ¬ r = 4 := by omega
  have hr5 : ¬ r = 5 := by omega
  have hrg := range1_ok n0 (by omega)
  have hj := gJoin_c (cs := cs) (by omega)
  have hcat := cat_S (c := c) (cs := cs) (by omega)
  have ho : okL (c :: cs) := fun x hx => by
    rcases List.mem_cons.mp hx with rfl | hx
    · exact hh.2
    · have := List.all_eq_true.mp let_okL x (hmem x hx)
      simpa using this
  have hin := gIn_words ho
  have hs4 := h4.solid
  unfold pickE at e3
  unfold words at e3 hin
  cases hw : isWord (c :: cs) with
  | true =>
    have hwm : c :: cs ∈ wordL := by
      unfold isWord at hw
      rw [vw] at hw
      exact inV_map hw
    have hself := List.all_eq_true.mp words_ok (.str (S (c :: cs))) (by
      have : words = wordL.map fun l => .str (S l) := by simp only [words, wordL, List.map_cons, List.map_nil, ← S_of]
      rw [this]
      exact List.mem_map.mpr ⟨_, hwm, rfl⟩)
    obtain ⟨w, ew, hok⟩ := selfB_ok hself
    have : c :: cs = w := S_inj (by simpa using ew)
    subst this
    refine ⟨S (c :: cs), c :: cs, v4, ?_, h4, hok⟩
    simp [g__law_a_mark, callM, m__law_a_mark, mkLst, putAll, nrm, mCallF, lentOf, argsOf, frzV, putBack, hd, hr1, hr2, hr3, hr5, gOrL, gList, letters_S, mPeekX, frzX, thawX, e1, e2, hrg, e3, newL, restE, wipeE, keepO, hj, hcat, solidAt, hs4, hin, hw, mkTup, backOf]
  | false =>
    refine ⟨Str.ofString "name", c :: cs, v4, ?_, h4, name_mk hh.1.1 hh.1.2 hmem (by omega) hh.2 hw⟩
    simp [g__law_a_mark, callM, m__law_a_mark, mkLst, putAll, nrm, mCallF, lentOf, argsOf, frzV, putBack, hd, hr1, hr2, hr3, hr5, gOrL, gList, letters_S, mPeekX, frzX, thawX, e1, e2, hrg, e3, newL, restE, wipeE, keepO, hj, hcat, solidAt, hs4, hin, hw, mkTup, backOf]
end BV
set_option maxHeartbeats 8000000
/-! PL17: wrong marks are drawn; any mark. -/
namespace BV
open PySem PySem.Spec PyProof.Rows L2 LamX

def w6 : M Fl := (mSet [0] 6 (mPeekX [0] (mOpVV gCat (mCall [0] 2 (g__law_pick) (mAMut 0 (mACons (mLst (mCons (mC (.str (Str.ofString "a"))) (mCons (mC (.str (Str.ofString "z"))) mNil))) mANil))) (mM1 gJoin (mC (.str (Str.ofString ""))) (mLc 10 [7] (mWalk gRange1 (mCons (mOpVV gCat (mC (.int 8)) (mCall [0] 2 (g__law_draw) (mAMut 0 (mACons (mC (.int 6)) mANil)))) mNil)) (.nm 7) (M.pure true) (mCall [0] 2 (g__law_pick) (mAMut 0 (mACons (mVar 5) mANil))))))))
def w8 : M Fl := (mSet [0] 8 (mLst (mCons (mVar 6) (mCons (mC (.str (Str.ofString "2147483648"))) (mCons (mOpVV gTimes (mC (.str (Str.ofString "9"))) (mCall [0] 2 (g__law_pick) (mAMut 0 (mACons (mLst (mCons (mC (.int 10)) (mCons (mC (.int 11)) (mCons (mC (.int 40)) (mCons (mC (.int 5000)) mNil))))) mANil)))) (mCons (mC (.str (Str.ofString "007"))) (mCons (mC (.str (Str.ofString "1a"))) (mCons (mC (.str (Str.ofString "0x"))) (mCons (mCall [0] 2 (g__law_pick) (mAMut 0 (mACons (mFn (gOrL gList gListTxt) (mCons (mC (.str (Str.ofString "[]@!&?/|^~_$'AZ+=;:.()"))) mNil)) mANil))) mNil)))))))))
def w9 : M Fl := (mRet (mTup (mCons (mC (.str (Str.ofString "wrong"))) (mCons (mCall [0] 2 (g__law_pick) (mAMut 0 (mACons (mVar 8) mANil))) mNil))))
theorem w6_ok {v1 v2 v3 v4 : Val} {n : Int} {c : Nat} {cs : List Nat} {y : Option Val} {wl : List D} (e1 : g__law_pick [v1, (.shr, .lst [.str (Str.ofString "a"), .str (Str.ofString "z")])] = .ok (.all, .str (S [c])) [some v2, none]) (e2 : g__law_draw [v2, (.all, .int 6)] = .ok (.all, .int n) [some v3, none]) (hrg : gRange1 [(.all, .int (8 + n))] = some (rangeD 0 (8 + n)))
    (e3 : mLcGo 10 [7] (.nm 7) (M.pure true) (mCall [0] 2 (g__law_pick) (mAMut 0 (mACons (mVar 5) mANil))) (rangeD 0 (8 + n)) true [] [some v3, some (.shr, .lst wl), some (.all, .int 5), none, none, some (.shr, .lst (letL.map fun c => .str ⟨#[c]⟩)), none, none, none, none] = some (true, [] ++ cs.map (fun c => .str ⟨#[c]⟩), [some v4, some (.shr, .lst wl), some (.all, .int 5), none, none, some (.shr, .lst (letL.map fun c => .str ⟨#[c]⟩)), none, y, none, none]))
    (hj : gJoin (.str (Str.ofString "")) (.lst (cs.map fun c => .str ⟨#[c]⟩)) = some (.str (S cs))) (hcat : gCat (.all, .str (S [c])) (.all, .str (S cs)) = some (.all, .str (S (c :: cs)))) (hcat8 : gCat (.all, .int 8) (.all, .int n) = some (.all, .int (8 + n))) (hs4 : solidV v4) :
    w6 [some v1, some (.all, .lst wl), some (.all, .int 5), none, none, some (.all, .lst (letL.map fun c => .str ⟨#[c]⟩)), none, none, none, none] = .ok .nx [some v4, some (.all, .lst wl), some (.all, .int 5), none, none, some (.all, .lst (letL.map fun c => .str ⟨#[c]⟩)), some (.all, .str (S (c :: cs))), none, none, none] := by
  unfold w6
  simp [mkLst, nrm, mCallF, lentOf, argsOf, frzV, putBack, mPeekX, frzX, thawX, e1, e2, hcat8, hrg, e3, newL, restE, wipeE, keepO, hj, hcat, solidAt, hs4]
theorem w8_ok {v4 v5 v6 : Val} {qi : Int} {w0 w6 ns : Str} {a1 a2 a5 : Option Val} (e5 : g__law_pick [v4, (.shr, .lst [.int 10, .int 11, .int 40, .int 5000])] = .ok (.all, .int qi) [some v5, none]) (hni : gTimes (.all, .str (Str.ofString "9")) (.all, .int qi) = some (.all, .str ns)) {od : List D} (ht : gListTxt [(.all, .str (Str.ofString "[]@!&?/|^~_$'AZ+=;:.()"))] = some (.all, .lst od))
    (e6 : g__law_pick [v5, (.shr, .lst od)] = .ok (.all, .str w6) [some v6, none]) :
    w8 [some v4, a1, a2, none, none, a5, some (.all, .str w0), none, none, none] = .ok .nx [some v6, a1, a2, none, none, a5, some (.all, .str w0), none, some (.all, .lst [.str w0, .str (Str.ofString "2147483648"), .str ns, .str (Str.ofString "007"), .str (Str.ofString "1a"), .str (Str.ofString "0x"), .str w6]), none] := by
  unfold w8
  simp [mkLst, nrm, mCallF, lentOf, argsOf, frzV, putBack, gOrL, gList, e5, hni, ht, e6]
theorem a_wrong {k : Nat} {v v1 : Val} (hd : g__law_draw [v, (.all, .int 8)] = .ok (.all, .int 5) [some v1, none]) (h1 : Stm (k + 18) v1) : ∃ kd w v', g__law_a_mark [v] = .ok (.all, .tup [.str kd, .str (S w)]) [some v'] ∧ Stm k v' ∧ MkOk kd w := by
  obtain ⟨d, v2, hm, e1, h2⟩ := pick_ok (k := k + 17) h1 (ds := [.str (Str.ofString "a"), .str (Str.ofString "z")]) (by simp) (by simp) (by simp)
  obtain ⟨c, hc, rfl⟩ : ∃ c ∈ ([97, 109, 122] : List Nat), d = .str (S [c]) := by
    simp only [List.mem_cons, List.not_mem_nil, or_false] at hm
    rcases hm with rfl | rfl
    · exact ⟨97, by simp, by rw [a_S]⟩
    · exact ⟨122, by simp, by rw [z_S]⟩
  have hh := List.all_eq_true.mp heads c hc
  simp only [Bool.and_eq_true, decide_eq_true_eq] at hh
  obtain ⟨n, v3, e2, h3, n0, n8⟩ := draw_ok (k := k + 16) h2 (many := 6) (by omega) (by omega)
  obtain ⟨v4, cs, y, e3, h4, hl, hmem⟩ := lc_pick (a1 := some (.shr, .lst words)) (a2 := some (.all, .int 5)) (a3 := none) (a4 := none) (a6 := none) (a8 := none) (a9 := none) (k := k + 3) (rangeD 0 (8 + n)) [] v3 none (h3.less (by rw [rangeD_len]; omega)) (by rw [rangeD_len, sizeLine_eq]; simp; omega)
  rw [rangeD_len] at hl
  obtain ⟨d5, v5, hm5, e5, h5⟩ := pick_ok (k := k + 2) h4 (ds := [.int 10, .int 11, .int 40, .int 5000]) (by simp) (by simp) (by simp)
  obtain ⟨q, hq, rfl⟩ : ∃ q ∈ ([10, 11, 40, 5000] : List Nat), d5 = .int (q : Nat) := by
    simp only [List.mem_cons, List.not_mem_nil, or_false] at hm5
    rcases hm5 with rfl | rfl | rfl | rfl
    · exact ⟨10, by simp, rfl⟩
    · exact ⟨11, by simp, rfl⟩
    · exact ⟨40, by simp, rfl⟩
    · exact ⟨5000, by simp, rfl⟩
  have hq2 : q ≤ 1000000 := by
    simp only [List.mem_cons, List.not_mem_nil, or_false] at hq
    omega
  obtain ⟨d6, v6, hm6, e6, h6⟩ := pick_ok (k := k + 1) h5 (ds := (Str.ofString "[]@!&?/|^~_$'AZ+=;:.()").cps.toList.map fun c => D.str ⟨#[c]⟩) (by decide +kernel) (by decide +kernel) (by decide +kernel)
  obtain ⟨w6, rfl, hw6⟩ := wrongB_ok (List.all_eq_true.mp odd_ok d6 hm6)
  obtain ⟨d7, v7, hm7, e7, h7⟩ := pick_ok (k := k) h6 (ds := [.str (S (c :: cs)), .str (Str.ofString "2147483648"), .str (S (List.replicate q 57)), .str (Str.ofString "007"), .str (Str.ofString "1a"), .str (Str.ofString "0x"), .str (S w6)]) (by simp) (by simp) (by simp)
  obtain ⟨w, rfl, hok⟩ : ∃ w, d7 = .str (S w) ∧ MkOk (Str.ofString "wrong") w := by
    simp only [List.mem_cons, List.not_mem_nil, or_false] at hm7
    rcases hm7 with rfl | rfl | rfl | rfl | rfl | rfl | rfl
    · exact ⟨_, rfl, long_ok hh.1.1 hh.1.2 hmem (by omega) (by omega) hh.2⟩
    · exact wrongB_ok (List.all_eq_true.mp odds_ok _ (by simp))
    · exact wrongB_ok (List.all_eq_true.mp nines_ok q hq)
    · exact wrongB_ok (List.all_eq_true.mp odds_ok _ (by simp))
    · exact wrongB_ok (List.all_eq_true.mp odds_ok _ (by simp))
    · exact wrongB_ok (List.all_eq_true.mp odds_ok _ (by simp))
    · exact ⟨w6, rfl, hw6⟩
  refine ⟨Str.ofString "wrong", w, v7, ?_, h7, hok⟩
  have hrg := range1_ok (n := 8 + n) (by omega) (by omega)
  have hj := gJoin_c (cs := cs) (by omega)
  have hcat := cat_S (c := c) (cs := cs) (by omega)
  have hcat8 : gCat (.all, .int 8) (.all, .int n) = some (.all, .int (8 + n)) := rfl
  have hs4 := h4.solid
  have hl2 : (Str.ofString "[]@!&?/|^~_$'AZ+=;:.()").length ≤ sizeLine := by decide +kernel
  have ht : gListTxt [(.all, .str (Str.ofString "[]@!&?/|^~_$'AZ+=;:.()"))] = some (.all, .lst ((Str.ofString "[]@!&?/|^~_$'AZ+=;:.()").cps.toList.map fun c => D.str ⟨#[c]⟩)) := by simp only [gListTxt, hl2, if_true]
  have hni := nines hq2
  unfold pickE at e3
  have h5 : mSet [0] 5 (mFn (gOrL gList gListTxt) (mCons (mC (.str (Str.ofString "abzqz019inou"))) mNil)) [some v1, some (.all, .lst words), some (.all, .int 5), none, none, none, none, none, none, none] = .ok .nx [some v1, some (.all, .lst words), some (.all, .int 5), none, none, some (.all, .lst (letL.map fun c => .str ⟨#[c]⟩)), none, none, none, none] := by
    simp [gOrL, gList, letters_S, nrm]
  have h6 := w6_ok e1 e2 hrg e3 hj hcat hcat8 hs4
  have h8 := w8_ok (a1 := some (.all, .lst words)) (a2 := some (.all, .int 5)) (a5 := some (.all, .lst (letL.map fun c => .str ⟨#[c]⟩))) (w0 := S (c :: cs)) e5 hni ht e6
  unfold BV.w6 at h6
  unfold BV.w8 at h8
  unfold words at h5 h6 h8
  generalize ((q : Nat) : Int) = qi at *
  generalize S (List.replicate q 57) = ns at *
  generalize S (c :: cs) = s0 at *
  simp [-ev_set, g__law_a_mark, callM, m__law_a_mark, mkLst, putAll, nrm, mCallF, lentOf, argsOf, frzV, putBack, hd, h5, h6, h8, e7, mkTup, backOf]
/-- any mark -/
theorem a_mark_ok {k : Nat} {v : Val} (h : Stm (k + 19) v) : ∃ kd w v', g__law_a_mark [v] = .ok (.all, .tup [.str kd, .str (S w)]) [some v'] ∧ Stm k v' ∧ MkOk kd w := by
  obtain ⟨r, v1, hd, h1, r0, r8⟩ := draw_ok (k := k + 18) h (many := 8) (by omega) (by omega)
  by_cases c1 : r < 2
  · exact a_word hd (h1.less (by omega)) c1
  by_cases c2 : r < 4
  · exact a_sign hd (h1.less (by omega)) c1 c2
  by_cases c3 : r = 4
  · subst c3
    exact a_number hd (h1.less (by omega))
  by_cases c4 : r = 5
  · subst c4
    exact a_wrong hd h1
  exact a_name hd (h1.less (by omega)) (by omega) r8
end BV
set_option maxHeartbeats 4000000
/-! PL18: texts are built. -/
namespace BV
open PySem PySem.Spec PyProof.Rows L2 LamX

def lastPl (t : List Nat) : Prop := ∃ c, t.getLast? = some c ∧ plainC c = true
def headNp (t : List Nat) : Prop := ∀ d, t.head? = some d → plainC d = false
def ItemOk (i : Item) : Prop := gapRun false i.1 = some false ∧ okL i.1 ∧ MkOk i.2.1 i.2.2
def Good1 (is : List Item) : Prop := ∀ tail, (lastPl (body is) → headNp tail) → Good is tail
theorem body_app : ∀ (is js : List Item), body (is ++ js) = body is ++ body js
  | [], js => rfl
  | i :: is, js => by simp [body, body_app is js]
theorem shape_inv {w : List Nat} (h : shapeB w = true) : ∃ c w', w = c :: w' ∧ c ≠ 10 ∧ c ≠ 32 ∧ c ≠ 35 ∧ c < 0x110000 ∧ ((plainC c = true ∧ w'.all plainC = true) ∨ (plainC c = false ∧ w' = [])) ∧ w.length ≤ 5000 := by
  unfold shapeB at h
  split at h
  · rename_i c w'
    simp only [Bool.and_eq_true, decide_eq_true_eq, bne_iff_ne, Bool.or_eq_true, Bool.not_eq_true', List.isEmpty_iff] at h
    obtain ⟨⟨⟨⟨⟨⟨h1, h2⟩, h3⟩, h4⟩, h5⟩, h6⟩, h7⟩ := h
    exact ⟨c, w', rfl, h1, h2, h3, h4, h6, h7⟩
  · cases h
theorem sign_ok {w tail : List Nat} (h : shapeB w = true) (hn : lastPl w → headNp tail) : SignOk w tail := by
  obtain ⟨c, w', rfl, h1, h2, h3, h4, h5, h6⟩ := shape_inv h
  refine ⟨c, w', rfl, h1, h2, h3, h4, ?_⟩
  rcases h5 with ⟨p, q⟩ | h5
  · refine .inl ⟨p, q, hn ?_⟩
    obtain ⟨d, hd⟩ : ∃ d, (c :: w').getLast? = some d := ⟨(c :: w').getLast (by simp), List.getLast?_eq_some_getLast (by simp)⟩
    refine ⟨d, hd, ?_⟩
    have hm := List.mem_of_getLast? hd
    rcases List.mem_cons.mp hm with rfl | hm
    · exact p
    · exact List.all_eq_true.mp q d hm
  · exact .inr h5
theorem last_app {a b : List Nat} (h : b ≠ []) : (a ++ b).getLast? = b.getLast? := by
  rw [List.getLast?_append]
  cases e : b.getLast? with
  | none => exact absurd (List.getLast?_eq_none_iff.mp e) h
  | some c => rfl
theorem good_snoc : ∀ (is : List Item) (i : Item) (tail : List Nat), Good is (i.1 ++ (i.2.2 ++ tail)) → ItemOk i → SignOk i.2.2 tail → Good (is ++ [i]) tail
  | [], i, tail, _, ho, hs => ⟨ho.1, ho.2.1, by simpa [body] using hs, ho.2.2.2.1, trivial⟩
  | j :: is, i, tail, h, ho, hs => by
    obtain ⟨h1, h2, h3, h4, h5⟩ := h
    refine ⟨h1, h2, ?_, h4, good_snoc is i tail h5 ho hs⟩
    show SignOk j.2.2 (body (is ++ [i]) ++ tail)
    rw [body_app]
    simpa [body] using h3
theorem good1_nil : Good1 [] := fun _ _ => trivial
theorem good1_snoc {is : List Item} {i : Item} (h : Good1 is) (ho : ItemOk i) (hn : lastPl (body is) → headNp (i.1 ++ i.2.2)) : Good1 (is ++ [i]) := fun tail ht => by
  obtain ⟨c, w', ew, _⟩ := shape_inv ho.2.2.1
  have hne : i.2.2 ≠ [] := by rw [ew]; simp
  refine good_snoc is i tail (h _ fun hl d hd => hn hl d ?_) ho (sign_ok ho.2.2.1 fun hl => ht ?_)
  · cases e : i.1 with
    | nil => rw [e] at hd; rw [ew] at hd ⊢; simpa using hd
    | cons a l => rw [e] at hd; simpa using hd
  · obtain ⟨d, h1, h2⟩ := hl
    refine ⟨d, ?_, h2⟩
    rw [body_app]
    simp only [body, List.append_nil]
    rw [last_app (by simp [hne]), last_app hne]
    exact h1
theorem marks_app : ∀ (is js : List Item) (u : List Nat), marks u (is ++ js) = marks u is ++ marks (u ++ body is) js
  | [], js, u => by simp [marks, body]
  | i :: is, js, u => by simp [marks, body, marks_app is js]
/-! counts and places of new lines -/
theorem cnt_eq (c : Nat) : ∀ l : List Nat, cnt c l = (l.count c : Nat)
  | [] => rfl
  | d :: l => by
    rw [cnt_cons, cnt_eq c l, List.count_cons]
    by_cases h : d = c
    · simp [h]; omega
    · simp [h]
theorem count_S (t : List Nat) : Txt.count (S t) (S [10]) = (t.count 10 : Nat) := by
  have := count_cnt (S t) 10
  rw [S_cps] at this
  rw [← cnt_eq]
  exact this
theorem lastN_spec (t : List Nat) : (lastN t = 0 ∧ ∀ i : Nat, t[i]? ≠ some 10) ∨ ∃ i : Nat, lastN t = i + 1 ∧ t[i]? = some 10 ∧ ∀ k : Nat, i < k → t[k]? ≠ some 10 := by
  obtain ⟨r, rfl⟩ : ∃ r, t = r.reverse := ⟨t.reverse, by simp⟩
  induction r with
  | nil => exact .inl ⟨rfl, fun i => by simp⟩
  | cons c r ih =>
    rw [List.reverse_cons, lastN_snoc]
    by_cases h : c = 10
    · rw [if_pos h]
      refine .inr ⟨r.reverse.length, rfl, by simp [h], fun k hk => ?_⟩
      rw [List.getElem?_eq_none (by simp at hk ⊢; omega)]
      simp
    · rw [if_neg h]
      have key : ∀ k : Nat, (r.reverse ++ [c])[k]? = some 10 → r.reverse[k]? = some 10 := fun k hk => by
        by_cases hl : k < r.reverse.length
        · rwa [List.getElem?_append_left hl] at hk
        · rw [List.getElem?_append_right (by omega)] at hk
          have := List.mem_of_getElem? hk
          simp at this
          exact absurd this.symm h
      rcases ih with ⟨h1, h2⟩ | ⟨i, h1, h2, h3⟩
      · exact .inl ⟨h1, fun i hi => h2 i (key i hi)⟩
      · refine .inr ⟨i, h1, ?_, fun k hk hq => h3 k hk (key k hq)⟩
        have := (List.getElem?_eq_some_iff.mp h2).1
        rw [List.getElem?_append_left this]
        exact h2
theorem at_c (t : List Nat) (i : Nat) : StrLaws.At (S t) (S [10]) (S t).length i ↔ t[i]? = some 10 := by
  have := StrLaws.subAt_one (S t) 10 i
  rw [S_cps] at this
  exact this
theorem rfind_S (t : List Nat) : Txt.rfind (S t) (S [10]) = (lastN t : Nat) - 1 := by
  unfold Txt.rfind
  rcases StrLaws.last_spec (S t) (S [10]) with ⟨h1, h2⟩ | ⟨i, h1, h2, h3⟩
  · rw [h1]
    rcases lastN_spec t with ⟨l1, _⟩ | ⟨j, _, l2, _⟩
    · rw [l1]; rfl
    · exact absurd ((at_c t j).mpr l2) (h2 j)
  · rw [h1]
    have e := (at_c t i).mp h2
    rcases lastN_spec t with ⟨_, l2⟩ | ⟨j, l1, l2, l3⟩
    · exact absurd e (l2 i)
    · have : i = j := by
        rcases Nat.lt_trichotomy i j with z | z | z
        · exact absurd ((at_c t j).mpr l2) (h3 j z)
        · exact z
        · exact absurd e (l3 i z)
      rw [l1, this]
      simp
end BV
set_option maxHeartbeats 8000000
/-! PL19: a turn of the law, its first half. -/
namespace BV
open PySem PySem.Spec PyProof.Rows L2 LamX

def q3 : M Fl := (mSet [] 3 (mLc 18 [4] (mWalk gRange1 (mCons (mCall [0] 2 (g__law_draw) (mAMut 1 (mACons (mC (.int 16)) mANil))) mNil)) (.nm 4) (M.pure true) (mCall [0] 1 (g__law_a_mark) (mAMut 1 mANil))))
def q3c : M Fl := (mCond (mBl (mOp2 gGt (mCall [0] 2 (g__law_draw) (mAMut 1 (mACons (mC (.int 3)) mANil))) (mC (.int 0)))) (mSet [] 3 (mLc 18 [5] (mItems (mVar 3)) (.nm 5) (mBl (mOp2 gNe (mOpV gIx (mVar 5) (mC (.int 0))) (mC (.str (Str.ofString "wrong"))))) (mVar 5))) (M.pure .nx))
def qA : M Fl := (mAsg [] (.tp [(.nm 6), (.nm 7)]) (mTup (mCons (mC (.str (Str.ofString ""))) (mCons (mLst mNil) mNil))))
def qFB : M Fl := (mThen (mSet [] 10 (mC (.str (Str.ofString "abcdefghijklmnopqrstuvwxyz0123456789"))))
    (mThen (mSet [] 11 (mCall [0] 2 (g__law_pick) (mAMut 1 (mACons (mLst (mCons (mC (.str (Str.ofString ""))) (mCons (mC (.str (Str.ofString " "))) (mCons (mC (.str (Str.ofString "\n"))) (mCons (mC (.str (Str.ofString "  "))) (mCons (mC (.str (Str.ofString "\n\n "))) (mCons (mC (.str (Str.ofString " # word < 5\n"))) (mCons (mC (.str (Str.ofString "#\n"))) (mCons (mC (.str (Str.ofString "  \n  # x, y\n "))) mNil))))))))) mANil))))
    (mThen (mSet [] 6 (mOpVV gCat (mVar 6) (mIf (mAndT (mBl (mOp2 gEq (mVar 11) (mC (.str (Str.ofString ""))))) (mAndT (mBl (mOp2 gNe (mVar 6) (mC (.str (Str.ofString ""))))) (mAndT (mBl (mOp2 gIn (mOpV gIx (mVar 6) (mOp1 gNeg (mC (.int 1)))) (mVar 10))) (mBl (mOp2 gIn (mOpV gIx (mVar 9) (mC (.int 0))) (mVar 10)))))) (mC (.str (Str.ofString " "))) (mVar 11))))
    (mThen (mExpr (mMeth 7 D.isLst (gAppend 7) (mCons (mTup (mCons (mOpVV gCat (mM1 gCount (mVar 6) (mC (.str (Str.ofString "\n")))) (mC (.int 1))) (mCons (mOp2 gSub (mFn gLen (mCons (mVar 6) mNil)) (mM1 gRfind (mVar 6) (mC (.str (Str.ofString "\n"))))) mNil))) mNil)))
    (mSet [] 6 (mOpVV gCat (mVar 6) (mVar 9)))))))
def qF : M Fl := (M.bind (mItems (mVarF 3)) fun ds => mFor [] (.tp [(.nm 8), (.nm 9)]) qFB ds)
def q6 : M Fl := (mSet [] 6 (mOpVV gCat (mVar 6) (mCall [0] 2 (g__law_pick) (mAMut 1 (mACons (mLst (mCons (mC (.str (Str.ofString ""))) (mCons (mC (.str (Str.ofString " "))) (mCons (mC (.str (Str.ofString "\n"))) (mCons (mC (.str (Str.ofString " #"))) (mCons (mC (.str (Str.ofString " # thread\n "))) (mCons (mC (.str (Str.ofString "\n\n"))) mNil))))))) mANil)))))
def q12 : M Fl := (mSet [] 12 (mLc 18 [13, 8, 9] (mWalk gZip (mCons (mVar 3) (mCons (mVar 7) mNil))) (.tp [(.tp [(.nm 8), (.nm 9)]), (.nm 13)]) (M.pure true) (mTup (mCons (mVar 8) (mCons (mVar 9) (mCons (mVar 13) mNil))))))
def q12a : M Fl := (mExpr (mMeth 12 D.isLst (gAppend 12) (mCons (mTup (mCons (mC (.str (Str.ofString "end"))) (mCons (mC (.str (Str.ofString ""))) (mCons (mTup (mCons (mOpVV gCat (mM1 gCount (mVar 6) (mC (.str (Str.ofString "\n")))) (mC (.int 1))) (mCons (mOp2 gSub (mFn gLen (mCons (mVar 6) mNil)) (mM1 gRfind (mVar 6) (mC (.str (Str.ofString "\n"))))) mNil))) mNil)))) mNil)))
def qW : M Fl := (mCond (mNotT (mTru (mCallL [] 3 (g__law_twice GK) (mACons (mVar 12) (mALam 1 [6] (mALam 2 [6] mANil)))))) (mRet (mC (.bl false))) (M.pure .nx))
def turnB : M Fl := mThen q3 (mThen q3c (mThen qA (mThen qF (mThen q6 (mThen q12 (mThen q12a qW))))))
abbrev Pr := Str × List Nat
def pairD (p : Pr) : D := .tup [.str p.1, .str (S p.2)]
def PsOk (ps : List Pr) : Prop := ps.length ≤ 15 ∧ ∀ p ∈ ps, MkOk p.1 p.2
theorem pairD_imm (p : Pr) : (pairD p).imm = true := by simp [pairD]
theorem others_184 : others 18 [4] = [0, 1, 2, 3, 5, 6, 7, 8, 9, 10, 11, 12, 13, 14, 15, 16, 17] := by decide
theorem others_185 : others 18 [5] = [0, 1, 2, 3, 4, 6, 7, 8, 9, 10, 11, 12, 13, 14, 15, 16, 17] := by decide
def markE : M Val := mCall [0] 1 (g__law_a_mark) (mAMut 1 mANil)
section
variable {s0 x2 x3 x4 x5 x6 x7 x8 x9 x10 x11 x12 x13 x14 x15 x16 x17 : Option Val}
theorem lc_mark {k : Nat} : ∀ (ds : List D) (acc : List D) (v : Val) (x : Option Val), Stm (k + 19 * ds.length) v → acc.length + ds.length ≤ sizeLine →
    ∃ (v' : Val) (ps : List Pr) (y : Option Val), mLcGo 18 [4] (.nm 4) (M.pure true) markE ds true acc [s0, some v, x2, x3, x, x5, x6, x7, x8, x9, x10, x11, x12, x13, x14, x15, x16, x17] = some (true, acc ++ ps.map pairD, [s0, some v', x2, x3, y, x5, x6, x7, x8, x9, x10, x11, x12, x13, x14, x15, x16, x17]) ∧ Stm k v' ∧ ps.length = ds.length ∧ ∀ p ∈ ps, MkOk p.1 p.2
  | [], acc, v, x, hs, _ => ⟨v, [], x, by simp [mLcGo], by simpa using hs, rfl, fun _ h => by cases h⟩
  | d :: ds, acc, v, x, hs, hl => by
    simp only [List.length_cons] at hl hs
    obtain ⟨kd, w, v1, e, hs1, hm⟩ := a_mark_ok (k := k + 19 * ds.length) (v := v) (hs.less (by omega))
    obtain ⟨v', ps, y, e2, hs2, hl2, hm2⟩ := lc_mark ds (acc ++ [pairD (kd, w)]) v1 (some (nrm (.shr, d))) hs1 (by simp; omega)
    refine ⟨v', (kd, w) :: ps, y, ?_, hs2, by simp [hl2], fun p hp => ?_⟩
    · have hl1 : acc.length < sizeLine := by omega
      have h1 : markE [s0, some v, x2, x3, some (nrm (.shr, d)), x5, x6, x7, x8, x9, x10, x11, x12, x13, x14, x15, x16, x17] = .ok (.all, pairD (kd, w)) [s0, some v1, x2, x3, some (nrm (.shr, d)), x5, x6, x7, x8, x9, x10, x11, x12, x13, x14, x15, x16, x17] := by
        simp [markE, mCallF, lentOf, argsOf, frzV, e, putBack, pairD]
      simp only [mLcGo, others_184]
      simp [wipeE, mTg, h1, hl1, e2]
    · rcases List.mem_cons.mp hp with rfl | hp
      · exact hm
      · exact hm2 p hp
theorem q3_ok {k : Nat} {v : Val} (h : Stm (k + 286) v) : ∃ (v' : Val) (ps : List Pr) (y : Option Val), q3 [s0, some v, x2, x3, x4, x5, x6, x7, x8, x9, x10, x11, x12, x13, x14, x15, x16, x17] = .ok .nx [s0, some v', x2, some (.all, .lst (ps.map pairD)), y, x5, x6, x7, x8, x9, x10, x11, x12, x13, x14, x15, x16, x17] ∧ Stm k v' ∧ PsOk ps := by
  obtain ⟨n, v1, e1, h1, n0, n1⟩ := draw_ok (k := k + 285) h (many := 16) (by omega) (by omega)
  obtain ⟨v', ps, y, e2, h2, hl, hm⟩ := lc_mark (s0 := s0) (x2 := x2) (x3 := x3) (x5 := x5) (x6 := x6) (x7 := x7) (x8 := x8) (x9 := x9) (x10 := x10) (x11 := x11) (x12 := x12) (x13 := x13) (x14 := x14) (x15 := x15) (x16 := x16) (x17 := x17) (k := k) (rangeD 0 n) [] v1 x4 (h1.less (by rw [rangeD_len]; omega)) (by rw [rangeD_len, sizeLine_eq]; simp; omega)
  rw [rangeD_len] at hl
  have hrg := range1_ok n0 (by omega)
  refine ⟨v', ps, keepO x4, ?_, h2, by omega, hm⟩
  unfold markE at e2
  simp [q3, mCallF, lentOf, argsOf, frzV, e1, putBack, hrg, e2, newL, restE, wipeE, nrm]
theorem wrong_S : Str.ofString "wrong" = S (Str.ofString "wrong").cps.toList := S_of _
theorem lc_filter : ∀ (ps : List Pr) (acc : List D) (v : Option Val) (x : Option Val), (∀ p ∈ ps, MkOk p.1 p.2) → acc.length + ps.length ≤ sizeLine →
    ∃ (qs : List Pr) (y : Option Val), mLcGo 18 [5] (.nm 5) (mBl (mOp2 gNe (mOpV gIx (mVar 5) (mC (.int 0))) (mC (.str (Str.ofString "wrong"))))) (mVar 5) (ps.map pairD) true acc [s0, v, x2, x3, x4, x, x6, x7, x8, x9, x10, x11, x12, x13, x14, x15, x16, x17] = some (true, acc ++ qs.map pairD, [s0, v, x2, x3, x4, y, x6, x7, x8, x9, x10, x11, x12, x13, x14, x15, x16, x17]) ∧ qs.length ≤ ps.length ∧ ∀ p ∈ qs, MkOk p.1 p.2
  | [], acc, v, x, _, _ => ⟨[], x, by simp [mLcGo], by simp, fun _ h => by cases h⟩
  | p :: ps, acc, v, x, hm, hl => by
    simp only [List.length_cons] at hl
    have hp := hm p List.mem_cons_self
    have e1 : gNe (.str p.1) (.str (Str.ofString "wrong")) = some (.bl (!(p.1 == Str.ofString "wrong"))) := by
      simp [gNe, pyS_str hp.2.2, pyS_str wrong_str, PyData.eqv]
    have hl1 : acc.length < sizeLine := by omega
    by_cases hw : p.1 = Str.ofString "wrong"
    · obtain ⟨qs, y, e, q1, q2⟩ := lc_filter ps acc v (some (.all, pairD p)) (fun q hq => hm q (List.mem_cons_of_mem _ hq)) (by omega)
      refine ⟨qs, y, ?_, by simp; omega, q2⟩
      simp only [List.map_cons, mLcGo, others_185]
      have e1' : gNe (.str p.1) (.str (Str.ofString "wrong")) = some (.bl false) := by rw [e1, hw]; simp
      simp [wipeE, mTg, nrm, pairD, gIx, e1']
      simpa [pairD] using e
    · obtain ⟨qs, y, e, q1, q2⟩ := lc_filter ps (acc ++ [pairD p]) v (some (.all, pairD p)) (fun q hq => hm q (List.mem_cons_of_mem _ hq)) (by simp; omega)
      refine ⟨p :: qs, y, ?_, by simp; omega, fun q hq => ?_⟩
      · simp only [List.map_cons, mLcGo, others_185]
        have e1' : gNe (.str p.1) (.str (Str.ofString "wrong")) = some (.bl true) := by rw [e1]; simp [hw]
        simp [wipeE, mTg, nrm, pairD, gIx, e1', hl1]
        simpa [pairD] using e
      · rcases List.mem_cons.mp hq with rfl | hq
        · exact hp
        · exact q2 q hq
theorem q3c_ok {k : Nat} {v : Val} {ps : List Pr} (h : Stm (k + 1) v) (hp : PsOk ps) : ∃ (v' : Val) (qs : List Pr) (y : Option Val), q3c [s0, some v, x2, some (.all, .lst (ps.map pairD)), x4, x5, x6, x7, x8, x9, x10, x11, x12, x13, x14, x15, x16, x17] = .ok .nx [s0, some v', x2, some (.all, .lst (qs.map pairD)), x4, y, x6, x7, x8, x9, x10, x11, x12, x13, x14, x15, x16, x17] ∧ Stm k v' ∧ PsOk qs := by
  obtain ⟨n, v1, e1, h1, n0, n1⟩ := draw_ok (k := k) h (many := 3) (by omega) (by omega)
  by_cases hn : 0 < n
  · obtain ⟨qs, y, e2, q1, q2⟩ := lc_filter (s0 := s0) (x2 := x2) (x3 := none) (x4 := x4) (x6 := x6) (x7 := x7) (x8 := x8) (x9 := x9) (x10 := x10) (x11 := x11) (x12 := x12) (x13 := x13) (x14 := x14) (x15 := x15) (x16 := x16) (x17 := x17) ps [] (some v1) x5 hp.2 (by have := hp.1; rw [sizeLine_eq]; simp; omega)
    refine ⟨v1, qs, keepO x5, ?_, h1, Nat.le_trans q1 hp.1, q2⟩
    simp [q3c, mCallF, lentOf, argsOf, frzV, e1, putBack, hn, itemsOf, e2, newL, restE, wipeE, nrm]
  · refine ⟨v1, ps, x5, ?_, h1, hp⟩
    simp [q3c, mCallF, lentOf, argsOf, frzV, e1, putBack, hn]
theorem qA_ok {v : Option Val} : qA [s0, v, x2, x3, x4, x5, x6, x7, x8, x9, x10, x11, x12, x13, x14, x15, x16, x17] = .ok .nx [s0, v, x2, x3, x4, x5, some (.all, .str (S [])), some (.all, .lst []), x8, x9, x10, x11, x12, x13, x14, x15, x16, x17] := by
  simp [qA, mkTup, mkLst, mTg, mTgs, nrm, empty_S]
end
end BV
set_option maxHeartbeats 8000000
/-! PL20: the text of a turn. -/
namespace BV
open PySem PySem.Spec PyProof.Rows L2 LamX

def gapS : List Str := [Str.ofString "", Str.ofString " ", Str.ofString "\n", Str.ofString "  ", Str.ofString "\n\n ", Str.ofString " # word < 5\n", Str.ofString "#\n", Str.ofString "  \n  # x, y\n "]
def headNpB (t : List Nat) : Bool := match t with
  | c :: _ => !plainC c
  | [] => true
theorem headNpB_ok {t : List Nat} (h : headNpB t = true) : headNp t := fun d hd => by
  cases t with
  | nil => cases hd
  | cons c t =>
    simp at hd
    subst hd
    simpa [headNpB] using h
theorem gaps_ok : gapS.all (fun x => decide (gapRun false x.cps.toList = some false) && x.cps.toList.all (fun c => decide (c < 0x110000)) && headNpB x.cps.toList && decide (x.cps.toList.length ≤ 20)) = true := by decide +kernel
def tailS : List Str := [Str.ofString "", Str.ofString " ", Str.ofString "\n", Str.ofString " #", Str.ofString " # thread\n ", Str.ofString "\n\n"]
theorem tails_ok : tailS.all (fun x => (gapRun false x.cps.toList).isSome && x.cps.toList.all (fun c => decide (c < 0x110000)) && headNpB x.cps.toList && decide (x.cps.toList.length ≤ 20)) = true := by decide +kernel
def plainS : Str := Str.ofString "abcdefghijklmnopqrstuvwxyz0123456789"
theorem plainZ (c : Nat) : decide (c ∈ (Str.ofString "abcdefghijklmnopqrstuvwxyz0123456789").cps.toList) = plainC c := by
  have e : (Str.ofString "abcdefghijklmnopqrstuvwxyz0123456789").cps.toList = (Str.ofString "abcdefghijklmnopqrstuvwxyz").cps.toList ++ (Str.ofString "0123456789").cps.toList := by decide +kernel
  rw [e]
  unfold plainC
  simp [List.mem_append]
theorem gIx_last {m : Mode} {t : List Nat} {c : Nat} (hl : t.length ≤ sizeLine) (h : t.getLast? = some c) : gIx (m, .str (S t)) (.int (-1)) = some (.all, .str (S [c])) := by
  have hne : t ≠ [] := fun e => by rw [e] at h; cases h
  have hp : 0 < t.length := List.length_pos_iff.mpr hne
  have e : atI t (-1) = some c := by
    unfold atI ixN
    rw [if_neg (by omega), if_pos (by omega)]
    simp only [Option.bind_some]
    rw [List.getLast?_eq_getElem?] at h
    rw [← h]
    congr 1
    omega
  simp [gIx, hl, S_cps, e]
  rfl
def plc (u : List Nat) : D := .tup [.int ((u.count 10 : Nat) + 1), .int ((u.length : Nat) - ((lastN u : Nat) - 1))]
section
variable {s0 x2 x3 x4 x5 x6 x7 x8 x9 x10 x11 x12 x13 x14 x15 x16 x17 : Option Val}
theorem qFB_ok {k : Nat} {v : Val} {t w : List Nat} {kd : Str} {pl : List D} (h : Stm (k + 1) v) (ht : okL t) (hl : t.length ≤ 200000) (hw : shapeB w = true) (hpl : pl.length ≤ 1000) (hpi : immAll pl = true) :
    ∃ (v' : Val) (g : List Nat) (y10 y11 : Option Val), qFB [s0, some v, x2, x3, x4, x5, some (.all, .str (S t)), some (.all, .lst pl), some (.all, .str kd), some (.all, .str (S w)), x10, x11, x12, x13, x14, x15, x16, x17] = .ok .nx [s0, some v', x2, x3, x4, x5, some (.all, .str (S (t ++ g ++ w))), some (.all, .lst (pl ++ [plc (t ++ g)])), some (.all, .str kd), some (.all, .str (S w)), y10, y11, x12, x13, x14, x15, x16, x17] ∧ Stm k v' ∧ gapRun false g = some false ∧ okL g ∧ g.length ≤ 20 ∧ (lastPl t → headNp (g ++ w)) := by
  obtain ⟨d, v', hm, e1, h1⟩ := pick_ok (k := k) h (ds := [.str (Str.ofString ""), .str (Str.ofString " "), .str (Str.ofString "\n"), .str (Str.ofString "  "), .str (Str.ofString "\n\n "), .str (Str.ofString " # word < 5\n"), .str (Str.ofString "#\n"), .str (Str.ofString "  \n  # x, y\n ")]) (by simp) (by simp) (by simp)
  obtain ⟨x, hx, rfl⟩ : ∃ x ∈ gapS, d = .str x := by
    simp only [List.mem_cons, List.not_mem_nil, or_false] at hm
    rcases hm with rfl | rfl | rfl | rfl | rfl | rfl | rfl | rfl <;> exact ⟨_, by simp [gapS], rfl⟩
  have hg := List.all_eq_true.mp gaps_ok x hx
  simp only [Bool.and_eq_true, decide_eq_true_eq, List.all_eq_true] at hg
  obtain ⟨⟨⟨g1, g2⟩, g3⟩, g4⟩ := hg
  obtain ⟨g0, rfl⟩ : ∃ g0, x = S g0 := ⟨_, S_of x⟩
  rw [S_cps] at g1 g2 g3 g4
  have ho0 : okL g0 := g2
  obtain ⟨c, w', ew, n1, n2, n3, hc, hp, hwl⟩ := shape_inv hw
  have hsl : t.length ≤ sizeLine := by rw [sizeLine_eq]; omega
  have hwsl : w.length ≤ sizeLine := by rw [sizeLine_eq]; omega
  have hix : gIx (.all, .str (S w)) (.int 0) = some (.all, .str (S [c])) := by
    have := gIx_str (m := .all) (t := w) (n := 0) (c := c) hwsl (by rw [ew]; rfl)
    simpa using this
  have hnil : okL [] := fun _ h => by cases h
  have q1 : gEq (.str (S g0)) (.str (Str.ofString "")) = some (.bl (decide (g0 = []))) := by rw [empty_S]; exact gEq_str ho0 hnil
  have q2 : gNe (.str (S t)) (.str (Str.ofString "")) = some (.bl (!decide (t = []))) := by rw [empty_S]; exact gNe_str ht hnil
  have fin : ∀ g : List Nat, g.length ≤ 20 → okL g →
      (mThen (mExpr (mMeth 7 D.isLst (gAppend 7) (mCons (mTup (mCons (mOpVV gCat (mM1 gCount (mVar 6) (mC (.str (Str.ofString "\n")))) (mC (.int 1))) (mCons (mOp2 gSub (mFn gLen (mCons (mVar 6) mNil)) (mM1 gRfind (mVar 6) (mC (.str (Str.ofString "\n"))))) mNil))) mNil)))
        (mSet [] 6 (mOpVV gCat (mVar 6) (mVar 9)))) [s0, some v', x2, x3, x4, x5, some (.all, .str (S (t ++ g))), some (.all, .lst pl), some (.all, .str kd), some (.all, .str (S w)), some (.all, .str plainS), some (.all, .str (S g0)), x12, x13, x14, x15, x16, x17] =
      .ok .nx [s0, some v', x2, x3, x4, x5, some (.all, .str (S (t ++ g ++ w))), some (.all, .lst (pl ++ [plc (t ++ g)])), some (.all, .str kd), some (.all, .str (S w)), some (.all, .str plainS), some (.all, .str (S g0)), x12, x13, x14, x15, x16, x17] := fun g hg hog => by
    have l1 : (t ++ g).length ≤ sizeLine := by rw [sizeLine_eq]; simp; omega
    have l2 : (t ++ g).length + w.length ≤ sizeLine := by rw [sizeLine_eq]; simp; omega
    have l3 : pl.length < sizeLine := by rw [sizeLine_eq]; omega
    generalize t ++ g = u at *
    simp [D.isLst, gCount, nl_S, count_S, gCat, gAdd, gLen, l1, gRfind, rfind_S, gSub, mkTup, gAppend, l3, newL, nrm, l2, S_app, plc]
  have hcat : ∀ g : List Nat, g.length ≤ 20 → gCat (.all, .str (S t)) (.all, .str (S g)) = some (.all, .str (S (t ++ g))) := fun g hg => by
    have : t.length + g.length ≤ sizeLine := by rw [sizeLine_eq]; omega
    simp [gCat, gAdd, this, S_app]
  have hcat32 : gCat (.all, .str (S t)) (.all, .str (Str.ofString " ")) = some (.all, .str (S (t ++ [32]))) := by rw [sp_S]; exact hcat [32] (by simp)
  have hz := plainZ
  unfold qFB
  rw [show (Str.ofString "abcdefghijklmnopqrstuvwxyz0123456789") = plainS from rfl] at *
  generalize hR : (mThen (mExpr (mMeth 7 D.isLst (gAppend 7) (mCons (mTup (mCons (mOpVV gCat (mM1 gCount (mVar 6) (mC (.str (Str.ofString "\n")))) (mC (.int 1))) (mCons (mOp2 gSub (mFn gLen (mCons (mVar 6) mNil)) (mM1 gRfind (mVar 6) (mC (.str (Str.ofString "\n"))))) mNil))) mNil)))
        (mSet [] 6 (mOpVV gCat (mVar 6) (mVar 9)))) = R at fin ⊢
  by_cases b0 : g0 = []
  · have q1' : gEq (.str (S g0)) (.str (Str.ofString "")) = some (.bl true) := by rw [q1, b0]; simp
    have q1'' : gEq (.str (S [])) (.str (Str.ofString "")) = some (.bl true) := by rw [← b0]; exact q1'
    cases hlast : t.getLast? with
    | none =>
      have htn : t = [] := List.getLast?_eq_none_iff.mp hlast
      refine ⟨v', g0, some (.all, .str plainS), some (.all, .str (S g0)), ?_, h1, g1, ho0, g4, fun ⟨d, hd, _⟩ => by rw [hlast] at hd; cases hd⟩
      have hf := fin g0 g4 ho0
      have q2' : gNe (.str (S t)) (.str (Str.ofString "")) = some (.bl false) := by rw [q2, htn]; simp
      have hc0 := hcat g0 g4
      generalize S g0 = sg at *
      generalize S t = st at *
      simp [nrm, mkLst, mCallF, lentOf, argsOf, frzV, e1, putBack, q1', q2', hc0, hf]
    | some cl =>
      have htn : t ≠ [] := fun z => by rw [z] at hlast; cases hlast
      have q2' : gNe (.str (S t)) (.str (Str.ofString "")) = some (.bl true) := by rw [q2]; simp [htn]
      have hlx := gIx_last (m := .all) hsl hlast
      have hneg : gNeg (.int 1) = some (.int (-1)) := rfl
      have z1 : gIn (.str (S [cl])) (.str plainS) = some (.bl (plainC cl)) := by rw [gIn_c, hz]
      have z2 : gIn (.str (S [c])) (.str plainS) = some (.bl (plainC c)) := by rw [gIn_c, hz]
      by_cases pc : plainC cl = true ∧ plainC c = true
      · refine ⟨v', [32], some (.all, .str plainS), some (.all, .str (S g0)), ?_, h1, by rfl, by simp [okL], by simp, fun _ => headNpB_ok (by simp only [List.cons_append, headNpB]; decide +kernel)⟩
        have hf := fin [32] (by simp) (by simp [okL])
        rw [pc.1] at z1
        rw [pc.2] at z2
        generalize S (t ++ [32]) = st2 at *
        generalize S g0 = sg at *
        generalize S t = st at *
        generalize S [cl] = scl at *
        generalize S [c] = sc at *
        simp [nrm, mkLst, mCallF, lentOf, argsOf, frzV, e1, putBack, q1', q2', hneg, hlx, z1, hix, z2, hcat32, hf]
      · refine ⟨v', g0, some (.all, .str plainS), some (.all, .str (S g0)), ?_, h1, g1, ho0, g4, fun ⟨d, hd, hdp⟩ => ?_⟩
        · have hf := fin g0 g4 ho0
          have hc0 := hcat g0 g4
          generalize S (t ++ g0) = st2 at *
          generalize S g0 = sg at *
          generalize S t = st at *
          generalize S [cl] = scl at *
          generalize S [c] = sc at *
          by_cases p1 : plainC cl = true
          · have p2 : plainC c = false := by
              cases z : plainC c with
              | false => rfl
              | true => exact absurd ⟨p1, z⟩ pc
            rw [p1] at z1
            rw [p2] at z2
            simp [nrm, mkLst, mCallF, lentOf, argsOf, frzV, e1, putBack, q1', q2', hneg, hlx, z1, hix, z2, hc0, hf]
          · have p1' : plainC cl = false := by simpa using p1
            rw [p1'] at z1
            simp [nrm, mkLst, mCallF, lentOf, argsOf, frzV, e1, putBack, q1', q2', hneg, hlx, z1, hix, z2, hc0, hf]
        · rw [hlast] at hd
          cases hd
          have p2 : plainC c = false := by
            cases z : plainC c with
            | false => rfl
            | true => exact absurd ⟨hdp, z⟩ pc
          rw [b0, ew]
          exact headNpB_ok (by simp [headNpB, p2])
  · have q1' : gEq (.str (S g0)) (.str (Str.ofString "")) = some (.bl false) := by rw [q1]; simp [b0]
    refine ⟨v', g0, some (.all, .str plainS), some (.all, .str (S g0)), ?_, h1, g1, ho0, g4, fun _ => ?_⟩
    · have hf := fin g0 g4 ho0
      have hc0 := hcat g0 g4
      generalize S (t ++ g0) = st2 at *
      generalize S g0 = sg at *
      generalize S t = st at *
      simp [nrm, mkLst, mCallF, lentOf, argsOf, frzV, e1, putBack, q1', hc0, hf]
    · cases g0 with
      | nil => exact absurd rfl b0
      | cons a l => exact headNpB_ok (by simpa [headNpB] using g3)
end
end BV
set_option maxHeartbeats 8000000
/-! PL21: the text of a turn, whole; what is due. -/
namespace BV
open PySem PySem.Spec PyProof.Rows L2 LamX

def plcs : List Nat → List Item → List D
  | _, [] => []
  | u, i :: r => plc (u ++ i.1) :: plcs (u ++ i.1 ++ i.2.2) r
theorem plcs_app : ∀ (is js : List Item) (u : List Nat), plcs u (is ++ js) = plcs u is ++ plcs (u ++ body is) js
  | [], js, u => by simp [plcs, body]
  | i :: is, js, u => by simp [plcs, body, plcs_app is js]
theorem plcs_len : ∀ (is : List Item) (u : List Nat), (plcs u is).length = is.length
  | [], _ => rfl
  | i :: is, u => by simp [plcs, plcs_len is]
theorem plcs_imm : ∀ (is : List Item) (u : List Nat), immAll (plcs u is) = true
  | [], _ => by simp [plcs]
  | i :: is, u => by simp [plcs, plcs_imm is, plc]
def pairOf (i : Item) : Pr := (i.2.1, i.2.2)
section
variable {s0 x2 x3 x4 x5 x8 x9 x10 x11 x12 x13 x14 x15 x16 x17 : Option Val}
theorem for_go {k : Nat} : ∀ (ps : List Pr) (is : List Item) (v : Val) (x8 x9 x10 x11 : Option Val), Good1 is → okL (body is) → (body is).length ≤ 6000 * is.length → is.length + ps.length ≤ 15 → (∀ p ∈ ps, MkOk p.1 p.2) → Stm (k + ps.length) v →
    ∃ (v' : Val) (js : List Item) (y8 y9 y10 y11 : Option Val), mFor [] (.tp [.nm 8, .nm 9]) qFB (ps.map pairD) [s0, some v, x2, x3, x4, x5, some (.all, .str (S (body is))), some (.all, .lst (plcs [] is)), x8, x9, x10, x11, x12, x13, x14, x15, x16, x17] = .ok .nx [s0, some v', x2, x3, x4, x5, some (.all, .str (S (body (is ++ js)))), some (.all, .lst (plcs [] (is ++ js))), y8, y9, y10, y11, x12, x13, x14, x15, x16, x17] ∧
      js.map pairOf = ps ∧ Good1 (is ++ js) ∧ okL (body (is ++ js)) ∧ (body (is ++ js)).length ≤ 6000 * (is ++ js).length ∧ Stm k v'
  | [], is, v, x8, x9, x10, x11, h1, h2, h3, h4, h5, h6 => ⟨v, [], x8, x9, x10, x11, by simp [mFor], rfl, by simpa using h1, by simpa using h2, by simpa using h3, by simpa using h6⟩
  | p :: ps, is, v, x8, x9, x10, x11, h1, h2, h3, h4, h5, h6 => by
    simp only [List.length_cons] at h4 h6
    have hp := h5 p List.mem_cons_self
    obtain ⟨c, w', ew, _, _, _, _, _, hwl⟩ := shape_inv hp.1
    obtain ⟨v1, g, y10, y11, e, hs1, g1, g2, g3, g4⟩ := qFB_ok (s0 := s0) (x2 := x2) (x3 := x3) (x4 := x4) (x5 := x5) (x10 := x10) (x11 := x11) (x12 := x12) (x13 := x13) (x14 := x14) (x15 := x15) (x16 := x16) (x17 := x17) (k := k + ps.length) (v := v) (t := body is) (w := p.2) (kd := p.1) (pl := plcs [] is) h6 h2 (by omega) hp.1 (by rw [plcs_len]; omega) (plcs_imm is [])
    have hbody : body (is ++ [(g, p.1, p.2)]) = body is ++ g ++ p.2 := by rw [body_app]; simp [body]
    have hplc : plcs [] (is ++ [(g, p.1, p.2)]) = plcs [] is ++ [plc (body is ++ g)] := by rw [plcs_app]; simp [plcs]
    have hgood : Good1 (is ++ [(g, p.1, p.2)]) := good1_snoc h1 ⟨g1, g2, hp⟩ g4
    have hok : okL (body (is ++ [(g, p.1, p.2)])) := by
      rw [hbody]
      intro d hd
      rcases List.mem_append.mp hd with hd | hd
      · rcases List.mem_append.mp hd with hd | hd
        · exact h2 d hd
        · exact g2 d hd
      · exact shape_okL hp.1 d hd
    obtain ⟨v', js, z8, z9, z10, z11, e2, m1, m2, m3, m4, m5⟩ := for_go ps (is ++ [(g, p.1, p.2)]) v1 (some (.all, .str p.1)) (some (.all, .str (S p.2))) y10 y11 hgood hok (by rw [hbody]; simp; omega) (by simp; omega) (fun q hq => h5 q (List.mem_cons_of_mem _ hq)) hs1
    refine ⟨v', (g, p.1, p.2) :: js, z8, z9, z10, z11, ?_, by simp [pairOf, m1], by simpa using m2, by simpa using m3, by simpa using m4, m5⟩
    rw [hbody, hplc] at e2
    simp [mFor, pairD, mTg, mTgs, nrm, e]
    simpa [pairD] using e2
theorem qF_ok {k : Nat} {v : Val} {ps : List Pr} (hp : PsOk ps) (h : Stm (k + 15) v) : ∃ (v' : Val) (js : List Item) (y8 y9 y10 y11 : Option Val), qF [s0, some v, x2, some (.all, .lst (ps.map pairD)), x4, x5, some (.all, .str (S [])), some (.all, .lst []), x8, x9, x10, x11, x12, x13, x14, x15, x16, x17] = .ok .nx [s0, some v', x2, some (.shr, .lst (ps.map pairD)), x4, x5, some (.all, .str (S (body js))), some (.all, .lst (plcs [] js)), y8, y9, y10, y11, x12, x13, x14, x15, x16, x17] ∧
      js.map pairOf = ps ∧ Good1 js ∧ okL (body js) ∧ (body js).length ≤ 6000 * js.length ∧ Stm k v' := by
  obtain ⟨v', js, y8, y9, y10, y11, e, m1, m2, m3, m4, m5⟩ := for_go (s0 := s0) (x2 := x2) (x3 := some (.shr, .lst (ps.map pairD))) (x4 := x4) (x5 := x5) (x12 := x12) (x13 := x13) (x14 := x14) (x15 := x15) (x16 := x16) (x17 := x17) (k := k) ps [] v x8 x9 x10 x11 good1_nil (fun _ h => by cases h) (by simp [body]) (by simpa using hp.1) hp.2 (h.less (by have := hp.1; omega))
  refine ⟨v', js, y8, y9, y10, y11, ?_, m1, by simpa using m2, by simpa using m3, by simpa using m4, m5⟩
  simp [qF, frzV, itemsOf]
  simpa [body, plcs] using e
def TailOk (tl : List Nat) : Prop := (∃ r, gapRun false tl = some r) ∧ okL tl ∧ headNp tl ∧ tl.length ≤ 20
theorem q6_ok {x7 : Option Val} {k : Nat} {v : Val} {t : List Nat} (h : Stm (k + 1) v) (hl : t.length ≤ 200000) : ∃ (v' : Val) (tl : List Nat), q6 [s0, some v, x2, x3, x4, x5, some (.all, .str (S t)), x7, x8, x9, x10, x11, x12, x13, x14, x15, x16, x17] = .ok .nx [s0, some v', x2, x3, x4, x5, some (.all, .str (S (t ++ tl))), x7, x8, x9, x10, x11, x12, x13, x14, x15, x16, x17] ∧ TailOk tl ∧ Stm k v' := by
  obtain ⟨d, v', hm, e1, h1⟩ := pick_ok (k := k) h (ds := [.str (Str.ofString ""), .str (Str.ofString " "), .str (Str.ofString "\n"), .str (Str.ofString " #"), .str (Str.ofString " # thread\n "), .str (Str.ofString "\n\n")]) (by simp) (by simp) (by simp)
  obtain ⟨x, hx, rfl⟩ : ∃ x ∈ tailS, d = .str x := by
    simp only [List.mem_cons, List.not_mem_nil, or_false] at hm
    rcases hm with rfl | rfl | rfl | rfl | rfl | rfl <;> exact ⟨_, by simp [tailS], rfl⟩
  have hg := List.all_eq_true.mp tails_ok x hx
  simp only [Bool.and_eq_true, decide_eq_true_eq, List.all_eq_true, Option.isSome_iff_exists] at hg
  obtain ⟨⟨⟨g1, g2⟩, g3⟩, g4⟩ := hg
  obtain ⟨g0, rfl⟩ : ∃ g0, x = S g0 := ⟨_, S_of x⟩
  rw [S_cps] at g1 g2 g3 g4
  have hcat : gCat (.all, .str (S t)) (.all, .str (S g0)) = some (.all, .str (S (t ++ g0))) := by
    have : t.length + g0.length ≤ sizeLine := by rw [sizeLine_eq]; omega
    simp [gCat, gAdd, this, S_app]
  refine ⟨v', g0, ?_, ⟨g1, g2, headNpB_ok g3, g4⟩, h1⟩
  generalize S (t ++ g0) = st2 at *
  generalize S g0 = sg at *
  generalize S t = st at *
  simp [q6, nrm, mkLst, mCallF, lentOf, argsOf, frzV, e1, putBack, hcat]
end
end BV
set_option maxHeartbeats 8000000
/-! PL22: what is due; asked twice; a turn. -/
namespace BV
open PySem PySem.Spec PyProof.Rows L2 LamX

theorem mark_plc (k : Str) (w u : List Nat) : mark k w u = .tup [.str k, .str (S w), plc u] := by
  have : ((u.length : Nat) : Int) - (lastN u : Nat) + 1 = (u.length : Nat) - ((lastN u : Nat) - 1) := by omega
  simp [mark, plc, this]
theorem plc_imm (u : List Nat) : (plc u).imm = true := by simp [plc]
theorem others_18c : others 18 [13, 8, 9] = [0, 1, 2, 3, 4, 5, 6, 7, 10, 11, 12, 14, 15, 16, 17] := by decide
section
variable {s0 x1 x2 x3 x4 x5 x6 x7 x8 x9 x10 x11 x12 x13 x14 x15 x16 x17 : Option Val}
theorem lc_due : ∀ (js : List Item) (u : List Nat) (acc : List D) (x8 x9 x13 : Option Val), acc.length + js.length ≤ sizeLine →
    ∃ y8 y9 y13, mLcGo 18 [13, 8, 9] (.tp [(.tp [(.nm 8), (.nm 9)]), (.nm 13)]) (M.pure true) (mTup (mCons (mVar 8) (mCons (mVar 9) (mCons (mVar 13) mNil)))) (List.zipWith (fun d e => D.tup [d, e]) ((js.map pairOf).map pairD) (plcs u js)) true acc [s0, x1, x2, x3, x4, x5, x6, x7, x8, x9, x10, x11, x12, x13, x14, x15, x16, x17] = some (true, acc ++ marks u js, [s0, x1, x2, x3, x4, x5, x6, x7, y8, y9, x10, x11, x12, y13, x14, x15, x16, x17])
  | [], u, acc, x8, x9, x13, _ => ⟨x8, x9, x13, by simp [mLcGo, marks]⟩
  | i :: js, u, acc, x8, x9, x13, hl => by
    simp only [List.length_cons] at hl
    obtain ⟨y8, y9, y13, e⟩ := lc_due js (u ++ i.1 ++ i.2.2) (acc ++ [mark i.2.1 i.2.2 (u ++ i.1)]) (some (.all, .str i.2.1)) (some (.all, .str (S i.2.2))) (some (.all, plc (u ++ i.1))) (by simp; omega)
    refine ⟨y8, y9, y13, ?_⟩
    have hl1 : acc.length < sizeLine := by omega
    have hi := plc_imm (u ++ i.1)
    rw [mark_plc] at e
    simp only [List.map_cons, plcs, List.zipWith_cons_cons, mLcGo, others_18c, marks, mark_plc]
    generalize plc (u ++ i.1) = pl at *
    simp [wipeE, pairD, pairOf, mTg, mTgs, nrm, hi, mkTup, hl1]
    simpa [pairD] using e
theorem q12_ok {js : List Item} (hl : js.length ≤ 1000) : ∃ y8 y9 y13, q12 [s0, x1, x2, some (.shr, .lst ((js.map pairOf).map pairD)), x4, x5, x6, some (.all, .lst (plcs [] js)), x8, x9, x10, x11, x12, x13, x14, x15, x16, x17] = .ok .nx [s0, x1, x2, some (.shr, .lst ((js.map pairOf).map pairD)), x4, x5, x6, none, y8, y9, x10, x11, some (.all, .lst (marks [] js)), y13, x14, x15, x16, x17] := by
  obtain ⟨y8, y9, y13, e⟩ := lc_due (s0 := s0) (x1 := x1) (x2 := x2) (x3 := some (.shr, .lst ((js.map pairOf).map pairD))) (x4 := x4) (x5 := x5) (x6 := x6) (x7 := none) (x10 := x10) (x11 := x11) (x12 := x12) (x14 := x14) (x15 := x15) (x16 := x16) (x17 := x17) js [] [] x8 x9 x13 (by rw [sizeLine_eq]; simp; omega)
  refine ⟨keepO x8, keepO x9, keepO x13, ?_⟩
  generalize (js.map pairOf).map pairD = ds at *
  generalize plcs [] js = es at *
  simp [q12, gZip, e, newL, restE, wipeE, nrm]
theorem q12a_ok {t : List Nat} {ds : List D} (hl : t.length ≤ sizeLine) (hd : ds.length ≤ 1000) : q12a [s0, x1, x2, x3, x4, x5, some (.all, .str (S t)), x7, x8, x9, x10, x11, some (.all, .lst ds), x13, x14, x15, x16, x17] = .ok .nx [s0, x1, x2, x3, x4, x5, some (.all, .str (S t)), x7, x8, x9, x10, x11, some (.all, .lst (ds ++ [endMark t])), x13, x14, x15, x16, x17] := by
  have l3 : ds.length < sizeLine := by rw [sizeLine_eq]; omega
  unfold endMark
  rw [mark_plc]
  simp [q12a, D.isLst, gCount, nl_S, count_S, gCat, gAdd, gLen, hl, gRfind, rfind_S, gSub, mkTup, gAppend, l3, newL, plc, empty_S]
theorem end_str : PyData.strOk (Str.ofString "end") = true := by decide +kernel
theorem mark_okD {k : Str} {w u : List Nat} (h1 : PyData.strOk k = true) (h2 : okL w) : okD (mark k w u) = true := by simp [mark, okD, okAll, h1, okS h2]
theorem mark_short (k : Str) (w u : List Nat) : shortD (mark k w u) = true := by simp [mark, shortD, shortAll]
theorem mark_dep (k : Str) (w u : List Nat) : dep (mark k w u) = 2 := by simp [mark, dep, depAll]
theorem marks_okD : ∀ (js : List Item) (u : List Nat), (∀ i ∈ js, MkOk i.2.1 i.2.2) → okAll (marks u js) = true
  | [], _, _ => by simp [marks, okAll]
  | i :: js, u, h => by
    have hi := h i List.mem_cons_self
    simp [marks, okAll, mark_okD hi.2.2 (shape_okL hi.1), marks_okD js _ fun j hj => h j (List.mem_cons_of_mem _ hj)]
theorem marks_short : ∀ (js : List Item) (u : List Nat), shortAll (marks u js) = true
  | [], _ => by simp [marks, shortAll]
  | i :: js, u => by simp [marks, shortAll, mark_short, marks_short js]
theorem marks_dep : ∀ (js : List Item) (u : List Nat), depAll (marks u js) ≤ 2
  | [], _ => by simp [marks, depAll]
  | i :: js, u => by simp [marks, depAll, mark_dep, marks_dep js]
theorem shortAll_app : ∀ ds es, shortAll (ds ++ es) = (shortAll ds && shortAll es)
  | [], es => by simp [shortAll]
  | d :: ds, es => by simp [shortAll, shortAll_app ds es, Bool.and_assoc]
theorem qW_ok {t : List Nat} {ds : List D} (ho : okD (.lst ds) = true) (hs : shortD (.lst ds) = true) (hd : dep (.lst ds) < 38) (hm : g_marks_of [(.all, .str (S t))] = .ok (.all, .lst ds) [none]) :
    qW [s0, x1, x2, x3, x4, x5, some (.all, .str (S t)), x7, x8, x9, x10, x11, some (.all, .lst ds), x13, x14, x15, x16, x17] = .ok .nx [s0, x1, x2, x3, x4, x5, some (.all, .str (S t)), x7, x8, x9, x10, x11, none, x13, x14, x15, x16, x17] := by
  have k1 : ∃ e, GK 1 [] [.str (S t)] = .ok (.all, .lst ds) e := by
    refine ⟨[some (.shr, .str (S t))], ?_⟩
    simp only [GK, gkOf]
    rw [if_pos (by decide +kernel)]
    have : (L 1).ex.length = 0 := by decide +kernel
    rw [this]
    simp [lamRun, gm, gm_1, mCallNF, mCallF, argsOf, frzV, D.noclo, lentOf, hm, putBack]
  have k2 : ∃ e, GK 2 [] [.str (S t)] = .ok (.all, .lst ds) e := by
    refine ⟨[some (.shr, .str (S t))], ?_⟩
    simp only [GK, gkOf]
    rw [if_pos (by decide +kernel)]
    have : (L 2).ex.length = 0 := by decide +kernel
    rw [this]
    simp [lamRun, gm, gm_2, mCallK, permL, mCallNF, mCallF, argsOf, frzV, D.noclo, lentOf, hm, putBack]
  obtain ⟨e1, h1⟩ := k1
  obtain ⟨e2, h2⟩ := k2
  have tw := twice_ok ho hs hd h1 h2
  generalize hG : GK = G at *
  have hnb : nocloE [none, none, none] = true := rfl
  simp [fz] at tw
  simp [qW, hG, mCallLF, resolve, caughtD, lentOf, argsOf, frzV, tw, D.noclo, hnb, putBack, D.tru]
end
end BV
set_option maxHeartbeats 8000000
/-! PL23: the law. -/
namespace BV
open PySem PySem.Spec PyProof.Rows L2 LamX

def lawR : M Fl := (mThen (mSet [] 14 (mLst (mCons (mTup (mCons (mC (.str (Str.ofString "a<b>,c"))) (mCons (mLst (mCons (mC (.str (Str.ofString "name"))) (mCons (mC (.str (Str.ofString "<"))) (mCons (mC (.str (Str.ofString "name"))) (mCons (mC (.str (Str.ofString ">"))) (mCons (mC (.str (Str.ofString ","))) (mCons (mC (.str (Str.ofString "name"))) (mCons (mC (.str (Str.ofString "end"))) mNil)))))))) mNil))) (mCons (mTup (mCons (mC (.str (Str.ofString "wordx word"))) (mCons (mLst (mCons (mC (.str (Str.ofString "name"))) (mCons (mC (.str (Str.ofString "word"))) (mCons (mC (.str (Str.ofString "end"))) mNil)))) mNil))) (mCons (mTup (mCons (mC (.str (Str.ofString "5,-7"))) (mCons (mLst (mCons (mC (.str (Str.ofString "number"))) (mCons (mC (.str (Str.ofString ","))) (mCons (mC (.str (Str.ofString "-"))) (mCons (mC (.str (Str.ofString "number"))) (mCons (mC (.str (Str.ofString "end"))) mNil)))))) mNil))) mNil)))))
    (mThen (mExpr (mMeth 14 D.isLst (gExtend 14) (mCons (mLst (mCons (mTup (mCons (mC (.str (Str.ofString "abcdefgh abcdefghi"))) (mCons (mLst (mCons (mC (.str (Str.ofString "name"))) (mCons (mC (.str (Str.ofString "wrong"))) (mCons (mC (.str (Str.ofString "end"))) mNil)))) mNil))) (mCons (mTup (mCons (mC (.str (Str.ofString "00"))) (mCons (mLst (mCons (mC (.str (Str.ofString "wrong"))) (mCons (mC (.str (Str.ofString "end"))) mNil))) mNil))) (mCons (mTup (mCons (mC (.str (Str.ofString "1a"))) (mCons (mLst (mCons (mC (.str (Str.ofString "wrong"))) (mCons (mC (.str (Str.ofString "end"))) mNil))) mNil))) (mCons (mTup (mCons (mC (.str (Str.ofString "aB"))) (mCons (mLst (mCons (mC (.str (Str.ofString "name"))) (mCons (mC (.str (Str.ofString "wrong"))) (mCons (mC (.str (Str.ofString "end"))) mNil)))) mNil))) mNil))))) mNil)))
    (mThen (mExpr (mMeth 14 D.isLst (gExtend 14) (mCons (mLst (mCons (mTup (mCons (mC (.str (Str.ofString "a_b"))) (mCons (mLst (mCons (mC (.str (Str.ofString "name"))) (mCons (mC (.str (Str.ofString "wrong"))) (mCons (mC (.str (Str.ofString "name"))) (mCons (mC (.str (Str.ofString "end"))) mNil))))) mNil))) (mCons (mTup (mCons (mC (.str (Str.ofString "outer1"))) (mCons (mLst (mCons (mC (.str (Str.ofString "name"))) (mCons (mC (.str (Str.ofString "end"))) mNil))) mNil))) (mCons (mTup (mCons (mC (.str (Str.ofString "1outer"))) (mCons (mLst (mCons (mC (.str (Str.ofString "wrong"))) (mCons (mC (.str (Str.ofString "end"))) mNil))) mNil))) mNil)))) mNil)))
    (mThen (M.bind (mItems (mVar 14)) fun ds => mFor [] (.tp [(.nm 6), (.nm 15)]) (mThen (mSet [] 16 (mCall [] 1 (g_marks_of) (mACons (mVar 6) mANil)))
    (mCond (mPeekXT [] (mOrT (mBl (mOp2 gNe (mLc 18 [8, 9, 13] (mItems (mVar 16)) (.tp [(.nm 8), (.nm 9), (.nm 13)]) (M.pure true) (mVar 8)) (mVar 15))) (mNotT (mTru (mFn gAll (mCons (mLc 18 [8, 9, 13] (mItems (mVar 16)) (.tp [(.nm 8), (.nm 9), (.nm 13)]) (M.pure true) (mOp2 gEq (mSlice (mVar 6) (mPart (mOp2 gSub (mOpV gIx (mVar 13) (mC (.int 1))) (mC (.int 1)))) (mPart (mOpVV gCat (mOp2 gSub (mOpV gIx (mVar 13) (mC (.int 1))) (mC (.int 1))) (mFn gLen (mCons (mVar 9) mNil))))) (mVar 9))) mNil)))))) (mRet (mC (.bl false))) (M.pure .nx))) ds)
    (mThen (M.bind (mItems (mTup (mCons (mC .non) (mCons (mC (.int 5)) (mCons (mLst mNil) (mCons (mLst (mCons (mC (.str (Str.ofString "word"))) mNil)) (mCons (mC (.bl true)) (mCons (mDNew false) (mCons (mTup (mCons (mC (.str (Str.ofString "a"))) mNil)) mNil))))))))) fun ds => mFor [] (.nm 17) (mCond (mNotT (mTru (mCall [] 2 (g__law_same 40) (mACons (mCallL [] 1 (g__law_met GK) (mALam 3 [17] mANil)) (mACons (mTup (mCons (mC (.str (Str.ofString "text"))) (mCons (mVar 17) mNil))) mANil))))) (mRet (mC (.bl false))) (M.pure .nx)) ds)
    (mRet (mAnd (mCall [] 2 (g__law_same 40) (mACons (mCall [] 1 (g_marks_of) (mACons (mC (.str (Str.ofString ""))) mANil)) (mACons (mLst (mCons (mTup (mCons (mC (.str (Str.ofString "end"))) (mCons (mC (.str (Str.ofString ""))) (mCons (mTup (mCons (mC (.int 1)) (mCons (mC (.int 1)) mNil))) mNil)))) mNil)) mANil))) (mCall [] 2 (g__law_is_very) (mACons (mC (.str (Str.ofString "text"))) (mACons (mC (.glo (Str.ofString "marks_of"))) mANil))))))))))
def outTrue : Out Fl → Bool
  | .ok (.rt (.all, .bl true)) _ => true
  | _ => false
theorem outTrue_ok {o : Out Fl} (h : outTrue o = true) : ∃ e, o = .ok (.rt (.all, .bl true)) e := by
  unfold outTrue at h
  split at h
  · exact ⟨_, rfl⟩
  · cases h
theorem rest_ok (s0 x1 x2 x3 x4 x5 x6 x7 x8 x9 x10 x11 x12 x13 x14 x15 x16 x17 : Option Val) : outTrue (lawR [s0, x1, x2, x3, x4, x5, x6, x7, x8, x9, x10, x11, x12, x13, x14, x15, x16, x17]) = true := by
  kernel_rfl
def LawE (k : Nat) (s0 : Option Val) (env : Env) : Prop := ∃ (v : Val) (x2 x3 x4 x5 x6 x7 x8 x9 x10 x11 x12 x13 x14 x15 x16 x17 : Option Val), env = [s0, some v, x2, x3, x4, x5, x6, x7, x8, x9, x10, x11, x12, x13, x14, x15, x16, x17] ∧ Stm k v
theorem turn_ok {k : Nat} {s0 : Option Val} {env : Env} (h : LawE (k + 303) s0 env) : ∃ env', turnB env = .ok .nx env' ∧ LawE k s0 env' := by
  obtain ⟨v, x2, x3, x4, x5, x6, x7, x8, x9, x10, x11, x12, x13, x14, x15, x16, x17, rfl, hs⟩ := h
  obtain ⟨v1, ps, y4, e1, h1, hp⟩ := q3_ok (k := k + 17) (s0 := s0) (x2 := x2) (x3 := x3) (x4 := x4) (x5 := x5) (x6 := x6) (x7 := x7) (x8 := x8) (x9 := x9) (x10 := x10) (x11 := x11) (x12 := x12) (x13 := x13) (x14 := x14) (x15 := x15) (x16 := x16) (x17 := x17) hs
  obtain ⟨v2, qs, y5, e2, h2, hq⟩ := q3c_ok (k := k + 16) (s0 := s0) (x2 := x2) (x4 := y4) (x5 := x5) (x6 := x6) (x7 := x7) (x8 := x8) (x9 := x9) (x10 := x10) (x11 := x11) (x12 := x12) (x13 := x13) (x14 := x14) (x15 := x15) (x16 := x16) (x17 := x17) h1 hp
  have e3 := qA_ok (s0 := s0) (v := some v2) (x2 := x2) (x3 := some (.all, .lst (qs.map pairD))) (x4 := y4) (x5 := y5) (x6 := x6) (x7 := x7) (x8 := x8) (x9 := x9) (x10 := x10) (x11 := x11) (x12 := x12) (x13 := x13) (x14 := x14) (x15 := x15) (x16 := x16) (x17 := x17)
  obtain ⟨v4, js, y8, y9, y10, y11, e4, hj, hg, hok, hlen, h4⟩ := qF_ok (k := k + 1) (s0 := s0) (x2 := x2) (x4 := y4) (x5 := y5) (x8 := x8) (x9 := x9) (x10 := x10) (x11 := x11) (x12 := x12) (x13 := x13) (x14 := x14) (x15 := x15) (x16 := x16) (x17 := x17) hq h2
  have hjl : js.length ≤ 15 := by
    have := hq.1
    rw [← hj] at this
    simpa using this
  have hmk : ∀ i ∈ js, MkOk i.2.1 i.2.2 := fun i hi => hq.2 (pairOf i) (by rw [← hj]; exact List.mem_map.mpr ⟨i, hi, rfl⟩)
  obtain ⟨v5, tl, e5, ht, h5⟩ := q6_ok (k := k) (s0 := s0) (x2 := x2) (x3 := some (.shr, .lst (qs.map pairD))) (x4 := y4) (x5 := y5) (x8 := y8) (x9 := y9) (x10 := y10) (x11 := y11) (x12 := x12) (x13 := x13) (x14 := x14) (x15 := x15) (x16 := x16) (x17 := x17) (x7 := some (.all, .lst (plcs [] js))) (t := body js) h4 (by omega)
  obtain ⟨⟨r, t1⟩, t2, t3, t4⟩ := ht
  have hnil : okL [] := fun _ h => by cases h
  have hT : (body js ++ tl).length ≤ sizeLine := by rw [sizeLine_eq]; simp; omega
  obtain ⟨z8, z9, z13, e6⟩ := q12_ok (s0 := s0) (x1 := some v5) (x2 := x2) (x4 := y4) (x5 := y5) (x6 := some (.all, .str (S (body js ++ tl)))) (x8 := y8) (x9 := y9) (x10 := y10) (x11 := y11) (x12 := x12) (x13 := x13) (x14 := x14) (x15 := x15) (x16 := x16) (x17 := x17) (js := js) (by omega)
  rw [hj] at e6
  have e7 := q12a_ok (s0 := s0) (x1 := some v5) (x2 := x2) (x3 := some (.shr, .lst (qs.map pairD))) (x4 := y4) (x5 := y5) (x7 := none) (x8 := z8) (x9 := z9) (x10 := y10) (x11 := y11) (x13 := z13) (x14 := x14) (x15 := x15) (x16 := x16) (x17 := x17) (t := body js ++ tl) (ds := marks [] js) hT (by rw [marks_len]; omega)
  have hmo := marks_ok hT t2 t1 (hg tl fun _ => t3) (by rw [sizeLine_eq]; omega)
  have e8 := qW_ok (s0 := s0) (x1 := some v5) (x2 := x2) (x3 := some (.shr, .lst (qs.map pairD))) (x4 := y4) (x5 := y5) (x7 := none) (x8 := z8) (x9 := z9) (x10 := y10) (x11 := y11) (x13 := z13) (x14 := x14) (x15 := x15) (x16 := x16) (x17 := x17) (t := body js ++ tl) (ds := marks [] js ++ [endMark (body js ++ tl)])
    (by simp only [okD, okAll_app, marks_okD js [] hmk, endMark, okAll, mark_okD end_str hnil, List.length_append, marks_len, List.length_cons, List.length_nil, Bool.and_true, decide_eq_true_eq]; omega)
    (by simp only [shortD, shortAll_app, marks_short, endMark, shortAll, mark_short, List.length_append, marks_len, List.length_cons, List.length_nil, Bool.and_true, decide_eq_true_eq]; omega)
    (by
      have := marks_dep js []
      simp only [dep, depAll_app, endMark, depAll, mark_dep]
      omega) hmo
  have hB : turnB [s0, some v, x2, x3, x4, x5, x6, x7, x8, x9, x10, x11, x12, x13, x14, x15, x16, x17] = .ok .nx [s0, some v5, x2, some (.shr, .lst (qs.map pairD)), y4, y5, some (.all, .str (S (body js ++ tl))), none, z8, z9, y10, y11, none, z13, x14, x15, x16, x17] := by
    unfold turnB
    simp only [ev_then, e1, ev_okb, e2, e3, e4, e5, e6, e7, e8]
  exact ⟨_, hB, v5, _, _, _, _, _, _, _, _, _, _, _, _, _, _, _, _, rfl, h5⟩
theorem turns_ok {s0 : Option Val} : ∀ (ds : List D) (k : Nat) (env : Env), LawE (k + 303 * ds.length) s0 env → ∃ env', mFor [] (.nm 2) turnB ds env = .ok .nx env' ∧ LawE k s0 env'
  | [], k, env, h => ⟨env, by simp [mFor], by simpa using h⟩
  | d :: ds, k, env, h => by
    obtain ⟨v, x2, x3, x4, x5, x6, x7, x8, x9, x10, x11, x12, x13, x14, x15, x16, x17, rfl, hs⟩ := h
    simp only [List.length_cons] at hs
    obtain ⟨env1, e1, h1⟩ := turn_ok (k := k + 303 * ds.length) (s0 := s0) (env := [s0, some v, some (nrm (.shr, d)), x3, x4, x5, x6, x7, x8, x9, x10, x11, x12, x13, x14, x15, x16, x17]) ⟨v, some (nrm (.shr, d)), x3, x4, x5, x6, x7, x8, x9, x10, x11, x12, x13, x14, x15, x16, x17, rfl, hs.less (by omega)⟩
    obtain ⟨env2, e2, h2⟩ := turns_ok ds k env1 h1
    refine ⟨env2, ?_, h2⟩
    simp [mFor, mTg, e1, e2]
theorem m_law_eq : m_law = mThen (mSet [] 1 (mCall [] 1 (g__law_stream) (mACons (mVar 0) mANil))) (mThen (M.bind (mWalk gRange1 (mCons (mC (.int 7)) mNil)) fun ds => mFor [] (.nm 2) turnB ds) lawR) := rfl
theorem law_plain (ns : List Int) (hl : ns.length ≤ 63) (hb : ∀ z ∈ ns, Builtin.Int.intBits z ≤ 1048576) (x : Val) (hx : scrArgs ns x) : ∃ m back, g_law [x] = .ok (m, .bl true) back := by
  obtain ⟨v, e1, h1⟩ := stream_ok hl hx
  have hf : frzV x = x := by rcases hx with rfl | rfl <;> simp [frzV]
  have hv : mVar 0 (some x :: List.replicate 17 none) = .ok x (some x :: List.replicate 17 none) := by rcases hx with rfl | rfl <;> simp
  obtain ⟨env', e2, v2, x2, x3, x4, x5, x6, x7, x8, x9, x10, x11, x12, x13, x14, x15, x16, x17, rfl, h2⟩ := turns_ok (s0 := some x) (rangeD 0 7) 0 ([some x, some v] ++ List.replicate 16 none) ⟨v, none, none, none, none, none, none, none, none, none, none, none, none, none, none, none, none, rfl, h1.less (by rw [rangeD_len]; decide)⟩
  obtain ⟨e, h3⟩ := outTrue_ok (rest_ok (some x) (some v2) x2 x3 x4 x5 x6 x7 x8 x9 x10 x11 x12 x13 x14 x15 x16 x17)
  have hrg := range1_ok (n := 7) (by omega) (by omega)
  have hn := h1.nrm
  refine ⟨.all, [none], ?_⟩
  have hm : m_law (some x :: List.replicate 17 none) = .ok (.rt (.all, .bl true)) e := by
    rw [m_law_eq]
    generalize lawR = R at *
    generalize turnB = B at *
    rw [ev_then, ev_set, ev_call, ev_aCons, hv]
    have e2' : mFor [] (.nm 2) B (rangeD 0 7) [some x, some v, none, none, none, none, none, none, none, none, none, none, none, none, none, none, none, none] = _ := e2
    have hr16 : (some x :: List.replicate 17 (none : Option Val)) = [some x, none, none, none, none, none, none, none, none, none, none, none, none, none, none, none, none, none] := rfl
    rw [hr16]
    simp [mCallF, lentOf, argsOf, hf, e1, putBack, hn, hrg, e2', h3]
  simp only [g_law, callM, List.map_cons, List.map_nil, List.cons_append, List.nil_append]
  have : 18 - 1 = 17 := rfl
  rw [this, hm]
  simp [backOf]
end BV
set_option maxHeartbeats 4000000
open PySem PySem.W PySem.Calls PyProof.Rows
theorem PySem.Challenge.cw_onethread_k01_whole_marks_holds : PySem.Challenge.rw_onethread_k01_whole_marks.Holds := by
  w_on; o_law
  refine HandSHeadRun.head_any (r := OpenLaw.row PySem.Challenge.rw_onethread_k01_whole_marks) (q := view (OpenLaw.row PySem.Challenge.rw_onethread_k01_whole_marks).prog [27]) (H := BV.hkX) (ob := BV.obX) (M := 3000) (loose := BV.loose) (d := HandSHeadRun.topDef (OpenLaw.row PySem.Challenge.rw_onethread_k01_whole_marks).prog 27) (kwd := []) BV.obX_eq
    (by kernel_rfl) (fun s => by kernel_rfl) BV.runX (by kernel_rfl) (by kernel_rfl) (by kernel_rfl) (by rfl) (by first | assumption | decide +kernel) (by decide +kernel) ⟨rfl, rfl, rfl, rfl, rfl, by decide +kernel⟩ ?hw ?hc
  case hw => w_witness2
  case hc =>
    refine LamX.walk_ofTsE (l := PySem.Challenge.rw_onethread_k01_whole_marks) (n := 63) (k := 43) (x := Str.ofString "script") (CX := fun w => L2.CX (PySem.Challenge.rw_onethread_k01_whole_marks).prog w) rfl (by decide) (by kernel_rfl) ⟨rfl, by decide, by decide⟩ ?F (fun w H s e s' z => BV.cx_none _ _ H s e s' z)
    intro w mg fa h Y G hmg0
    obtain ⟨K, KX, c⟩ := Y
    have hmg : mg (Str.ofString "law") = some (.ref fa) := by
      have e : (HandSHeadRun.topDef (OpenLaw.row PySem.Challenge.rw_onethread_k01_whole_marks).prog 27).name = Str.ofString "law" := by kernel_rfl
      rw [← e]
      exact hmg0
    obtain ⟨fd, hb, hF⟩ := BV.law_fn (P := (PySem.Challenge.rw_onethread_k01_whole_marks).prog) (w := w) KX G c
    have e := hmg.symm.trans (He.glo_ok KX G (c.t.d.fact 16 (f := .glo (Str.ofString "law")) rfl))
    cases e
    refine ⟨K, KX, fd, BV.tfL.map (He.cT K), BV.spD (BV.Wd.mk0 K mg (BV.tabsOf K)) 1 BV.g_law, fun p hp => ?_, fun p hp => ?_, fun p hp => ?_, hb, fun H a ns hl hbt hT hS => ?_, fun base _ _ hTB => hF base hTB⟩
    · obtain ⟨y, hy, rfl⟩ := List.mem_map.mp hp
      exact c.empty y hy
    · obtain ⟨y, hy, rfl⟩ := List.mem_map.mp hp
      exact c.out y hy
    · obtain ⟨y, hy, rfl⟩ := List.mem_map.mp hp
      exact PySem.W.codeHd_of_K KX (c.hd y hy)
    · exact BV.law_sp (BV.tabs_nil fun p hp => BV.tabs_mem hT p hp) hS fun x hx => BV.law_plain ns hl hbt x hx
